/- Part 4 of proofs that are told in their last texts. -/
import Derived.WalkKit
import Derived.KernelRfl
import Derived.Test.YtfahcenafcklmaaGreatDoorY1
import Derived.Orders
open List (all_cons flatten_cons getElem?_drop getElem?_take length_cons map_nil map_toArray mem_cons_self mem_filter size_toArray)
set_option linter.unusedVariables false
set_option linter.unusedSimpArgs false
set_option maxRecDepth 100000
namespace Go.Xw
open Go.RowKit
def nth:List Value->Nat->Value
 | [],_=>undef
 | v::_,0=>v
 | _::l,n+1=>nth l n
def fT:List Value->Nat->Value->List Value
 | [],_,_=>[]
 | _::l,0,v=>v::l
 | x::l,n+1,v=>x::fT l n v
def ev (l:List Value):Operand->Value
 | .tmp t=>nth l t
 | .const v=>v
 | .global g=>.pointer (some ⟨g,0,none⟩)
 | .func f=>.func (.func f) #[] #[]
def put (l:List Value) (d:Option Tmp) (v:Value):List Value :=
 match d with | some d=>fT l d v | none=>l
theorem jW (l:List Value) (t:Nat):l.toArray.getD t undef=nth l t:=by
 induction l generalizing t with
 | nil=>simp [nth]
 | cons x l ih =>
  cases t with
  | zero=>simp [nth]
  | succ t=>rw [nth,<-ih];simp [Array.getD]
theorem DO (l:List Value) (t:Nat) (v:Value):l.toArray.setIfInBounds t v=(fT l t v).toArray:=by
 have h:∀ (l:List Value) t,fT l t v=l.set t v:=by
  intro l
  induction l with
  | nil=>intro t;rfl
  | cons x l ih=>intro t;cases t with | zero=>rfl | succ t=>simp [fT,ih]
 rw [h];simp
def act (l:List Value):Act:=⟨l.toArray,[]⟩
theorem pK (l:List Value):(act l).eval=ev l:=by
 funext x;cases x <;> first | rfl | exact jW l _
theorem rA (l:List Value) (d:Option Tmp) (v:Value):(act l).put d v=act (put l d v):=by
 cases d with
 | none=>rfl
 | some d=>simp only [act,Act.put,put];rw [DO]
abbrev nF:=Exit->List Value->World->Prop
def lift (Q:nF):Exit->Act->World->Prop:=fun e a w=>∃ l,a=act l/\Q e l w
def W (P:Program) (c:Code) (Q:nF) (l:List Value) (w:World):Prop:=c.wp P (lift Q) (act l) w
def WL (P:Program) (ops:Array Oper) (Q:nF) (rest:List Oper) (l:List Value) (w:World):Prop :=
 wpList P ops (lift Q) rest (act l) w
def thn (next:List Value->World->Prop) (Q:nF):nF
 | .normal,l,w=>next l w
 | e,l,w=>Q e l w
def Yc (id:Nat) (Q:nF):nF
 | .exit zt,l,w=>if zt=id then Q .normal l w else Q (.exit zt) l w
 | e,l,w=>Q e l w
section
variable {P:Program} {Q:nF} {l:List Value} {w:World} {ops:Array Oper} {rest:List Oper}
theorem W.seq {x y:Code} (h:W P x (thn (W P y Q) Q) l w):W P (.seq x y) Q l w:=by
 refine wp_seq (wp_mono h ?_);rintro e a w ⟨l,rfl,hq⟩
 cases e <;> first | exact hq | exact ⟨l,rfl,hq⟩
theorem W.skip (h:Q .normal l w):W P .skip Q l w:=wp_skip ⟨l,rfl,h⟩
theorem W.exit {n:Nat} (h:Q (.exit n) l w):W P (.exit n) Q l w:=wp_exit ⟨l,rfl,h⟩
theorem W.ret (h:Q .ret l w):W P .ret Q l w:=wp_ret ⟨l,rfl,h⟩
theorem W.block {id:Nat} {c:Code} (h:W P c (Yc id Q) l w):W P (.block id c) Q l w:=by
 refine wp_block (wp_mono h ?_);rintro e a w ⟨l,rfl,hq⟩
 cases e with
 | exit zt =>
  simp only [Yc] at hq;simp only [Exit.inBlock];split <;> rename_i hh
  ·rw [ae hh] at hq;exact zdO
  ·rw [ab hh] at hq;exact zdO
 | normal=>exact zdO
 | goto _=>exact zdO
 | ret=>exact zdO
 | panic _=>exact zdO
 | outgrown=>exact zdO
theorem W.cond {c:Operand} {x y:Code} {t:Bool} (hc:ev l c=.bool t) (ht:t=true->W P x Q l w) (hf:t=false->W P y Q l w):W P (.cond c x y) Q l w:=by
 refine wp_cond_split (t:=t) (by rw [pK];exact hc) ht hf
theorem W.mono {c:Code} {Q':nF} (h:W P c Q l w) (hq:∀ e l w,Q e l w->Q' e l w):W P c Q' l w :=
 wp_mono h fun _ _ _ ⟨l,ha,q⟩=>⟨l,ha,hq _ _ _ q⟩
theorem W.loop {c:Code} {α:Type} (μ:α->Nat) (acI:α->List Value->World->Prop) (x:α) (h0:acI x l w)
  (round:∀ x l w,acI x l w->W P c (thn (fun l' w'=>∃ y,acI y l' w'/\μ y < μ x) Q) l w):W P (.loop c) Q l w:=by
 have key:∀ n x l w,μ x=n->acI x l w->∀ (b:Frame) (k:List Item) (cs:List Frame),
   ∃ e a' w',lift Q e a' w'/\Arrives P (lone (b.at (act l) (.code c::.inLoop c::k)) cs w) b k cs e a' w':=by
  intro n
  induction n using Nat.strongRecOn with
  | _ n ih =>
   intro x l w hn hI b k cs;obtain ⟨e,ab8,E8,hq,zV⟩:=round x l w hI b (.inLoop c::k) cs;obtain ⟨Eu,rfl,hq⟩:=hq
   cases e with
   | normal =>
    obtain ⟨y,Zz,au⟩:=hq;obtain ⟨aaB,aaz,ab2,ZI,Vu⟩:=ih (μ y) (hn ▸ au) y Eu E8 rfl Zz b k cs;exact ⟨aaB,aaz,ab2,ZI,.of_steps (Steps.trans zV (.one step_inLoop)) Vu⟩
   | exit id=>exact zaz
   | goto _=>exact zaz
   | ret=>exact zaz
   | panic ch=>exact zaz
   | outgrown=>exact zaz
 intro b k cs;obtain ⟨e,a',w',hq,zV⟩:=key _ x l w rfl h0 b k cs;exact ⟨e,a',w',hq,.of_steps (.one step_loop) zV⟩
theorem W.region {id:Nat} {ol:List Oper} (h:WL P ol.toArray Q ol l w):W P (.region id ol.toArray false) Q l w :=
 wp_region_lit h
theorem WL.nil (h:Q .normal l w):WL P ops Q [] l w:=⟨l,rfl,h⟩
theorem WL.val {d:Option Tmp} {op:Op} {ty:TypeId} {pos:String} {af:Array Edge} {v:Value} {w':World}
  (hr:(execOp (ev l) ⟨d,op,ty,pos,af,none⟩).run P w=.ok (.value v) w')
  (h:WL P ops Q rest (put l d v) w'):WL P ops Q (⟨d,op,ty,pos,af,none⟩::rest) l w:=by
 refine wpList_plain rfl fun K hK=>?_
 simp only [Oper.wp,pK,hr,Oper.upon_value,rA];exact hK _ _ h
theorem WL.skp {d:Option Tmp} {op:Op} {ty:TypeId} {pos:String} {af:Array Edge} {w':World}
  (hr:(execOp (ev l) ⟨d,op,ty,pos,af,none⟩).run P w=.ok .skip w')
  (h:WL P ops Q rest (put l d undef) w'):WL P ops Q (⟨d,op,ty,pos,af,none⟩::rest) l w:=by
 refine wpList_plain rfl fun K hK=>?_
 simp only [Oper.wp,pK,hr,Oper.upon_skip,rA];exact hK _ _ h
theorem WL.gt {d:Option Tmp} {op:Op} {ty:TypeId} {pos:String} {af:Array Edge} {g:Option (Nat × Bool)}
  (hw:Region.wanted ⟨d,op,ty,pos,af,g⟩ (yielded ops (act l).tmps)=true)
  (h:WL P ops Q (⟨d,op,ty,pos,af,none⟩::rest) l w):WL P ops Q (⟨d,op,ty,pos,af,g⟩::rest) l w:=by
 unfold WL wpList at *;rw [ae hw];rw [ae (by rfl)] at h;exact h
theorem WL.gf {d:Option Tmp} {op:Op} {ty:TypeId} {pos:String} {af:Array Edge} {g:Option (Nat × Bool)}
  (hw:Region.wanted ⟨d,op,ty,pos,af,g⟩ (yielded ops (act l).tmps)=false)
  (h:WL P ops Q rest (put l d undef) w):WL P ops Q (⟨d,op,ty,pos,af,g⟩::rest) l w:=by
 unfold WL wpList;rw [ab (by rw [hw];decide)];show wpList P ops (lift Q) rest ((act l).put d undef) w;rw [rA];exact h
end
section
variable {next:List Value->World->Prop} {Q:nF} {l:List Value} {w:World} {id zt:Nat}
end
structure Ext (S:Nat->Prop) (w w':World):Prop where
 os:w'.os=w.os
 tape:w'.tape=w.tape
 output:w'.output=w.output
 size:w.heap.size<=w'.heap.size
 block:∀ k,k < w.heap.size->¬ S k->w'.heap[k]?=w.heap[k]?
abbrev gL:Nat->Prop:=fun _=>False
theorem Ext.refl {S:Nat->Prop} (w:World):Ext S w w:=⟨rfl,rfl,rfl,aH _,fun _ _ _=>rfl⟩
theorem Ext.trans {S:Nat->Prop} {a b c:World} (h:Ext S a b) (k:Ext S b c):Ext S a c :=
 ⟨k.os.trans h.os,k.tape.trans h.tape,k.output.trans h.output,jg h.size k.size,
  fun i hi hs=>(k.block i (ze hi h.size) hs).trans (h.block i hi hs)⟩
theorem Ext.step {S0 S:Nat->Prop} {a b c:World} (h:Ext S0 a b) (k:Ext S b c) (hs:∀ j,S j->a.heap.size<=j\/S0 j):Ext S0 a c :=
 ⟨k.os.trans h.os,k.tape.trans h.tape,k.output.trans h.output,jg h.size k.size,
  fun i hi hn=>(k.block i (ze hi h.size) fun X1=>by
   rcases hs i X1 with D | D
   ·omega
   ·exact hn D).trans (h.block i hi hn)⟩
theorem Ext.mono {S S':Nat->Prop} {a b:World} (h:Ext S a b) (hs:∀ k,k < a.heap.size->S k->S' k):Ext S' a b :=
 ⟨h.os,h.tape,h.output,h.size,fun i hi hn=>h.block i hi fun x=>hn (hs i hi x)⟩
theorem Ext.blk {S:Nat->Prop} {a b:World} (h:Ext S a b) {k:Nat} {o:Obj} (hv:a.heap[k]?=some o) (hs:¬ S k):b.heap[k]?=some o:=by
 rw [h.block k (by have:=(Array.getElem?_eq_some_iff.1 hv).1;exact this) hs,hv]
theorem uh {w:World} {k:Nat} {o:Obj} (hv:w.heap[k]?=some o):k < w.heap.size:=(Array.getElem?_eq_some_iff.1 hv).1
theorem N4 {w:World} {b o:Nat} {cs:Array Value} {E:TypeId} {fz:Nat × Nat} {v:Value} (hb:w.heap[b]?=some (.cells cs E fz)) (hv:cs[o]?=some v):w.cell? ⟨b,o,none⟩=some v:=by
 rw [cell_of_row w b o cs E fz hb,hv]
theorem Ext.below {a b:World} (h:Ext gL a b):Below a.heap.size a b:=⟨h.os,h.tape,h.output,h.size,fun k hk=>h.block k hk (fun x=>x)⟩
structure xi (w w':World) (b:Nat) (o:Obj):Prop where
 fresh:b=w.heap.size
 size:w'.heap.size=b+1
 blk:w'.heap[b]?=some o
 ext:Ext gL w w'
theorem xi.of (w:World) (o:Obj):xi w (w.alloc o) w.heap.size o :=
 ⟨rfl,by simp,heap_alloc_new w o,⟨rfl,rfl,rfl,by simp,fun k hk _=>Below.heap_alloc _ _ _ hk⟩⟩
def AM:TypeDesc->Bool
 | .struct _=>true
 | .array _ _=>true
 | _=>false
class Ty (P:Program) (t:TypeId) (agg:outParam Bool) (k:outParam Nat):Prop where
 und:(P.underlying t).map AM=some agg
 siz:(P.info? t).map (·.size)=some k
class oK (P:Program) (t:TypeId) (e:outParam TypeId) (k:outParam Nat):Prop where
 und:P.underlying t=some (.slice e)
 siz:(P.info? e).map (·.size)=some k
class rS (P:Program) (t:TypeId):Prop where
 und:P.underlying t=some .string
def Mp (P:Program) (s:TypeId) (i:Nat) (off:Nat) (k:Nat) (agg:Bool):Bool :=
 match P.underlying s with
 | some (.struct fs)=>match fs[i]? with
  | some f=>f.offset==off&&(match P.info? f.type with | some x=>x.size==k | none=>false)&&k != 0&&((P.underlying f.type).map AM==some agg)
  | none=>false
 | _=>false
class fF (P:Program) (s:TypeId) (i:Nat) (off:outParam Nat) (k:outParam Nat) (agg:outParam Bool):Prop where
 is:Mp P s i off k agg=true
section
variable {P:Program} {w:World}
theorem Gb {t:TypeId} {agg:Bool} {k:Nat} [h:Ty P t agg k]:(isAgg t).run P w=.ok agg w:=by
 obtain ⟨hu,_⟩:=h
 cases hd:P.underlying t with
 | none=>simp [hd] at hu
 | some d =>
  rw [hd] at hu;unfold isAgg;rw [Sem.run_bind,run_underlying hd w]
  cases d <;> simp_all [AM]
theorem kz {t:TypeId} {k:Nat} (h:(P.info? t).map (·.size)=some k):(sizeOf t).run P w=.ok k w:=by
 cases hq:P.info? t with
 | none=>simp [hq] at h
 | some i=>simp [hq] at h;simp [sizeOf,typeInfo,hq,h]
theorem rT (b o n:Nat):(⟨b,o,none⟩:Addr).add n=⟨b,o+n,none⟩:=by
 unfold Addr.add;split
 ·rename_i h;subst h;rfl
 ·rfl
theorem Iz {t:TypeId} [h:Ty P t false 1] {a:Addr} {v:Value} (hv:w.cell? a=some v):(loadVar t a).run P w=.ok v w:=by
 unfold loadVar;rw [Sem.run_bind,Gb (agg:=false) (k:=1)];simp [hv]
theorem nV {t:TypeId} {k:Nat} [h:Ty P t true k] {b o:Nat} {vs:List Value} (hl:vs.length=k) (hv:∀ j v,vs[j]?=some v->w.cell? ⟨b,o+j,none⟩=some v) :
  (loadVar t ⟨b,o,none⟩).run P w=.ok (.agg vs.toArray) w:=by
 unfold loadVar;rw [Sem.run_bind,Gb (agg:=true) (k:=k)]
 have hc:(loadCells ⟨b,o,none⟩ k).run P w=.ok vs.toArray w:=by
  rw [<-hl]
  exact run_loadCells_list w _ vs fun j v hj=>by rw [rT];exact hv j v hj
 simp [kz h.siz,hc]
end
def fg (P:Program) (l:List Value) (w:World) (op:Op) (v:Value):Prop :=
 ∀ (d:Option Tmp) (ty:TypeId) (pos:String) (af:Array Edge),(execOp (ev l) ⟨d,op,ty,pos,af,none⟩).run P w=.ok (.value v) w
theorem WL.v {P:Program} {Q:nF} {l:List Value} {w:World} {ops:Array Oper} {rest:List Oper} {d:Option Tmp} {op:Op} {ty:TypeId} {pos:String} {af:Array Edge} {v:Value}
  (hr:fg P l w op v) (h:WL P ops Q rest (put l d v) w):WL P ops Q (⟨d,op,ty,pos,af,none⟩::rest) l w:=WL.val (hr d ty pos af) h
section
variable {P:Program} {l:List Value} {w:World}
theorem R.mv {x:Operand}:fg P l w (.move x) ((ev l x)):=fun d ty pos af=>by simp [execOp]
theorem R.mq {x:Operand}:fg P l w (.assign x) ((ev l x)):=fun d ty pos af=>by simp [execOp]
theorem R.pick {c a b:Operand} {t:Bool} (hc:ev l c=.bool t):fg P l w (.pick c a b) ((if t then ev l a else ev l b)):=fun d ty pos af=>by simp [execOp,hc,asBool]
theorem R.M7 {x:Operand} {a:Addr} (hx:ev l x=.pointer (some a)):fg P l w (.nilCheck x) ((.pointer (some a))):=fun d ty pos af=>by simp [execOp,hx]
theorem R.extract {x:Operand} {i:Nat} {vs:Array Value} {v:Value} (hx:ev l x=.tuple vs) (hv:vs[i]?=some v):fg P l w (.extract x i) (v):=fun d ty pos af=>by simp [execOp,hx,Instr.extract,hv]
theorem R.Ex {fn:Fn} {first cap:Array Operand}:fg P l w (.makeFunc fn first cap) ((.func fn (first.map (ev l)) (cap.map (ev l)))):=fun d ty pos af=>by simp [execOp,Instr.makeFunc]
abbrev ah:=List UInt8
def sv (s:ah):Value:=.string ⟨s.toArray⟩
theorem toList_mk (s:ah):(⟨s.toArray⟩:ByteArray).toList=s:=by
 simp [ByteArray.toList_eq]
theorem x9 (s:ah):(⟨s.toArray⟩:ByteArray).size=s.length:=by
 simp [ByteArray.size]
theorem aam (b:ByteArray):Value.string b=sv b.data.toList:=by
 simp [sv]
theorem N1 (a b:ah):(⟨a.toArray⟩:ByteArray)++⟨b.toArray⟩=⟨(a++b).toArray⟩:=by
 apply ByteArray.ext;simp
theorem extract_mk (s:ah) (i j:Nat):(⟨s.toArray⟩:ByteArray).extract i j=⟨((s.take j).drop i).toArray⟩:=by
 apply ByteArray.ext;simp [ByteArray.data_extract,List.take_drop]
 by_cases h:i<=j
 ·rw [Nat.add_sub_cancel' h]
 ·rw [List.drop_eq_nil_of_le zfS,List.drop_eq_nil_of_le zfS]
abbrev ii (n:Int):Value:=.int .i64 n
theorem EZ {n:Int} (D : -9223372036854775808<=n) (X:n<=9223372036854775807):IntKind.i64.wrap n=n:=IntWalk.i64_in _ ⟨D,X⟩
theorem R.SD {x:Operand} {t:TypeId} [hT:rS P t] {s:ah} (hx:ev l x=sv s):fg P l w (.call ⟨.builtin .len,#[x],#[t]⟩) ((ii s.length)):=fun d ty pos af=>by simp [execOp,resolve,invoke,builtin,hx,sv,Builtin.len_,goInt,run_underlying hT.und,x9]
theorem R.MY {x:Operand} {t e:TypeId} {k:Nat} [hT:oK P t e k] {a:Option Addr} {n c:Nat} (hx:ev l x=.slice a n c):fg P l w (.call ⟨.builtin .len,#[x],#[t]⟩) ((ii n)):=fun d ty pos af=>by simp [execOp,resolve,invoke,builtin,hx,Builtin.len_,goInt,run_underlying hT.und]
theorem R.add {x y:Operand} {t t':TypeId} {a b:Int} (hx:ev l x=ii a) (hy:ev l y=ii b) (D : -9223372036854775808<=a+b) (X:a+b<=9223372036854775807):fg P l w (.binOp .add t x y t') ((ii (a+b))):=fun d ty pos af=>by simp [execOp,eqGuard,hx,hy,binOp,Op.intArith,EZ D X]
theorem R.sub {x y:Operand} {t t':TypeId} {a b:Int} (hx:ev l x=ii a) (hy:ev l y=ii b) (D : -9223372036854775808<=a - b) (X:a - b<=9223372036854775807):fg P l w (.binOp .sub t x y t') ((ii (a - b))):=fun d ty pos af=>by simp [execOp,eqGuard,hx,hy,binOp,Op.intArith,EZ D X]
theorem R.mul {x y:Operand} {t t':TypeId} {a b:Int} (hx:ev l x=ii a) (hy:ev l y=ii b) (D : -9223372036854775808<=a * b) (X:a * b<=9223372036854775807):fg P l w (.binOp .mul t x y t') ((ii (a * b))):=fun d ty pos af=>by simp [execOp,eqGuard,hx,hy,binOp,Op.intArith,EZ D X]
theorem R.cat {x y:Operand} {t t':TypeId} {a b:ah} (hx:ev l x=sv a) (hy:ev l y=sv b) (D:a.length+b.length<=9223372036854775807):fg P l w (.binOp .add t x y t') ((sv (a++b))):=fun d ty pos af=>by
  have X:¬ ((((⟨a.toArray⟩:ByteArray).size+(⟨b.toArray⟩:ByteArray).size:Nat):Int) > IntKind.i64.max):=by
   rw [x9,x9];simp [IntKind.max,IntKind.signed,IntKind.bits];omega
  simp only [execOp,eqGuard,hx,hy,binOp,sv,Op.stringOp,ab X,N1];simp
theorem R.eq {x y:Operand} {t t':TypeId} {k:IntKind} {a b:Int} (hx:ev l x=.int k a) (hy:ev l y=.int k b):fg P l w (.binOp .eql t x y t') ((.bool (a==b))):=fun d ty pos af=>by simp [execOp,eqGuard,hx,hy,binOp,Op.intCmp]
theorem R.ne {x y:Operand} {t t':TypeId} {k:IntKind} {a b:Int} (hx:ev l x=.int k a) (hy:ev l y=.int k b):fg P l w (.binOp .neq t x y t') ((.bool (a != b))):=fun d ty pos af=>by simp [execOp,eqGuard,hx,hy,binOp,Op.intCmp]
theorem R.lt {x y:Operand} {t t':TypeId} {k:IntKind} {a b:Int} (hx:ev l x=.int k a) (hy:ev l y=.int k b):fg P l w (.binOp .lss t x y t') ((.bool (decide (a < b)))):=fun d ty pos af=>by simp [execOp,eqGuard,hx,hy,binOp,Op.intCmp]
theorem R.le {x y:Operand} {t t':TypeId} {k:IntKind} {a b:Int} (hx:ev l x=.int k a) (hy:ev l y=.int k b):fg P l w (.binOp .leq t x y t') ((.bool (decide (a<=b)))):=fun d ty pos af=>by simp [execOp,eqGuard,hx,hy,binOp,Op.intCmp]
theorem R.gt' {x y:Operand} {t t':TypeId} {k:IntKind} {a b:Int} (hx:ev l x=.int k a) (hy:ev l y=.int k b):fg P l w (.binOp .gtr t x y t') ((.bool (decide (b < a)))):=fun d ty pos af=>by simp [execOp,eqGuard,hx,hy,binOp,Op.intCmp]
theorem R.ge {x y:Operand} {t t':TypeId} {k:IntKind} {a b:Int} (hx:ev l x=.int k a) (hy:ev l y=.int k b):fg P l w (.binOp .geq t x y t') ((.bool (decide (b<=a)))):=fun d ty pos af=>by simp [execOp,eqGuard,hx,hy,binOp,Op.intCmp]
theorem R.oM {x y:Operand} {t t':TypeId} {a b:ah} (hx:ev l x=sv a) (hy:ev l y=sv b):fg P l w (.binOp .eql t x y t') ((.bool (a==b))):=fun d ty pos af=>by simp only [execOp,eqGuard,hx,hy,binOp,sv,Op.stringOp,toList_mk];simp
theorem R.o7 {x y:Operand} {t t':TypeId} {a b:ah} (hx:ev l x=sv a) (hy:ev l y=sv b):fg P l w (.binOp .neq t x y t') ((.bool (!(a==b)))):=fun d ty pos af=>by simp only [execOp,eqGuard,hx,hy,binOp,sv,Op.stringOp,toList_mk];simp
theorem R.not {x:Operand} {t:TypeId} {b:Bool} (hx:ev l x=.bool b):fg P l w (.unOp .not t x) ((.bool (!b))):=fun d ty pos af=>by simp [execOp,hx,Op.unary]
theorem R.jr {x y:Operand} {t:TypeId} [hT:rS P t] {s:ah} {k:IntKind} {i:Nat} {c:UInt8} (hx:ev l x=sv s) (hy:ev l y=.int k i) (hc:s[i]?=some c):fg P l w (.index t x y) ((.int .u8 c.toNat)):=fun d ty pos af=>by
  have hg:(⟨s.toArray⟩:ByteArray)[i]?=some c:=by
   obtain ⟨hi,hv⟩:=bu hc
   have qR:i < (⟨s.toArray⟩:ByteArray).size:=by rw [x9];exact hi
   rw [getElem?_pos (⟨s.toArray⟩:ByteArray) i qR];simp only [ByteArray.getElem_eq_getElem_data];simpa using hv
  simp [execOp,Instr.index,hx,hy,asIntOf,run_underlying hT.und,sv,hg]
theorem R.Ta {x:Operand} {t:TypeId} [hT:rS P t] {s:ah} {lo hi:Option Operand} {i j:Nat} (hx:ev l x=sv s)
  (jT:match lo with | some y=>∃ k,ev l y=.int k i | none=>i=0) (xD:match hi with | some y=>∃ k,ev l y=.int k j | none=>j=s.length)
  (D:i<=j) (X:j<=s.length):fg P l w (.slice t x lo hi none) ((sv ((s.take j).drop i))):=fun d ty pos af=>by
  have dR:=x9 s
  cases lo <;> cases hi <;> simp only at jT xD
  ·subst jT;subst xD;simp [execOp,Instr.sliceAt,Instr.slice,Instr.sliceBounds,hx,sv,run_underlying hT.und,dR,extract_mk]
  ·obtain ⟨k,hk⟩:=xD;subst jT;simp [execOp,Instr.sliceAt,Instr.slice,Instr.sliceBounds,Instr.sliceBound,asIntOf,hx,hk,sv,run_underlying hT.und,dR,extract_mk,X]
  ·obtain ⟨k,hk⟩:=jT;subst xD;simp [execOp,Instr.sliceAt,Instr.slice,Instr.sliceBounds,Instr.sliceBound,asIntOf,hx,hk,sv,run_underlying hT.und,dR,extract_mk,D]
  ·obtain ⟨k,hk⟩:=jT;obtain ⟨k',fk⟩:=xD;simp [execOp,Instr.sliceAt,Instr.slice,Instr.sliceBounds,Instr.sliceBound,asIntOf,hx,hk,fk,sv,run_underlying hT.und,dR,extract_mk,D,X]
theorem R.kJ {x y:Operand} {t e:TypeId} {k:Nat} [hT:oK P t e k] {b o n c:Nat} {kk:IntKind} {i:Nat} (hx:ev l x=.slice (some ⟨b,o,none⟩) n c) (hy:ev l y=.int kk i) (hi:i < n):fg P l w (.indexAddr t x y) ((.pointer (some ⟨b,o+i * k,none⟩))):=fun d ty pos af=>by
  simp [execOp,Instr.indexAt,hx,hy,asIntOf,run_underlying hT.und,hi,kz hT.siz,rT]
theorem R.RH {x:Operand} {s:TypeId} {i off k:Nat} {agg:Bool} [hT:fF P s i off k agg] {b o:Nat} (hx:ev l x=.pointer (some ⟨b,o,none⟩)):fg P l w (.fieldAddr s x i) ((.pointer (some ⟨b,o+off,none⟩))):=fun d ty pos af=>by
  obtain ⟨hT⟩:=hT;unfold Mp at hT;split at hT
  ·rename_i fs hu;split at hT
   ·rename_i f hf;simp only [aI,beq_iff_eq,bne_iff_ne,ne_eq] at hT;obtain ⟨⟨⟨D,X⟩,h3⟩,h4⟩:=hT;split at X
    ·rename_i x hq
     have hs:(P.info? f.type).map (·.size)=some k:=by rw [hq];simpa using X
     simp [execOp,Instr.fieldAt,hx,run_underlying hu,hf,Instr.sureAddr,fieldPlace,kz hs,h3,rT,D]
    ·cases X
   ·cases hT
  ·cases hT
theorem R.ld1 {x:Operand} {t:TypeId} [hT:Ty P t false 1] {a:Addr} {v:Value} (hx:ev l x=.pointer (some a)) (hv:w.cell? a=some v):fg P l w (.load t x) (v):=fun d ty pos af=>by simp [execOp,Instr.loadAt,hx,Instr.sureAddr,Iz hv]
theorem R.ldN {x:Operand} {t:TypeId} {k:Nat} [hT:Ty P t true k] {b o:Nat} {vs:List Value} (hx:ev l x=.pointer (some ⟨b,o,none⟩)) (hl:vs.length=k)
  (hv:∀ j v,vs[j]?=some v->w.cell? ⟨b,o+j,none⟩=some v):fg P l w (.load t x) ((.agg vs.toArray)):=fun d ty pos af=>by simp [execOp,Instr.loadAt,hx,Instr.sureAddr,nV hl hv]
end
def ja (H:Array Obj) (b o:Nat):Option Value :=
 match H[b]? with
 | some (.cells c _ _)=>c[o]?
 | _=>none
theorem gk (w:World) (b o:Nat):w.cell? ⟨b,o,none⟩=ja w.heap b o:=by
 unfold World.cell? ja
 cases w.heap[b]? with
 | none=>rfl
 | some x=>cases x <;> rfl
theorem G3 {H:Array Obj} {b o:Nat} {v:Value} (h:ja H b o=some v):b < H.size:=by
 unfold ja at h
 cases hb:H[b]? with
 | none=>exact za0
 | some x=>exact (Array.getElem?_eq_some_iff.1 hb).1
theorem Ext.c {S:Nat->Prop} {w w':World} (hx:Ext S w w') {b o:Nat} {v:Value} (h:ja w.heap b o=some v) (hs:¬ S b):ja w'.heap b o=some v:=by
 unfold ja at *;rw [hx.block b (G3 (H:=w.heap) (by unfold ja;exact h)) hs];exact h
theorem yn {H:Array Obj} {b o:Nat} {cs:Array Value} {E:TypeId} {fz:Nat × Nat} {v:Value} (hb:H[b]?=some (.cells cs E fz)) (hv:cs[o]?=some v):ja H b o=some v:=by
 unfold ja;rw [hb];exact hv
theorem Ext.drew {S:Nat->Prop} (w:World):Ext S w w.drew:=⟨rfl,rfl,rfl,aH _,fun _ _ _=>rfl⟩
theorem R.ld {P:Program} {l:List Value} {w:World} {x:Operand} {t:TypeId} [hT:Ty P t false 1] {b o:Nat} {v:Value} (hx:ev l x=.pointer (some ⟨b,o,none⟩)) (hv:ja w.heap b o=some v):fg P l w (.load t x) v:=R.ld1 hx (by rw [gk];exact hv)
theorem R.ldS {P:Program} {l:List Value} {w:World} {x:Operand} {t:TypeId} {k:Nat} [hT:Ty P t true k] {b o:Nat} {vs:List Value} (hx:ev l x=.pointer (some ⟨b,o,none⟩)) (hl:vs.length=k)
  (hv:∀ j v,vs[j]?=some v->ja w.heap b (o+j)=some v):fg P l w (.load t x) (.agg vs.toArray):=R.ldN hx hl (fun j v h=>by rw [gk];exact hv j v h)
section
variable {H:Array Obj} {b o:Nat} {v0 v1 v2 v3 v4 v5:Value}
end
class qL (P:Program) (t:TypeId) (z:outParam Value):Prop where
 is:(P.info? t).bind (·.zero)=some z
structure wc (w w':World) (b:Nat) (cs:Array Value) (E:TypeId):Prop where
 blk:w'.heap[b]?=some (.cells cs E (0,0))
 ext:Ext (·=b) w w'
 size:w'.heap.size=w.heap.size
def xd (cs:Array Value) (o:Nat):List Value->Array Value
 | []=>cs
 | v::r=>xd (cs.setIfInBounds o v) (o+1) r
def oz (vs:List Value):Bool:=vs.all (·.oneCell')
section
variable {P:Program} {w:World}
theorem CB {t:TypeId} {z:Value} [h:qL P t z]:(zeroValue t).run P w=.ok z w:=by
 obtain ⟨h⟩:=h
 cases hq:P.info? t with
 | none=>simp [hq] at h
 | some i=>simp [hq] at h;simp [zeroValue,typeInfo,hq,h]
theorem wc.refl {b:Nat} {cs:Array Value} {E:TypeId} (hb:w.heap[b]?=some (.cells cs E (0,0))):wc w w b cs E:=⟨hb,Ext.refl _,rfl⟩
theorem wc.trans {w1 w2:World} {b:Nat} {cs Ox:Array Value} {E:TypeId} (h:wc w w1 b cs E) (k:wc w1 w2 b Ox E):wc w w2 b Ox E :=
 ⟨k.blk,h.ext.trans k.ext,k.size.trans h.size⟩
theorem wc.setCell {b o:Nat} {cs:Array Value} {E:TypeId} (hb:w.heap[b]?=some (.cells cs E (0,0))) (v:Value) :
  wc w (w.setCell ⟨b,o,none⟩ v) b (cs.setIfInBounds o v) E :=
 ⟨heap_setCell_same w b o cs E v hb,⟨rfl,rfl,rfl,by simp,fun k _ hs=>heap_setCell_other w _ k v hs⟩,by simp⟩
theorem x8 {b o:Nat} {E:TypeId}:∀ (vs:List Value) (i:Nat) (w:World) (cs:Array Value),w.heap[b]?=some (.cells cs E (0,0))->o+i+vs.length<=cs.size->oz vs=true ->
  ∃ w',(storeCells ⟨b,o,none⟩ vs i).run P w=.ok () w'/\wc w w' b (xd cs (o+i) vs) E
 | [],i,w,cs,hb,_,_=>⟨w,by simp [storeCells],wc.refl hb⟩
 | v::r,i,w,cs,hb,hl,D=>by
  simp only [oz,all_cons,aI] at D;simp only [length_cons] at hl;have hs:=wc.setCell (w:=w) (o:=o+i) hb v;obtain ⟨w',hr,cU⟩:=x8 (b:=b) (o:=o) (E:=E) r (i+1) _ _ hs.blk zfS D.2;refine ⟨w',?_,hs.trans (by simpa [xd,iy] using cU)⟩;have hc:w.cell? ⟨b,o+i,none⟩=cs[o+i]?:=cell_of_row w b (o+i) cs E (0,0) hb;have dw:∃ u,w.cell? ⟨b,o+i,none⟩=some u:=⟨cs[o+i]'zfw,by rw [hc];simp⟩;obtain ⟨u,hu⟩:=dw;have hf:w.frozen? ⟨b,o+i,none⟩=false:=frozen_of_row w b _ cs E hb
  have abG:(store ((⟨b,o,none⟩:Addr).add i) v).run P w=.ok () (w.setCell ⟨b,o+i,none⟩ v):=by
   rw [rT]
   cases v <;> first | (simp [Value.oneCell'] at D;done) | simp [store,Sem.run,hu,hf]
  simp only [storeCells,Sem.run_bind,abG,Result.andThen_ok,hr]
theorem IA {t:TypeId} {agg:Bool} {k:Nat} [hT:Ty P t agg k] {b o:Nat} {E:TypeId} {cs:Array Value} {v:Value} (hb:w.heap[b]?=some (.cells cs E (0,0)))
  (hl:v.cells.size=k) (ho:o+k<=cs.size) (D:oz v.cells.toList=true) :
  ∃ w',(storeVar t ⟨b,o,none⟩ v).run P w=.ok () w'/\wc w w' b (xd cs o v.cells.toList) E:=by
 obtain ⟨w',hr,hs⟩:=x8 (P:=P) (o:=o) v.cells.toList 0 w cs hb zfS D;refine ⟨w',?_,by simpa using hs⟩;simp [storeVar,kz hT.siz,hl,hr]
end
def nW:List Value->Nat->List Value->List Value
 | cs,_,[]=>cs
 | cs,o,v::r=>nW (fT cs o v) (o+1) r
def rZ (pl:Nat->Option (Nat × Nat)):List Value->List (Nat × Value)->Option (List Value)
 | cs,[]=>some cs
 | cs,(i,v)::r=>match pl i with
  | none=>none
  | some (o,k)=>if v.cells.size≠k || decide (o+v.cells.size > cs.length) then none else rZ pl (nW cs o v.cells.toList) r
theorem CQ:∀ (vs:List Value) (cs:List Value) (o n:Nat),
  (vs.zipIdx n).foldl (fun (cs:Array Value) (x:Value × Nat)=>cs.setIfInBounds (o+x.2) x.1) cs.toArray=(nW cs (o+n) vs).toArray
 | [],cs,o,n=>by simp [nW]
 | v::r,cs,o,n=>by
  simp only [List.zipIdx_cons,List.foldl_cons,DO,nW];rw [CQ r];rfl
theorem zO (pl:Nat->Option (Nat × Nat)):∀ (parts:List (Nat × Value)) (cs:List Value),
  Instr.fill pl cs.toArray parts=(rZ pl cs parts).map List.toArray
 | [],cs=>by simp [Instr.fill,rZ]
 | (i,v)::r,cs=>by
  simp only [Instr.fill,rZ]
  cases hp:pl i with
  | none=>rfl
  | some x =>
   obtain ⟨o,k⟩:=x;simp only [size_toArray];split
   ·rfl
   ·have h:(v.cells.zipIdx.foldl (fun (cs:Array Value) (x:Value × Nat)=>cs.setIfInBounds (o+x.2) x.1) cs.toArray)=(nW cs o v.cells.toList).toArray:=by
     have:=CQ v.cells.toList cs o 0;rw [<-Array.foldl_toList,Array.toList_zipIdx];exact this
    have X:=zO pl r (nW cs o v.cells.toList);rw [<-X,<-h]
def UJ (P:Program) (t:TypeId) (pl:List (Nat × Nat)):Bool :=
 match P.underlying t with
 | some (.struct fs)=>(fs.toList.map fun f=>(f.offset,(P.info? f.type).map (·.size)))==pl.map fun x=>(x.1,some x.2)
 | _=>false
class va (P:Program) (t:TypeId) (pl:outParam (List (Nat × Nat))) (z:outParam (List Value)):Prop where
 is:UJ P t pl=true
 zero:(P.info? t).bind (·.zero)=some (.agg z.toArray)
section
variable {P:Program} {w:World}
theorem DE {fs:List Field}:∀ {pl:List (Nat × Nat)},(fs.map fun f=>(f.offset,(P.info? f.type).map (·.size)))=(pl.map fun x=>(x.1,some x.2)) ->
  (List.mapM (m:=Sem) (fun (f:Field)=>Functor.map (Prod.mk f.offset) (sizeOf f.type)) fs).run P w=.ok pl w:=by
 induction fs with
 | nil=>intro pl h;cases pl with | nil=>simp | cons=>simp at h
 | cons f fs ih =>
  intro pl h
  cases pl with
  | nil=>simp at h
  | cons x pl =>
   simp only [List.map_cons,List.cons.injEq,Prod.mk.injEq] at h;obtain ⟨⟨D,X⟩,h3⟩:=h;have:=ih h3;have h5:=kz (w:=w) X;simp [List.mapM_cons,Sem.run_bind,h5,this,D]
theorem run_build {t:TypeId} {pl:List (Nat × Nat)} {z:List Value} [hT:va P t pl z] {parts:List (Nat × Value)} {cs:List Value} (hf:rZ (fun i=>pl[i]?) z parts=some cs) :
  (Instr.build t parts.toArray).run P w=.ok (.agg cs.toArray) w:=by
 obtain ⟨hi,hz⟩:=hT
 have hzz:(zeroValue t).run P w=.ok (.agg z.toArray) w:=by
  haveI:qL P t (.agg z.toArray):=⟨hz⟩
  exact CB
 unfold UJ at hi;split at hi
 ·rename_i fs hu;have hm:=DE (P:=P) (w:=w) (eq_of_beq hi)
  have mN:(Array.mapM (m:=Sem) (fun (f:Field)=>Functor.map (Prod.mk f.offset) (sizeOf f.type)) fs).run P w=.ok pl.toArray w:=by
   rw [Array.mapM_eq_mapM_toList];simp [hm]
  have lV:=zO (fun i=>pl[i]?) parts z;rw [hf] at lV;simp [Instr.build,Sem.run_bind,hzz,run_underlying hu,mN,Value.cells];simp [lV]
 ·cases hi
end
section
variable {P:Program} {Q:nF} {l:List Value} {w:World} {ops:Array Oper} {rest:List Oper} {d:Option Tmp} {ty:TypeId} {pos:String} {af:Array Edge}
theorem DF (t:TypeId) (v:Value):(newVar t v).run P w=.ok ⟨w.heap.size,0,none⟩ (w.alloc (.cells v.cells t)):=by
 rfl
theorem WL.alloc {t:TypeId} {z:Value} [hT:qL P t z] (h:∀ b w',xi w w' b (.cells z.cells t)->WL P ops Q rest (put l d (.pointer (some ⟨b,0,none⟩))) w') :
  WL P ops Q (⟨d,.alloc t,ty,pos,af,none⟩::rest) l w :=
 WL.val (w':=w.alloc (.cells z.cells t)) (by simp [execOp,Instr.alloc,CB (w:=w) (z:=z),DF]) (h _ _ (xi.of w _))
theorem WL.box {t:TypeId} {x:Operand} {v:Value} (hx:ev l x=v) (h:∀ b w',xi w w' b (.cells v.cells t)->WL P ops Q rest (put l d (.pointer (some ⟨b,0,none⟩))) w') :
  WL P ops Q (⟨d,.box t x,ty,pos,af,none⟩::rest) l w :=
 WL.val (w':=w.alloc (.cells v.cells t)) (by simp [execOp,Instr.box,DF,hx]) (h _ _ (xi.of w _))
theorem R.build {t:TypeId} {pl:List (Nat × Nat)} {z:List Value} [hT:va P t pl z] {parts:List (Nat × Operand)} {cs:List Value}
  (hf:rZ (fun i=>pl[i]?) z (parts.map fun x=>(x.1,ev l x.2))=some cs):fg P l w (.build t parts.toArray) (.agg cs.toArray):=fun d ty pos af=>by
  have hr:=run_build (P:=P) (w:=w) (t:=t) hf;simp only [execOp,map_toArray];simp [hr]
class rR (P:Program) (t:TypeId) (e:outParam TypeId) (k:outParam Nat) (z:outParam (List Value)):Prop where
 und:P.underlying t=some (.slice e)
 siz:(P.info? e).map (·.size)=some k
 zero:(P.info? e).bind (·.zero)=some (if k=1 then z.headD undef else .agg z.toArray)
 zl:z.length=k
 pos:0 < k
 one:k=1->(z.headD undef).cells=#[z.headD undef]
theorem rR.cells {t e:TypeId} {k:Nat} {z:List Value} (h:rR P t e k z):(if k=1 then z.headD undef else .agg z.toArray).cells=z.toArray:=by
 split
 ·rename_i hk;rw [h.one hk];have:=h.zl;rw [hk] at this
  match z,this with
  | [a],_=>rfl
 ·rfl
theorem WL.Ey {t e:TypeId} {k:Nat} {z:List Value} [hT:rR P t e k z] {n:Nat} {parts:List (Nat × Operand)} {cs:List Value} (hn:n * k<=16777216)
  (hf:rZ (fun i=>some (i * k,k)) ((List.range (n * k)).map fun j=>z.getD (j % k) undef) (parts.map fun x=>(x.1,ev l x.2))=some cs)
  (h:∀ b w',xi w w' b (.cells cs.toArray e)->WL P ops Q rest (put l d (.slice (some ⟨b,0,none⟩) n n)) w') :
  WL P ops Q (⟨d,.buildSlice t n parts.toArray,ty,pos,af,none⟩::rest) l w :=
 WL.val (w':=w.alloc (.cells cs.toArray e)) (by
  have hz:(zeroValue e).run P w=.ok (if k=1 then z.headD undef else .agg z.toArray) w:=by
   haveI:qL P e (if k=1 then z.headD undef else .agg z.toArray):=⟨hT.zero⟩
   exact CB
  have hc:=hT.cells;generalize (if k=1 then z.headD undef else .agg z.toArray:Value)=zv at hz hc;have lV:=zO (fun i=>some (i * k,k)) (parts.map fun x=>(x.1,ev l x.2)) ((List.range (n * k)).map fun j=>z.getD (j % k) undef);rw [hf] at lV
  have xG:¬ (16777216 < n * k):=by omega
  by_cases h0:n * k=0
  ·have h00:n=0:=by
    rcases Nat.mul_eq_zero.1 h0 with h | h
    ·exact h
    ·have:=hT.pos;omega
   subst h00;simp only [Nat.zero_mul,List.range_zero,map_nil] at lV;simp only [execOp,map_toArray];have vy:(Array.range 0)=#[]:=rfl;simp [Instr.buildSlice,run_underlying hT.und,kz hT.siz,vy,lV];rfl
  ·have he:(Array.range (n * k)).map (fun j=>z.toArray[j % z.toArray.size]!)=((List.range (n * k)).map fun j=>z.getD (j % k) undef).toArray:=by
    apply Array.ext';simp only [Array.toList_map,Array.toList_range];apply List.map_congr_left;intro j _;have hk:=hT.pos
    have au:j % k < z.length:=by rw [hT.zl];exact Nat.mod_lt _ hk
    rw [List.getD_eq_getElem?_getD,ct au];simp [hT.zl];rw [ct au];rfl
   rw [<-he] at lV;simp only [execOp,map_toArray];simp [Instr.buildSlice,run_underlying hT.und,kz hT.siz,xG,h0,hz,hc];simp only [size_toArray] at lV;simp at lV;simp [lV]
   rfl) (h _ _ (xi.of w _))
theorem WL.st {x y:Operand} {t:TypeId} {agg:Bool} {k:Nat} [hT:Ty P t agg k] {b o:Nat} {E:TypeId} {cs:Array Value} {v:Value} (hx:ev l x=.pointer (some ⟨b,o,none⟩)) (hy:ev l y=v)
  (hb:w.heap[b]?=some (.cells cs E (0,0))) (hl:v.cells.size=k) (ho:o+k<=cs.size) (D:oz v.cells.toList=true)
  (h:∀ w',wc w w' b (xd cs o v.cells.toList) E->WL P ops Q rest (put l d undef) w'):WL P ops Q (⟨d,.store t x y,ty,pos,af,none⟩::rest) l w:=by
 obtain ⟨w',hr,hs⟩:=IA (P:=P) (t:=t) hb hl ho D;exact WL.skp (w':=w') (by simp [execOp,Instr.storeAt,hx,hy,Instr.sureAddr,hr]) (h w' hs)
end
def G8 (P:Program) (f:FuncId):Bool :=
 match P.funcs[f]? with
 | some fn=>fn.name != "runtime.NumGoroutine" && fn.body.isSome
 | none=>false
class aP (P:Program) (f:FuncId):Prop where
 ok:G8 P f=true
def oJ (P:Program) (f:FuncId) (args:List Value) (w:World) (R:Value->World->Prop):Prop :=
 Calls P f args.toArray w fun e w'=>∃ v,e=.returned v/\R v w'
theorem oJ.mono {P:Program} {f:FuncId} {args:List Value} {w:World} {R R':Value->World->Prop} (h:oJ P f args w R) (hr:∀ v w',R v w'->R' v w'):oJ P f args w R' :=
 Calls.mono h fun _ _ ⟨v,he,r⟩=>⟨v,he,hr _ _ r⟩
theorem qa {P:Program} {w:World} {f:FuncId} [h:aP P f] (args:Array Value):(callFunc f args).run P w=.ok (.enter f args) w:=by
 obtain ⟨h⟩:=h;unfold G8 at h;split at h
 ·rename_i fn hf;simp only [aI,bne_iff_ne,ne_eq] at h
  have X:fn.body.isNone=false:=by cases hb:fn.body <;> simp_all
  simp [callFunc,program,Sem.run,hf,h.1,X];intro hn;simp [hn] at X
 ·cases h
section
variable {P:Program} {Q:nF} {l:List Value} {w:World} {ops:Array Oper} {rest:List Oper} {d:Option Tmp} {ty:TypeId} {pos:String} {af:Array Edge}
theorem WL.calls {op:Op} {f:FuncId} {D2:List Value} (hr:(execOp (ev l) ⟨d,op,ty,pos,af,none⟩).run P w=.ok (.enter f D2.toArray) w) {R:Value->World->Prop}
  (hc:oJ P f D2 w R) (h:∀ v w',R v w'->WL P ops Q rest (put l d v) w'):WL P ops Q (⟨d,op,ty,pos,af,none⟩::rest) l w:=by
 refine wpList_plain rfl fun K hK=>?_
 simp only [Oper.wp,pK,hr,Oper.upon_enter];refine Calls.mono hc ?_;rintro e w' ⟨v,rfl,hv⟩;simp only [rA];exact hK _ _ (h v w' hv)
theorem WL.call {f:FuncId} [hf:aP P f] {args:List Operand} {qz:Array TypeId} {D2:List Value} (ha:args.map (ev l)=D2) {R:Value->World->Prop}
  (hc:oJ P f D2 w R) (h:∀ v w',R v w'->WL P ops Q rest (put l d v) w'):WL P ops Q (⟨d,.call ⟨.value (.func f),args.toArray,qz⟩,ty,pos,af,none⟩::rest) l w :=
 WL.calls (by simp [execOp,resolve,ev,Deferred.ofValue,invoke,qa,ha]) hc h
end
def Iv:Nat->List Value
 | 0=>[]
 | n+1=>undef::Iv n
def frame:List Value->Nat->List Value
 | [],n=>Iv n
 | a::r,n=>a::frame r (n - 1)
theorem YF (n:Nat):Iv n=List.replicate n undef:=by
 induction n with
 | zero=>rfl
 | succ n ih=>rw [Iv,ih];rfl
theorem RL (args:List Value) (n:Nat):frame args n=args++List.replicate (n - args.length) undef:=by
 induction args generalizing n with
 | nil=>simp [frame,YF]
 | cons a r ih=>rw [frame,ih];simp [Nat.sub_sub,Nat.add_comm]
def Tv (P:Program) (fn:Func) (R:Value->World->Prop):nF
 | .normal,l,w | .ret,l,w=>∃ v,(results fn l.toArray).run P w=.ok v w/\R v w
 | _,_,_=>False
theorem oJ.enter {P:Program} {f:FuncId} {fn:Func} {c:Code} {args:List Value} {w:World} {R:Value->World->Prop} {n:Nat} {l:List Value}
  (hf:P.funcs[f]?=some fn) (hn:fn.ntmps=n) (hb:fn.body=some c) (hl:frame args n=l) (h:W P c (Tv P fn R) l w):oJ P f args w R:=by
 subst hl;refine calls_of_wp hf hb ?_
 have mM:(args.toArray++Array.replicate (fn.ntmps - args.toArray.size) undef)=(frame args n).toArray:=by
  simp [RL,hn]
 rw [mM];refine wp_mono h ?_;rintro e a w ⟨l,rfl,hq⟩
 cases e <;> simp only [Tv] at hq <;> simp only [bodyPost]
 ·obtain ⟨v,hr,hv⟩:=hq;exact ⟨rfl,v,hr,v,rfl,hv⟩
 ·obtain ⟨v,hr,hv⟩:=hq;exact ⟨rfl,v,hr,v,rfl,hv⟩
def WC (P:Program) (t e k kD:Nat):Bool :=
 (match P.underlying t with | some (.slice e')=>e'==e | _=>false) &&
 (match P.info? e with
  | some i=>(match i.zero with | some z=>z.cells.size==k | none=>false)&&i.size==k&&i.bytes==kD
  | none=>false)&&k != 0
class qH (P:Program) (t:TypeId) (e:outParam TypeId) (k:outParam Nat) (kD:outParam Nat):Prop where
 is:WC P t e k kD=true
theorem qH.parts {P:Program} {t e k kD:Nat} (h:qH P t e k kD) :
  P.underlying t=some (.slice e)/\(∃ i z,P.info? e=some i/\i.zero=some z/\z.cells.size=k/\i.size=k/\i.bytes=kD)/\0 < k:=by
 obtain ⟨h⟩:=h;simp only [WC,aI,bne_iff_ne,ne_eq] at h;obtain ⟨⟨D,X⟩,h3⟩:=h;refine ⟨?_,?_,by omega⟩
 ·split at D
  ·rename_i e' hu;rw [hu];simp at D;rw [D]
  ·cases D
 ·split at X
  ·rename_i i hi;simp only [aI,beq_iff_eq] at X;obtain ⟨⟨h4,h5⟩,h6⟩:=X;split at h4
   ·rename_i z hz;exact ⟨i,z,hi,hz,by simpa using h4,h5,h6⟩
   ·cases h4
  ·cases X
abbrev iL (w:World) (base:Nat) (e k:Nat) (v:Value) (n:Nat) (xs:List Value):Prop:=w.ownsRow base e k v n xs
theorem iL.nil (w:World) (base e k:Nat):iL w base e k (.slice none 0 0) 0 []:=World.ownsRow_nil w base e k
theorem iL.ext {S:Nat->Prop} {w w':World} {base e k:Nat} {v:Value} {n:Nat} {xs:List Value} (h:iL w base e k v n xs) (hx:Ext S w w') (hs:∀ b,v.ownBlock=some b->¬ S b):iL w' base e k v n xs:=by
 obtain ⟨D,X⟩:=h;refine ⟨D,?_⟩
 rcases X with X | ⟨g,cap,cur,rfl,hb,hg,r⟩
 ·exact .inl X
 ·exact .inr ⟨g,cap,cur,rfl,hb,hx.blk hg (hs g rfl),r⟩
theorem iL.lt {w:World} {base e k:Nat} {v:Value} {n:Nat} {xs:List Value} (h:iL w base e k v n xs) {b:Nat} (hv:v.ownBlock=some b):base<=b/\b < w.heap.size:=by
 obtain ⟨D,X⟩:=h
 rcases X with ⟨rfl,_⟩ | ⟨g,cap,cur,rfl,hb,hg,r⟩
 ·cases hv
 ·simp only [Value.ownBlock,Option.some.injEq] at hv;subst hv;exact ⟨hb,uh hg⟩
theorem iL.shape {w:World} {base e k:Nat} {v:Value} {n:Nat} {xs:List Value} (h:iL w base e k v n xs):∃ a c,v=.slice a n c:=by
 obtain ⟨D,X⟩:=h
 rcases X with ⟨rfl,rfl⟩ | ⟨g,cap,cur,rfl,_⟩
 ·exact zaD
 ·exact zaD
theorem iL.base {w:World} {base Tu e k:Nat} {v:Value} {n:Nat} {xs:List Value} (h:iL w base e k v n xs) (hb:Tu<=base):iL w Tu e k v n xs:=by
 obtain ⟨D,X⟩:=h;refine ⟨D,?_⟩
 rcases X with X | ⟨g,cap,cur,rfl,bH,r⟩
 ·exact .inl X
 ·exact .inr ⟨g,cap,cur,rfl,jg hb bH,r⟩
theorem iL.cells {w:World} {base e k:Nat} {v:Value} {n:Nat} {xs:List Value} (h:iL w base e k v n xs) :
  xs.length=n * k/\(xs≠[]->∃ b c,v=.slice (some ⟨b,0,none⟩) n c/\base<=b/\b < w.heap.size/\∀ j u,xs[j]?=some u->w.cell? ⟨b,j,none⟩=some u):=by
 obtain ⟨D,X⟩:=h;refine ⟨D,fun bT=>?_⟩
 rcases X with ⟨rfl,rfl⟩ | ⟨g,cap,cur,rfl,hb,hg,hn,hm,dR,ht⟩
 ·simp at D;exact absurd D bT
 ·refine ⟨g,cap,rfl,hb,uh hg,fun j u hj=>?_⟩;rw [cell_of_row w g j cur e (0,0) hg];rw [<-ht] at hj;rw [getElem?_take] at hj;split at hj
  ·simpa using hj
  ·cases hj
theorem iL.Yu {w w':World} {b e k n:Nat} {cs:List Value} (h:xi w w' b (.cells cs.toArray e)) (hl:cs.length=n * k) (hm:n<=maxLen):iL w' w.heap.size e k (.slice (some ⟨b,0,none⟩) n n) n cs :=
 ⟨hl,.inr ⟨b,n,cs.toArray,rfl,by rw [h.fresh];exact aH _,h.blk,aH _,hm,by simpa using hl,by simp [<-hl]⟩⟩
section
variable {P:Program} {Q:nF} {l:List Value} {w:World} {ops:Array Oper} {rest:List Oper} {d:Option Tmp} {ty:TypeId} {pos:String} {af:Array Edge}
theorem WL.app {s x:Operand} {t e k kD:Nat} [hT:qH P t e k kD] {base n m c b o:Nat} {xs news:List Value} {v:Value} (hs:ev l s=v) (gi:iL w base e k v n xs)
  (hx:ev l x=.slice (some ⟨b,o,none⟩) m c) (hl:news.length=m * k) (Uc:∀ j u,news[j]?=some u->w.cell? ⟨b,o+j,none⟩=some u) (D:oz news=true)
  (Xd:n+m<=9223372036854775807) (zY:(n+m) * kD<=140737488355328) (C5:base<=w.heap.size)
  (h:∀ v' w',iL w' base e k v' (n+m) (xs++news)->Ext (fun b=>v.ownBlock=some b) w w'->(∀ b,v'.ownBlock=some b->v.ownBlock=some b\/w.heap.size<=b)->(Ext gL w w'\/v'.ownBlock=v.ownBlock)->WL P ops Q rest (put l d v') w') :
  WL P ops Q (⟨d,.call ⟨.builtin .append,#[s,x],#[t,t]⟩,ty,pos,af,none⟩::rest) l w:=by
 obtain ⟨hu,⟨i,z,hi,hz,hzs,dR,C6⟩,hk⟩:=hT.parts;obtain ⟨v',w',hr,X,h3,h4⟩:=run_append_own (P:=P) w base t ty e i z k kD hu hi hz dR C6 hzs hk v n xs gi ⟨b,o,none⟩ m c news hl
  (fun j u hj=>by rw [rT];exact Uc j u hj) zgx (by simpa [maxLen] using Xd) zY C5
 have j0:Ext (fun b=>v.ownBlock=some b) w w':=⟨h3.os,h3.tape,h3.output,h3.size,fun j hj hn=>h3.block j hj fun he=>hn he.symm⟩
 have Ab:∀ j u,news[j]?=some u->w.cell? ((⟨b,o,none⟩:Addr).add j)=some u:=fun j u hj=>by rw [rT];exact Uc j u hj
 have kG:news.length=m * i.size:=by rw [dR];exact hl
 have RX:(n+m) * i.bytes<=140737488355328:=by rw [C6];exact zY
 refine WL.val (v:=v') (w':=w') (by simp [execOp,resolve,invoke,builtin,hs,hx,hr]) (h v' w' X j0 ?_ ?_)
 ·intro b' bH;have Dg:=gi.2
  rcases Dg with ⟨rfl,rfl⟩ | ⟨g,cap,cur,rfl,pR,hg,sG,zo,iT,Di⟩
  ·by_cases hm:m=0
   ·have:=h4.2 ⟨rfl,hm⟩;subst this;cases bH
   ·have et:=run_append_nil (P:=P) w t ty e i z hu hi hz ⟨b,o,none⟩ m c news kG Ab zfw zfw (by simp only [ed] at RX;omega);rw [hr] at et;cases et;exact zbb
  ·by_cases hroom:n+m<=cap
   ·have et:=run_append_room (P:=P) w t ty e i hu hi g n cap cur hg ⟨b,o,none⟩ m c news kG Ab zgx hroom
     zgj
    rw [hr] at et;cases et;exact .inl bH
   ·have holds:∀ j u,xs[j]?=some u->w.cell? ((⟨g,0,none⟩:Addr).add j)=some u:=World.ownsRow.cells (g:=g) gi rfl;have et:=run_append_grow (P:=P) w t ty e i z hu hi hz ⟨g,0,none⟩ n cap xs zgc holds ⟨b,o,none⟩ m c news kG Ab zfw zfw (growslice_fits zfw RX);rw [hr] at et;cases et;exact zbb
 ·have Dg:=gi.2
  rcases Dg with ⟨rfl,rfl⟩ | ⟨g,cap,cur,rfl,pR,hg,sG,zo,iT,Di⟩
  ·exact .inl (j0.mono fun k _ hk=>by cases hk)
  ·by_cases hroom:n+m<=cap
   ·have et:=run_append_room (P:=P) w t ty e i hu hi g n cap cur hg ⟨b,o,none⟩ m c news kG Ab zgx hroom
     zgj
    rw [hr] at et;cases et;exact zbq
   ·have holds:∀ j u,xs[j]?=some u->w.cell? ((⟨g,0,none⟩:Addr).add j)=some u:=World.ownsRow.cells (g:=g) gi rfl;have et:=run_append_grow (P:=P) w t ty e i z hu hi hz ⟨g,0,none⟩ n cap xs zgc holds ⟨b,o,none⟩ m c news kG Ab zfw zfw (growslice_fits zfw RX);rw [hr] at et;cases et;exact zc2
theorem WL.push {x s:Operand} {t e k kD:Nat} {z:List Value} [hT:qH P t e k kD] [hZ:rR P t e k z] {base n:Nat} {xs vs:List Value} {v val:Value} {d1:Tmp} {QL:TypeId} {Ir:String} {NW:Array Edge}
  (hx:ev l x=val) (hs:∀ u,ev (put l (some d1) u) s=v) (hd:∀ u,ev (put l (some d1) u) (.tmp d1)=u) (hc:val.cells=vs.toArray) (hk:vs.length=k) (D:oz vs=true)
  (gi:iL w base e k v n xs) (Xd:n+1<=9223372036854775807) (zY:(n+1) * kD<=140737488355328) (acd:k<=16777216) (C5:base<=w.heap.size)
  (h:∀ u v' w',iL w' base e k v' (n+1) (xs++vs)->Ext (fun b=>v.ownBlock=some b) w w'->(∀ b,v'.ownBlock=some b->v.ownBlock=some b\/w.heap.size<=b)->(Ext gL w w'\/v'.ownBlock=v.ownBlock)->WL P ops Q rest (put (put l (some d1) u) d v') w') :
  WL P ops Q (⟨some d1,.buildSlice t 1 #[(0,x)],QL,Ir,NW,none⟩::⟨d,.call ⟨.builtin .append,#[s,.tmp d1],#[t,t]⟩,ty,pos,af,none⟩::rest) l w:=by
 have hkp:=hZ.pos
 have dR:val.cells.size=k:=by rw [hc];simpa using hk
 have iG:∀ (vs cs:List Value),vs.length=cs.length->nW cs 0 vs=vs:=by
  have gen:∀ (vs pre cs:List Value),vs.length=cs.length->nW (pre++cs) pre.length vs=pre++vs:=by
   intro vs
   induction vs with
   | nil=>intro pre cs hl;cases cs <;> simp_all [nW]
   | cons a r ih =>
    intro pre cs hl
    cases cs with
    | nil=>simp at hl
    | cons c cs =>
     have hu:fT (pre++c::cs) pre.length a=pre++a::cs:=by
      clear hl
      induction pre with
      | nil=>rfl
      | cons p pre ihp=>simp [fT,ihp]
     rw [nW,hu];have:=ih (pre++[a]) cs zfz;exact zbT
  intro vs cs hl;exact gen vs [] cs hl
 have ZD:rZ (fun i=>some (i * k,k)) ((List.range (1 * k)).map fun j=>z.getD (j % k) undef) ([((0:Nat),x)].map fun y=>(y.1,ev l y.2))=some vs:=by
  simp only [List.map_cons,map_nil,rZ,hx,dR];simp [hk,hc];exact iG vs _ zfO
 refine WL.Ey (n:=1) (parts:=[(0,x)]) zfw ZD ?_;intro b2 w2 bZ;have MD:iL w2 base e k v n xs:=gi.ext bZ.ext (fun _ _ h=>h);refine WL.app (base:=base) (v:=v) (n:=n) (xs:=xs) (news:=vs) (m:=1) (hs _) MD (hd _) zfw (fun j u hj=>?_) D Xd zY (jg C5 bZ.ext.size) ?_
 ·rw [ed];exact N4 bZ.blk zfI
 ·intro v' w3 ho Px hb uF;refine h _ v' w3 ho ((bZ.ext.mono (fun _ _ h=>h.elim)).trans Px) (fun b bH=>?_) (uF.imp (fun h5=>bZ.ext.trans h5) id)
  rcases hb b bH with h4 | h4
  ·exact .inl h4
  ·exact .inr (jg bZ.ext.size h4)
end
section
variable {P:Program} {ops:Array Oper} {S:Nat->Prop}
end
def ux:List Oper->Nat->Oper
 | [],_=>default
 | o::_,0=>o
 | _::r,n+1=>ux r n
theorem VO (ol:List Oper) (i:Nat) (o:Oper) (h:ol.toArray[i]?=some o):ux ol i=o:=by
 have h':ol[i]?=some o:=by simpa using h
 clear h
 induction ol generalizing i with
 | nil=>simp at h'
 | cons x r ih =>
  cases i with
  | zero=>simpa [ux] using h'
  | succ i=>exact ih i (by simpa using h')
section
variable {P:Program} {ops:Array Oper} {S:Nat->Prop} {Q:nF} {l:List Value} {w:World} {r:List (Oper × Bool)} {d:Option Tmp} {op:Op} {ty:TypeId} {pos:String} {af:Array Edge}
end
def Nq:IntKind->IntKind->Bool
 | .i8,.i8 | .i16,.i16 | .i32,.i32 | .i64,.i64 | .u8,.u8 | .u16,.u16 | .u32,.u32 | .u64,.u64=>true
 | _,_=>false
theorem SZ {a b:IntKind} (h:Nq a b=true):a=b:=by cases a <;> cases b <;> first | rfl | cases h
def Mt (op:BinOp) (a b:Int):Option Value :=
 match op with
 | .eql=>some (.bool (a==b))
 | .neq=>some (.bool (a != b))
 | .lss=>some (.bool (decide (a < b)))
 | .leq=>some (.bool (decide (a<=b)))
 | .gtr=>some (.bool (decide (b < a)))
 | .geq=>some (.bool (decide (b<=a)))
 | _=>none
def Ms (op:BinOp):Value->Value->Option Value
 | .int k a,.int k' b=>match Nq k k' with
  | true=>Mt op a b
  | false=>none
 | _,_=>none
def yz (c:Op) (x:Value):Option Value :=
 match c with
 | .nilCheck _=>match x with
  | .pointer (some a)=>some (.pointer (some a))
  | _=>none
 | .unOp .not _ _=>match x with
  | .bool b=>some (.bool (!b))
  | _=>none
 | .extract _ i=>match x with
  | .tuple vs=>vs[i]?
  | _=>none
 | _=>none
def go (ρ:Operand->Value) (o:Op):Option Value :=
 match o with
 | .move x=>some (ρ x)
 | .assign x=>some (ρ x)
 | .makeFunc fn f c=>some (.func fn (f.map ρ) (c.map ρ))
 | .binOp op _ x y _=>Ms op (ρ x) (ρ y)
 | .nilCheck x=>yz o (ρ x)
 | .unOp _ _ x=>yz o (ρ x)
 | .extract x _=>yz o (ρ x)
 | _=>none
section
variable {P:Program} {l:List Value} {w:World}
theorem Vq {o:Op} {v:Value} (h:go (ev l) o=some v):fg P l w o v:=by
 unfold go at h;split at h
 ·cases h;exact R.mv
 ·cases h;exact R.mq
 ·cases h;exact R.Ex
 ·rename_i op t x y t';unfold Ms at h;split at h
  ·rename_i k a k' b hx hy;split at h
   ·rename_i hk;have:=SZ hk;subst this;unfold Mt at h
    split at h <;> first | (cases h;done) | skip
    ·cases h;exact R.eq hx hy
    ·cases h;exact R.ne hx hy
    ·cases h;exact R.lt hx hy
    ·cases h;exact R.le hx hy
    ·cases h;exact R.gt' hx hy
    ·cases h;exact R.ge hx hy
   ·cases h
  ·cases h
 ·unfold yz at h;simp only at h;split at h
  ·rename_i a hx;cases h;exact R.M7 hx
  ·cases h
 ·rename_i op t x;unfold yz at h
  cases op <;> simp only at h <;> first | (cases h;done) | skip
  split at h
  ·rename_i b hx;cases h;exact R.not hx
  ·cases h
 ·unfold yz at h;simp only at h;split at h
  ·rename_i vs hx;exact R.extract hx h
  ·cases h
 ·cases h
theorem R.addN {x y:Operand} {t t':TypeId} {a b:Nat} (hx:ev l x=ii a) (hy:ev l y=ii b) (hb:a+b<=9223372036854775807):fg P l w (.binOp .add t x y t') (ii ((a+b:Nat):Int)):=R.add hx hy zfw zfw
theorem R.kB {x y:Operand} {t t':TypeId} {a:Nat} (hx:ev l x=ii a) (hy:ev l y=ii 1) (hb:a+1<=9223372036854775807):fg P l w (.binOp .add t x y t') (ii ((a+1:Nat):Int)):=R.add hx hy zfw zfw
theorem R.UG {c a b:Operand} {t:Bool} (hc:ev l c=.bool t) (ht:t=true):fg P l w (.pick c a b) (ev l a):=by
 subst ht;exact R.pick hc
theorem R.UF {c a b:Operand} {t:Bool} (hc:ev l c=.bool t) (ht:t=false):fg P l w (.pick c a b) (ev l b):=by
 subst ht;exact R.pick hc
end
section
variable {P:Program} {Q:nF} {l:List Value} {w:World} {ops:Array Oper} {rest:List Oper} {d:Option Tmp} {op:Op} {ty:TypeId} {pos:String} {af:Array Edge} {v:Value} {S:Nat->Prop} {r:List (Oper × Bool)}
end
def wV (ops:List Oper) (l:List Value):Option (Nat × Bool)->Bool
 | none=>true
 | some (j,b)=>match (ux ops j).dst with
  | some t=>match nth l t with
   | .bool c=>c==b
   | _=>false
  | none=>false
def ku {α:Type}:List α->Nat->Bool
 | [],_=>false
 | _::_,0=>true
 | _::r,n+1=>ku r n
theorem Dl {α:Type}:∀ {l:List α} {n:Nat},ku l n=true->n < l.length
 | [],_,h=>by cases h
 | _::_,0,_=>by simp
 | _::r,n+1,h=>by have:=Dl (l:=r) (n:=n) h;simp;omega
def vF:Option (Nat × Bool)->List Oper->List Value->Bool
 | some (j,_),ops,l=>ku ops j&&(match (ux ops j).dst with
  | some t=>ku l t&&(match nth l t with | .bool _=>true | .tuple _=>true | _=>false)
  | none=>false)
 | none,_,_=>true
theorem Lo (ol:List Oper) (j:Nat) (h:j < ol.length):ol.toArray[j]?=some (ux ol j):=by
 obtain ⟨o,ho⟩:∃ o,ol.toArray[j]?=some o:=⟨ol[j],by simp [h]⟩;rw [ho,VO ol j o ho]
theorem Yt (l:List Value) (t:Nat) (h:t < l.length):l[t]?=some (nth l t):=by
 induction l generalizing t with
 | nil=>simp at h
 | cons x l ih=>cases t with
  | zero=>rfl
  | succ t=>simpa [nth] using ih t zfx
theorem yi {ops:Array Oper} {d:Option Tmp} {op:Op} {ty:TypeId} {pos:String} {af:Array Edge} {gd:Option (Nat × Bool)} {l:List Value} (hb:vF gd ops.toList l=true) :
  Region.wanted ⟨d,op,ty,pos,af,gd⟩ (yielded ops (act l).tmps)=wV ops.toList l gd:=by
 cases gd with
 | none=>rfl
 | some x =>
  obtain ⟨j,b⟩:=x;simp only [vF,aI] at hb;obtain ⟨D,X⟩:=hb;have hj:=Lo ops.toList j (Dl D);simp only [Array.toArray_toList] at hj;simp only [Region.wanted,wV,yielded,hj,Option.bind_some]
  cases hd:(ux ops.toList j).dst with
  | none=>rw [hd] at X;cases X
  | some t =>
   rw [hd] at X;simp only [aI] at X;have ht:=Yt l t (Dl X.1);simp only [Option.bind_some,act]
   have HL:l.toArray[t]?=some (nth l t):=by simpa using ht
   rw [HL]
   cases hv:nth l t <;> rw [hv] at X <;> simp_all
def gv (ops:List Oper) (l:List Value) (gd:Nat × Bool):Option Bool :=
 match (ux ops gd.1).dst with
 | some t=>match nth l t with
  | .bool c=>some c
  | _=>none
 | none=>none
theorem QX {ops:List Oper} {l:List Value} {gd:Nat × Bool} {c:Bool} (hv:gv ops l gd=some c) (hc:c=gd.2):wV ops l (some gd)=true:=by
 obtain ⟨j,b⟩:=gd;unfold gv at hv;unfold wV;simp only at hv hc |-;split at hv
 ·rename_i t ht;split at hv
  ·rename_i c' dw;cases hv;simp [hc]
  ·cases hv
 ·cases hv
theorem QW {ops:List Oper} {l:List Value} {gd:Nat × Bool} {c:Bool} (hv:gv ops l gd=some c) (hc:c=!gd.2):wV ops l (some gd)=false:=by
 obtain ⟨j,b⟩:=gd;unfold gv at hv;unfold wV;simp only at hv hc |-;split at hv
 ·rename_i t ht;split at hv
  ·rename_i c' dw;cases hv;cases b <;> simp_all
  ·cases hv
 ·cases hv
theorem QY {ops:List Oper} {l:List Value} {gd:Nat × Bool} (hv:gv ops l gd=none):wV ops l (some gd)=false:=by
 obtain ⟨j,b⟩:=gd;unfold gv at hv;unfold wV;simp only at hv |-;split at hv
 ·rename_i t ht;split at hv
  ·cases hv
  ·first | rfl | (split <;> simp_all)
 ·rfl
section
variable {P:Program} {Q:nF} {l:List Value} {w:World} {ops:Array Oper} {rest:List Oper} {d:Option Tmp} {op:Op} {ty:TypeId} {pos:String} {af:Array Edge} {v:Value} {S:Nat->Prop} {r:List (Oper × Bool)} {gd:Nat × Bool}
theorem GT {c:Bool} (hb:vF (some gd) ops.toList l=true) (hv:gv ops.toList l gd=some c) (hc:c=gd.2) (h:WL P ops Q (⟨d,op,ty,pos,af,none⟩::rest) l w):WL P ops Q (⟨d,op,ty,pos,af,some gd⟩::rest) l w:=WL.gt ((yi hb).trans (QX hv hc)) h
theorem GF {c:Bool} (hb:vF (some gd) ops.toList l=true) (hv:gv ops.toList l gd=some c) (hc:c=!gd.2) (h:WL P ops Q rest (put l d undef) w):WL P ops Q (⟨d,op,ty,pos,af,some gd⟩::rest) l w:=WL.gf ((yi hb).trans (QW hv hc)) h
theorem GU (hb:vF (some gd) ops.toList l=true) (hv:gv ops.toList l gd=none) (h:WL P ops Q rest (put l d undef) w):WL P ops Q (⟨d,op,ty,pos,af,some gd⟩::rest) l w:=WL.gf ((yi hb).trans (QY hv)) h
end
def Nf:Value->Bool
 | .agg _=>false
 | .tuple _=>false
 | _=>true
theorem yW {v:Value} (h:Nf v=true):v.cells=#[v]/\v.oneCell'=true:=by
 cases v <;> first | exact ⟨rfl,rfl⟩ | cases h
end Go.Xw
namespace Go.Xg
open Go.RowKit Go.Xw
inductive GV where
 | v (x:Value)
 | U
 | agg (cs:List GV)
 | tup (cs:List GV)
 | sl (k:Nat) (rows:List (List GV))
 | box (cs:List GV) (o:Nat)
 | loc (i o:Nat)
 | vec (i n:Nat)
 | vp (i n k idx off:Nat)
 | arr (i o n:Nat)
 | fn (f:Fn) (first cap:List GV)
open GV (U)
abbrev Fz:=Nat->Nat->Option GV
inductive Bk where
 | no
 | fix (b:Nat)
 | gr (h:Value) (m:Nat)
 | set (S:Nat->Prop)
def Bk.has:Bk->Nat->Prop
 | .no,_=>False
 | .fix b,c=>b=c
 | .gr h _,c=>h.ownBlock=some c
 | .set S,c=>S c
abbrev Bt:=Nat->Bk
def cW (K K':Fz):Prop:=∀ b o g,K b o=some g->K' b o=some g
def uq:Bk->Bk->Prop
 | .no,_=>True
 | .fix b,x=>x=.fix b
 | .set _,_=>True
 | .gr h m,x=>∃ h' m',x=.gr h' m'/\m<=m'/\(m'=m->h'=h)
def dI (β bR:Bt):Prop:=∀ i,uq (β i) (bR i)
theorem cW.refl (K:Fz):cW K K:=fun _ _ _ h=>h
theorem cW.trans {a b c:Fz} (h:cW a b) (k:cW b c):cW a c:=fun x y z hz=>k x y z (h x y z hz)
theorem uq.refl (x:Bk):uq x x:=by cases x with | no=>trivial | fix b=>rfl | gr h m=>exact ⟨h,m,rfl,aH _,fun _=>rfl⟩ | set S=>trivial
theorem uq.trans {a b c:Bk} (h:uq a b) (k:uq b c):uq a c:=by
 cases a with
 | no=>trivial
 | set S=>trivial
 | fix x=>cases h;exact k
 | gr x m =>
  obtain ⟨x',m',rfl,D,X⟩:=h;obtain ⟨x2,m2,rfl,h3,h4⟩:=k
  exact ⟨x2,m2,rfl,jg D h3,fun he=>by
   have:m'=m:=by omega
   rw [h4 zfw,X this]⟩
theorem dI.refl (β:Bt):dI β β:=fun i=>uq.refl _
theorem dI.trans {a b c:Bt} (h:dI a b) (k:dI b c):dI a c:=fun i=>(h i).trans (k i)
inductive Rel (K:Fz) (β:Bt):Value->GV->Prop
 | v (x:Value):Rel K β x (.v x)
 | U (x:Value):Rel K β x .U
 | agg (vs:List Value) (cs:List GV) (hl:vs.length=cs.length) (h:∀ (i:Nat) v g,vs[i]?=some v->cs[i]?=some g->Rel K β v g):Rel K β (.agg vs.toArray) (.agg cs)
 | tup (vs:List Value) (cs:List GV) (hl:vs.length=cs.length) (h:∀ (i:Nat) v g,vs[i]?=some v->cs[i]?=some g->Rel K β v g):Rel K β (.tuple vs.toArray) (.tup cs)
 | sl0 (a:Option Addr) (c k:Nat):Rel K β (.slice a 0 c) (.sl k [])
 | sl (b o c k:Nat) (rows:List (List GV)) (h:∀ (i:Nat) r,rows[i]?=some r->r.length=k/\∀ (j:Nat) g,r[j]?=some g->K b (o+i * k+j)=some g) (hc:rows.length<=c):Rel K β (.slice (some ⟨b,o,none⟩) rows.length c) (.sl k rows)
 | box (b o' o:Nat) (cs:List GV) (h:∀ (j:Nat) g,cs[j]?=some g->K b (o'+j)=some g):Rel K β (.pointer (some ⟨b,o'+o,none⟩)) (.box cs o)
 | loc (i o b:Nat) (h:β i=.fix b):Rel K β (.pointer (some ⟨b,o,none⟩)) (.loc i o)
 | vec (i n:Nat) (a:Option Addr) (c:Nat) (h:∃ h m,β i=.gr h m/\n<=m/\(m=n->.slice a n c=h)):Rel K β (.slice a n c) (.vec i n)
 | vp (i n k idx off:Nat) (x:Value) (h:∃ h m,β i=.gr h m/\n<=m/\(m=n->∃ b,h.ownBlock=some b/\x=.pointer (some ⟨b,idx * k+off,none⟩))):Rel K β x (.vp i n k idx off)
 | arr (i o n b c:Nat) (h:β i=.fix b):Rel K β (.slice (some ⟨b,o,none⟩) n c) (.arr i o n)
 | fn (f:Fn) (xs ys:List Value) (first cap:List GV) (hl:xs.length=first.length) (kG:ys.length=cap.length) (h:∀ (i:Nat) v g,xs[i]?=some v->first[i]?=some g->Rel K β v g)
   (h':∀ (i:Nat) v g,ys[i]?=some v->cap[i]?=some g->Rel K β v g):Rel K β (.func f xs.toArray ys.toArray) (.fn f first cap)
theorem Rel.mono {K K':Fz} {β bR:Bt} {x:Value} {g:GV} (h:Rel K β x g) (hk:cW K K') (hb:dI β bR):Rel K' bR x g:=by
 induction h with
 | v x=>exact .v x
 | U x=>exact .U x
 | agg vs cs hl h ih=>exact .agg vs cs hl ih
 | tup vs cs hl h ih=>exact .tup vs cs hl ih
 | sl0 a c k=>exact .sl0 a c k
 | sl b o c k rows h hc=>exact .sl b o c k rows (fun i r hr=>⟨(h i r hr).1,fun j g hg=>hk _ _ _ ((h i r hr).2 j g hg)⟩) hc
 | box b o' o cs h=>exact .box b o' o cs fun j g hg=>hk _ _ _ (h j g hg)
 | loc i o b h=>exact .loc i o b zgB
 | vec i n a c h =>
  obtain ⟨h0,m,D,X,h3⟩:=h;have h4:=hb i;rw [D] at h4;obtain ⟨h',m',h5,h6,h7⟩:=h4;exact .vec i n a c ⟨h',m',h5,by omega,fun he=>by rw [h7 zfw];exact h3 zfw⟩
 | vp i n k idx off x h =>
  obtain ⟨h0,m,D,X,h3⟩:=h;have h4:=hb i;rw [D] at h4;obtain ⟨h',m',h5,h6,h7⟩:=h4;exact .vp i n k idx off x ⟨h',m',h5,by omega,fun he=>by rw [h7 zfw];exact h3 zfw⟩
 | arr i o n b c h=>exact .arr i o n b c zgB
 | fn f xs ys first cap hl kG h h' ih xK=>exact .fn f xs ys first cap hl kG ih xK
def GV.pc:GV->Bool
 | .v _=>true
 | .sl _ _=>true
 | .box _ _=>true
 | _=>false
theorem Rel.pc {K:Fz} {β bR:Bt} {x:Value} {g:GV} (h:Rel K β x g) (hp:g.pc=true):Rel K bR x g:=by
 cases h <;> first | (cases hp;done) | skip
 ·exact .v _
 ·exact .sl0 _ _ _
 ·rename_i h hc;exact .sl _ _ _ _ _ h hc
 ·rename_i h;exact .box _ _ _ _ h
def GV.one:GV->Bool
 | .v x=>Nf x
 | .U=>false
 | .agg _=>false
 | .tup _=>false
 | .vp _ _ _ _ _=>false
 | _=>true
theorem Rel.one {K:Fz} {β:Bt} {x:Value} {g:GV} (h:Rel K β x g) (ho:g.one=true):Nf x=true:=by
 cases h <;> first | exact ho | rfl | (cases ho;done)
abbrev bs (K:Fz) (β:Bt) (vs:List Value) (gs:List GV):Prop:=vs.length=gs.length/\∀ (i:Nat) v g,vs[i]?=some v->gs[i]?=some g->Rel K β v g
theorem bs.mono {K K':Fz} {β bR:Bt} {vs:List Value} {gs:List GV} (h:bs K β vs gs) (hk:cW K K') (hb:dI β bR):bs K' bR vs gs:=⟨h.1,fun i v g D X=>(h.2 i v g D X).mono hk hb⟩
theorem bs.nil {K:Fz} {β:Bt}:bs K β [] []:=⟨rfl,fun i v g h=>by simp at h⟩
theorem bs.cons {K:Fz} {β:Bt} {v:Value} {g:GV} {vs:List Value} {gs:List GV} (h:Rel K β v g) (hs:bs K β vs gs):bs K β (v::vs) (g::gs):=by
 refine ⟨by simp [hs.1],fun i x y D X=>?_⟩
 cases i with
 | zero=>cases D;cases X;exact h
 | succ i=>exact hs.2 i x y D X
theorem bs.qd {K:Fz} {β:Bt} {v:Value} {g:GV} {vs:List Value} {gs:List GV} (h:bs K β (v::vs) (g::gs)):Rel K β v g/\bs K β vs gs :=
 ⟨h.2 0 v g rfl rfl,by simpa using h.1,fun i x y D X=>h.2 (i+1) x y D X⟩
theorem bs.app {K:Fz} {β:Bt} {vs us:List Value} {gs hs:List GV} (h:bs K β vs gs) (k:bs K β us hs):bs K β (vs++us) (gs++hs):=by
 induction vs generalizing gs with
 | nil =>
  have:gs=[]:=by have:=h.1;simp at this;exact gx this.symm
  subst this;exact k
 | cons v vs ih =>
  cases gs with
  | nil=>have:=h.1;simp at this
  | cons g gs=>obtain ⟨D,X⟩:=h.qd;exact .cons D (ih X)
theorem bs.at {K:Fz} {β:Bt} {vs:List Value} {gs:List GV} (h:bs K β vs gs) {i:Nat} {g:GV} (hg:gs[i]?=some g):∃ v,vs[i]?=some v/\Rel K β v g:=by
 have hi:i < vs.length:=by rw [h.1];exact (bu hg).1
 exact ⟨vs[i],by simp [hi],h.2 i _ g zge hg⟩
theorem bs.take {K:Fz} {β:Bt} {vs:List Value} {gs:List GV} (h:bs K β vs gs) (n:Nat):bs K β (vs.take n) (gs.take n):=by
 refine ⟨by simp [h.1],fun i x y D X=>?_⟩;rw [getElem?_take] at D X;split at D
 ·rename_i hi;rw [ae hi] at X;exact h.2 i x y D X
 ·cases D
theorem bs.drop {K:Fz} {β:Bt} {vs:List Value} {gs:List GV} (h:bs K β vs gs) (n:Nat):bs K β (vs.drop n) (gs.drop n):=by
 refine ⟨by simp [h.1],fun i x y D X=>?_⟩;rw [getElem?_drop] at D X;exact h.2 _ x y D X
def cP:List GV->Nat->GV
 | [],_=>.U
 | g::_,0=>g
 | _::l,n+1=>cP l n
def bQ:List GV->Nat->GV->List GV
 | [],_,_=>[]
 | _::l,0,g=>g::l
 | x::l,n+1,g=>x::bQ l n g
def bf (l:List GV):Operand->GV
 | .tmp t=>cP l t
 | .const v=>.v v
 | .global g=>.v (.pointer (some ⟨g,0,none⟩))
 | .func f=>.v (.func (.func f) #[] #[])
def bM (l:List GV) (d:Option Tmp) (g:GV):List GV:=match d with | some d=>bQ l d g | none=>l
inductive FR (K:Fz) (β:Bt):List GV->List Value->Prop
 | nil:FR K β [] []
 | cons {g:GV} {v:Value} {gs:List GV} {vs:List Value} (h:Rel K β v g) (t:FR K β gs vs):FR K β (g::gs) (v::vs)
theorem FR.mono {K K':Fz} {β bR:Bt} {gs:List GV} {vs:List Value} (h:FR K β gs vs) (hk:cW K K') (hb:dI β bR):FR K' bR gs vs:=by
 induction h with
 | nil=>exact .nil
 | cons h t ih=>exact .cons (h.mono hk hb) ih
theorem FR.nth {K:Fz} {β:Bt} {gs:List GV} {vs:List Value} (h:FR K β gs vs) (t:Nat):Rel K β (nth vs t) (cP gs t):=by
 induction h generalizing t with
 | nil=>exact .U _
 | cons h _ ih=>cases t with | zero=>exact h | succ t=>exact ih t
theorem FR.ev {K:Fz} {β:Bt} {gs:List GV} {vs:List Value} (h:FR K β gs vs) (x:Operand):Rel K β (ev vs x) (bf gs x):=by
 cases x with
 | tmp t=>exact h.nth t
 | const v=>exact .v _
 | global g=>exact .v _
 | func f=>exact .v _
theorem FR.fT {K:Fz} {β:Bt} {gs:List GV} {vs:List Value} (h:FR K β gs vs) (t:Nat) {v:Value} {g:GV} (hv:Rel K β v g):FR K β (bQ gs t g) (fT vs t v):=by
 induction h generalizing t with
 | nil=>exact .nil
 | cons h ht ih=>cases t with | zero=>exact .cons hv ht | succ t=>exact .cons h (ih t)
theorem FR.put {K:Fz} {β:Bt} {gs:List GV} {vs:List Value} (h:FR K β gs vs) (d:Option Tmp) {v:Value} {g:GV} (hv:Rel K β v g):FR K β (bM gs d g) (put vs d v):=by
 cases d with | none=>exact h | some d=>exact h.fT d hv
theorem FR.args {K:Fz} {β:Bt} {gs:List GV} {vs:List Value} (h:FR K β gs vs) (xs:List Operand):bs K β (xs.map (Xw.ev vs)) (xs.map (bf gs)):=by
 induction xs with
 | nil=>exact .nil
 | cons x xs ih=>exact .cons (h.ev x) ih
inductive Ob where
 | gone
 | box (E:TypeId) (cs:List GV)
 | vec (E:TypeId) (k fz:Nat) (rows:List (List GV))
 | vech (E:TypeId) (k:Nat) (rows:List (List GV)) (x:Value)
 | lost
 | blk (b:Nat) (p:Obj->Prop)
 | blob (p:(Nat->Option Obj)->Prop)
def nE (K:Fz) (w:World):Prop:=∀ b o g,K b o=some g->g.pc=true/\∃ v,ja w.heap b o=some v/\Rel K (fun _=>.no) v g
def jx (k:Nat) (rows:List (List GV)):Prop:=∀ r∈rows,r.length=k/\∀ g∈r,g.pc=true
def lB (K:Fz) (β:Bt) (w:World) (i:Nat):Ob->Prop
 | .gone=>β i=.no
 | .box E cs=>∃ b vs,β i=.fix b/\w.heap[b]?=some (.cells vs.toArray E (0,0))/\bs K β vs cs/\∀ o,K b o=none
 | .vec E k fz rows=>∃ h xs,β i=.gr h rows.length/\iL w 0 E k h rows.length xs/\bs K β xs rows.flatten/\jx k rows /\
   (∀ b,h.ownBlock=some b->(∀ o,fz * k<=o->K b o=none)/\∀ o g,o < fz * k->rows.flatten[o]?=some g->K b o=some g)/\fz<=rows.length
 | .vech E k rows x=>∃ xs,β i=.gr x rows.length/\iL w 0 E k x rows.length xs/\bs K β xs rows.flatten/\jx k rows/\∀ b,x.ownBlock=some b->∀ o,K b o=none
 | .lost=>∀ b,(β i).has b->b < w.heap.size
 | .blk b p=>β i=.fix b/\(∃ o,w.heap[b]?=some o/\p o)/\∀ o,K b o=none
 | .blob p=>∃ h:Nat->Option Obj,β i=.set (fun b=>(h b).isSome=true)/\(∀ b o,h b=some o->w.heap[b]?=some o/\∀ j,K b j=none)/\p h
def xX:List Int:=(List.range 20).map fun i=>((10 ^ i:Nat):Int)
def ya:List Int:=(List.range 256).map fun i=>if i=9\/i=10\/i=11\/i=12\/i=13\/i=32 then 1 else 0
def zz (m:Int):Fz:=fun b o =>
 if b=0 then (match o with | 0=>some (.v (.int .i64 m)) | _=>none)
 else if b=1 then xX[o]?.map fun z=>.v (.int .u64 z)
 else if b=2 then ya[o]?.map fun z=>.v (.int .u8 z)
 else none
def vb (w:World) (b n:Nat):Prop:=∃ cs E z,w.heap[b]?=some (.cells cs E z)/\cs.size=n
theorem vb.lt {w:World} {b n:Nat} (h:vb w b n):b < w.heap.size:=by obtain ⟨cs,E,z,h,_⟩:=h;exact uh h
structure lP (K:Fz) (β:Bt) (w:World):Prop where
 le:∃ m,cW (zz m) K
 pow:vb w 1 20
 spc:vb w 2 256
 free:∀ i b,(β i).has b->b≠1/\b≠2
theorem lP.step {S:Nat->Prop} {K K':Fz} {β bR:Bt} {w w':World} (h:lP K β w) (hx:Ext S w w') (hS:∀ b,S b->∃ i,(β i).has b) (hk:cW K K') (mR:∀ i b,(bR i).has b->(∃ j,(β j).has b)\/w.heap.size<=b):lP K' bR w':=by
 obtain ⟨⟨m,D⟩,X,h3,h4⟩:=h
 have key:∀ {b n:Nat},vb w b n->¬ S b->vb w' b n:=fun ⟨cs,E,z,a,e⟩ hn=>⟨cs,E,z,hx.blk a hn,e⟩
 refine ⟨⟨m,D.trans hk⟩,key X (fun hs=>?_),key h3 (fun hs=>?_),fun i b hb=>?_⟩
 ·obtain ⟨i,hi⟩:=hS _ hs;exact (h4 i _ hi).1 rfl
 ·obtain ⟨i,hi⟩:=hS _ hs;exact (h4 i _ hi).2 rfl
 ·rcases mR i b hb with ⟨j,hj⟩ | hs
  ·exact h4 j b hj
  ·have:=X.lt;have:=h3.lt;exact ⟨by omega,by omega⟩
structure Bs where
 w0:World
 foot:Nat->Prop
 K0:Fz
 β0:Bt
 m:Nat
structure Inv (B:Bs) (K:Fz) (β:Bt) (Γ:List Ob) (w:World):Prop where
 ext:Ext B.foot B.w0 w
 kle:cW B.K0 K
 ble:dI B.β0 β
 loc:∀ i,B.m<=i->B.β0 i=.no
 fz:nE K w
 ob:∀ i x,Γ[i]?=some x->lB K β w i x
 out:∀ i,Γ.length<=i->β i=.no
 dis:∀ i j b,(β i).has b->(β j).has b->i=j
 own:∀ i b,(β i).has b->B.foot b\/B.w0.heap.size<=b
 kn:∀ b o g,K b o=some g->B.K0 b o=some g\/B.foot b\/B.w0.heap.size<=b
 tab:lP K β w
section
variable {B:Bs} {K:Fz} {β:Bt} {Γ:List Ob} {w:World}
theorem lB.lt {i:Nat} {x:Ob} (h:lB K β w i x) {b:Nat} (hb:(β i).has b):b < w.heap.size:=by
 cases x with
 | gone=>simp only [lB] at h;rw [h] at hb;cases hb
 | box E cs =>
  obtain ⟨b',vs,D,X,_⟩:=h;rw [D] at hb;cases hb;exact uh X
 | vec E k fz rows =>
  obtain ⟨h',xs,D,X,_⟩:=h;rw [D] at hb;exact (X.lt hb).2
 | vech E k rows x =>
  obtain ⟨xs,D,X,_⟩:=h;rw [D] at hb;exact (X.lt hb).2
 | lost=>exact h b hb
 | blk b' p =>
  obtain ⟨D,⟨o,X,_⟩,_⟩:=h;rw [D] at hb;cases hb;exact (Array.getElem?_eq_some_iff.1 X).1
 | blob p =>
  obtain ⟨g,D,X,_⟩:=h;rw [D] at hb;obtain ⟨o,ho⟩:=Option.isSome_iff_exists.1 hb;exact (Array.getElem?_eq_some_iff.1 (X b o ho).1).1
theorem Inv.lt (h:Inv B K β Γ w) {i b:Nat} (hb:(β i).has b):b < w.heap.size:=by
 by_cases hi:i < Γ.length
 ·exact (h.ob i Γ[i] zge).lt hb
 ·rw [h.out i zfw] at hb;cases hb
theorem nE.lt (h:nE K w) {b o:Nat} {g:GV} (hg:K b o=some g):b < w.heap.size:=by
 obtain ⟨_,v,hv,_⟩:=h b o g hg;exact G3 hv
def blocks (β:Bt):Nat->Prop:=fun b=>∃ i,(β i).has b
def cur (K:Fz) (β:Bt) (Γ:List Ob) (w:World):Bs:=⟨w,blocks β,K,β,Γ.length⟩
theorem Inv.here (h:Inv B K β Γ w):Inv (cur K β Γ w) K β Γ w :=
 ⟨Ext.refl w,cW.refl K,dI.refl β,h.out,h.fz,h.ob,h.out,h.dis,fun i b hb=>.inl ⟨i,hb⟩,fun _ _ _ h=>.inl h,h.tab⟩
theorem Inv.Qr {K':Fz} {bR:Bt} {aV Γ0:List Ob} {w':World} (h:Inv B K β Γ w) (k:Inv (cur K β Γ0 w) K' bR aV w'):Inv B K' bR aV w' :=
 ⟨h.ext.step k.ext (fun j hj=>by obtain ⟨i,hi⟩:=hj;exact (h.own i j hi).symm),h.kle.trans k.kle,h.ble.trans k.ble,h.loc,k.fz,k.ob,k.out,k.dis,
  fun i b hb=>by
   rcases k.own i b hb with D | D
   ·obtain ⟨j,hj⟩:=D;exact h.own j b hj
   ·exact .inr (jg h.ext.size D),
  fun b o g hg=>by
   rcases k.kn b o g hg with D | ⟨j,hj⟩ | D
   ·exact h.kn b o g D
   ·exact .inr (h.own j b hj)
   ·exact .inr (.inr (jg h.ext.size D)),k.tab⟩
theorem lB.ext {S:Nat->Prop} {K':Fz} {bR:Bt} {w':World} {i:Nat} {x:Ob} (h:lB K β w i x) (hx:Ext S w w') (hs:∀ b,(β i).has b->¬ S b) (hk:cW K K') (hb:dI β bR)
  (he:bR i=β i) (hn:∀ b o,(β i).has b->K b o=none->K' b o=none):lB K' bR w' i x:=by
 cases x with
 | gone=>simp only [lB] at h |-;rw [he,h]
 | box E cs =>
  obtain ⟨b,vs,D,X,h3,h4⟩:=h
  have eH:(β i).has b:=by rw [D];exact rfl
  exact ⟨b,vs,he.trans D,hx.blk X (hs b eH),h3.mono hk hb,fun o=>hn b o eH (h4 o)⟩
 | vec E k fz rows =>
  obtain ⟨h',xs,D,X,h3,h4,h5,h6⟩:=h
  have eH:∀ b,h'.ownBlock=some b->(β i).has b:=fun b hb=>by rw [D];exact hb
  exact ⟨h',xs,he.trans D,X.ext hx (fun b bH=>hs b (eH b bH)),h3.mono hk hb,h4,fun b bH=>⟨fun o ho=>hn b o (eH b bH) ((h5 b bH).1 o ho),fun o g ho hg=>hk _ _ _ ((h5 b bH).2 o g ho hg)⟩,h6⟩
 | vech E k rows x =>
  obtain ⟨xs,D,X,h3,h4,h5⟩:=h
  have eH:∀ b,x.ownBlock=some b->(β i).has b:=fun b hb=>by rw [D];exact hb
  exact ⟨xs,he.trans D,X.ext hx (fun b bH=>hs b (eH b bH)),h3.mono hk hb,h4,fun b bH o=>hn b o (eH b bH) (h5 b bH o)⟩
 | lost=>exact fun b bH=>ze (h b (by rw [<-he];exact bH)) hx.size
 | blk b p =>
  obtain ⟨D,⟨o,X,h3⟩,h4⟩:=h
  have eH:(β i).has b:=by rw [D];exact rfl
  exact ⟨he.trans D,⟨o,hx.blk X (hs b eH),h3⟩,fun o=>hn b o eH (h4 o)⟩
 | blob p =>
  obtain ⟨g,D,X,h3⟩:=h
  have eH:∀ b o,g b=some o->(β i).has b:=fun b o ho=>by rw [D];show (g b).isSome=true;rw [ho];rfl
  exact ⟨g,he.trans D,fun b o ho=>⟨hx.blk (X b o ho).1 (hs b (eH b o ho)),fun j=>hn b j (eH b o ho) ((X b o ho).2 j)⟩,h3⟩
theorem nE.ext {S:Nat->Prop} {w':World} (h:nE K w) (hx:Ext S w w') (hs:∀ b o g,K b o=some g->¬ S b):nE K w':=fun b o g hg=>by
 obtain ⟨D,v,hv,hr⟩:=h b o g hg;exact ⟨D,v,hx.c hv (hs b o g hg),hr⟩
theorem Inv.same {w':World} (h:Inv B K β Γ w) (hx:Ext gL w w'):Inv B K β Γ w' :=
 ⟨h.ext.step hx (fun j hj=>hj.elim),h.kle,h.ble,h.loc,h.fz.ext hx (fun _ _ _ _ h=>h),fun i x hi=>(h.ob i x hi).ext hx (fun _ _ h=>h) (cW.refl K) (dI.refl β) rfl (fun _ _ _ h=>h),h.out,h.dis,h.own,h.kn,h.tab.step hx (fun _ h=>h.elim) (cW.refl K) (fun i b h=>.inl ⟨i,h⟩)⟩
def eN (p:Nat->Bool) (β:Bt):Bt:=fun i=>match p i with
 | true=>β i
 | false=>.no
theorem ij {p:Nat->Bool} {β:Bt} {i:Nat} (h:p i=true):eN p β i=β i:=by simp [eN,h]
theorem ql {p:Nat->Bool} {β:Bt} {i:Nat} (h:p i=false):eN p β i=.no:=by simp [eN,h]
end
section
variable {B:Bs} {K:Fz} {β:Bt} {Γ:List Ob} {w:World}
def fw (β:Bt) (i:Nat) (x:Bk):Bt:=fun j=>if j=i then x else β j
theorem bC {i:Nat} {x:Bk}:fw β i x i=x:=by simp [fw]
theorem bO {i j:Nat} {x:Bk} (h:j≠i):fw β i x j=β j:=by simp [fw,h]
theorem lL {i j b:Nat} {x:Bk} (h:(fw β i x j).has b):x.has b\/(β j).has b:=by
 by_cases hj:j=i
 ·subst hj;rw [bC] at h;exact .inl h
 ·rw [bO hj] at h;exact .inr h
theorem jy {i:Nat} {x:Bk} (h:uq (β i) x):dI β (fw β i x):=fun j=>by
 by_cases hj:j=i
 ·subst hj;rw [bC];exact h
 ·rw [bO hj];exact uq.refl _
theorem bs.self {vs:List Value}:bs K β vs (vs.map .v):=⟨by simp,fun i v g D X=>by
 rw [bp,D] at X;cases X;exact .v _⟩
theorem Inv.add {w':World} {b:Nat} {vs:List Value} {cs:List GV} {E:TypeId} (h:Inv B K β Γ w) (hn:xi w w' b (.cells vs.toArray E)) (hr:bs K β vs cs) :
  Inv B K (fw β Γ.length (.fix b)) (Γ++[.box E cs]) w':=by
 have cl:β Γ.length=.no:=h.out _ (aH _);have hle:dI β (fw β Γ.length (.fix b)):=jy zfX
 have au:∀ i b',(β i).has b'->b'≠b:=fun i b' bH=>by have:=h.lt bH;have:=hn.fresh;omega
 have hK:∀ o,K b o=none:=fun o=>by
  cases hk:K b o with
  | none=>rfl
  | some g=>have:=h.fz.lt hk;have:=hn.fresh;omega
 refine ⟨h.ext.step hn.ext (fun j hj=>hj.elim),h.kle,h.ble.trans hle,h.loc,h.fz.ext hn.ext (fun _ _ _ _ h=>h),fun i x hi=>?_,fun i hi=>?_,fun i j b' hi hj=>?_,fun i b' hi=>?_,h.kn,h.tab.step hn.ext (fun _ h=>h.elim) (cW.refl K) (fun i b2 hi=>by rcases lL hi with D | D;(· cases D;exact .inr (by have:=hn.fresh;omega));exact .inl ⟨i,D⟩)⟩
 ·by_cases uC:i < Γ.length
  ·rw [ff uC] at hi
   have bT:i≠Γ.length:=by omega
   exact (h.ob i x hi).ext hn.ext (fun _ _ h=>h) (cW.refl K) hle (bO bT) (fun _ _ _ h=>h)
  ·have:i=Γ.length:=by have:=(bu hi).1;simp at this;omega
   subst this;simp at hi;subst hi;exact ⟨b,vs,bC,hn.blk,hr.mono (cW.refl K) hle,hK⟩
 ·simp at hi;rw [bO zfw];exact h.out i zfw
 ·by_cases D:i=Γ.length <;> by_cases X:j=Γ.length
  ·omega
  ·subst D;rw [bC] at hi;rw [bO X] at hj;cases hi;exact absurd rfl (au j _ hj)
  ·subst X;rw [bC] at hj;rw [bO D] at hi;cases hj;exact absurd rfl (au i _ hi)
  ·exact zfk
 ·by_cases D:i=Γ.length
  ·subst D;rw [bC] at hi;cases hi;exact .inr zgA
  ·rw [bO D] at hi;exact h.own i b' hi
theorem Inv.L8 {w':World} {E k:Nat} {x:Value} {xs:List Value} {rows:List (List GV)} (h:Inv B K β Γ w) (hx:Ext gL w w') (ho:iL w' 0 E k x rows.length xs) (hf:∀ b,x.ownBlock=some b->w.heap.size<=b)
  (hr:bs K β xs rows.flatten) (hk:jx k rows):Inv B K (fw β Γ.length (.gr x rows.length)) (Γ++[.vec E k 0 rows]) w':=by
 have cl:β Γ.length=.no:=h.out _ (aH _);have hle:dI β (fw β Γ.length (.gr x rows.length)):=jy zfX
 have au:∀ i b',(β i).has b'->x.ownBlock≠some b':=fun i b' bH he=>by have:=h.lt bH;have:=hf b' he;omega
 have hK:∀ b,x.ownBlock=some b->∀ o,K b o=none:=fun b hb o=>by
  cases hk:K b o with
  | none=>rfl
  | some g=>have:=h.fz.lt hk;have:=hf b hb;omega
 refine ⟨h.ext.step hx (fun j hj=>hj.elim),h.kle,h.ble.trans hle,h.loc,h.fz.ext hx (fun _ _ _ _ h=>h),fun i y hi=>?_,fun i hi=>?_,fun i j b' hi hj=>?_,fun i b' hi=>?_,h.kn,h.tab.step hx (fun _ h=>h.elim) (cW.refl K) (fun i b2 hi=>by rcases lL hi with D | D;(· exact .inr (hf b2 D));exact .inl ⟨i,D⟩)⟩
 ·by_cases uC:i < Γ.length
  ·rw [ff uC] at hi
   have bT:i≠Γ.length:=by omega
   exact (h.ob i y hi).ext hx (fun _ _ h=>h) (cW.refl K) hle (bO bT) (fun _ _ _ h=>h)
  ·have:i=Γ.length:=by have:=(bu hi).1;simp at this;omega
   subst this;simp at hi;subst hi;exact ⟨x,xs,bC,ho,hr.mono (cW.refl K) hle,hk,fun b hb=>⟨fun o _=>hK b hb o,fun o g ho _=>by omega⟩,aX _⟩
 ·simp at hi;rw [bO zfw];exact h.out i zfw
 ·by_cases D:i=Γ.length <;> by_cases X:j=Γ.length
  ·omega
  ·subst D;rw [bC] at hi;rw [bO X] at hj;exact absurd hi (au j _ hj)
  ·subst X;rw [bC] at hj;rw [bO D] at hi;exact absurd hj (au i _ hi)
  ·exact zfk
 ·by_cases D:i=Γ.length
  ·subst D;rw [bC] at hi;exact .inr (jg h.ext.size (hf b' hi))
  ·rw [bO D] at hi;exact h.own i b' hi
def mZ (K:Fz) (b:Nat) (cs:List GV):Fz:=fun b' o=>if b'=b then cs[o]? else K b' o
theorem xk {b o:Nat} {cs:List GV} {g:GV} (h:cs[o]?=some g):mZ K b cs b o=some g:=by simp [mZ,h]
theorem Inv.wo {w':World} {b:Nat} {vs:List Value} {cs:List GV} {E:TypeId} (h:Inv B K β Γ w) (hn:xi w w' b (.cells vs.toArray E)) (hr:bs K β vs cs) (hp:∀ g∈cs,g.pc=true) :
  cW K (mZ K b cs)/\Inv B (mZ K b cs) β Γ w':=by
 have Xj:∀ o,K b o=none:=fun o=>by
  cases hk:K b o with
  | none=>rfl
  | some g=>have:=h.fz.lt hk;have:=hn.fresh;omega
 have hle:cW K (mZ K b cs):=fun b' o g hg=>by
  by_cases hb:b'=b
  ·subst hb;rw [Xj] at hg;cases hg
  ·simp [mZ,hb,hg]
 refine ⟨hle,h.ext.step hn.ext (fun j hj=>hj.elim),h.kle.trans hle,h.ble,h.loc,fun b' o g hg=>?_,fun i x hi=>?_,h.out,h.dis,h.own,fun b' o g hg=>?_,h.tab.step hn.ext (fun _ h=>h.elim) hle (fun i b2 h=>.inl ⟨i,h⟩)⟩
 ·by_cases hb:b'=b
  ·subst hb;simp [mZ] at hg;obtain ⟨v,hv,jq⟩:=hr.at hg;have Ag:=hp g (br hg);exact ⟨Ag,v,yn hn.blk zf8,(jq.mono hle (dI.refl β)).pc Ag⟩
  ·have kU:K b' o=some g:=by simpa [mZ,hb] using hg
   obtain ⟨D,v,X,h3⟩:=h.fz b' o g kU;exact ⟨D,v,hn.ext.c X (fun h=>h),h3.mono hle (dI.refl _)⟩
 ·refine (h.ob i x hi).ext hn.ext (fun _ _ h=>h) hle (dI.refl β) rfl (fun b' o hb hk=>?_)
  have:b'≠b:=by have:=h.lt hb;have:=hn.fresh;omega
  simp [mZ,this,hk]
 ·by_cases hb:b'=b
  ·exact .inr (.inr zgA)
  ·exact h.kn b' o g (by simpa [mZ,hb] using hg)
theorem Inv.store {w':World} {i b:Nat} {E:TypeId} {cs Ox:List GV} {Y2:List Value} (h:Inv B K β Γ w) (hi:Γ[i]?=some (.box E cs)) (hb:β i=.fix b) (hs:wc w w' b Y2.toArray E)
  (hr:bs K β Y2 Ox):Inv B K β (Γ.set i (.box E Ox)) w':=by
 obtain ⟨b0,vs,D,X,h3,h4⟩:=h.ob i _ hi;rw [hb] at D;cases D
 have eH:(β i).has b:=by rw [hb];exact rfl
 refine ⟨h.ext.step hs.ext (fun j hj=>?_),h.kle,h.ble,h.loc,h.fz.ext hs.ext (fun b' o g hg he=>?_),fun j x hj=>?_,fun j hj=>h.out j zfI,h.dis,h.own,h.kn,h.tab.step hs.ext (fun j hj=>⟨i,by subst hj;exact eH⟩) (cW.refl K) (fun i b2 h=>.inl ⟨i,h⟩)⟩
 ·subst hj;exact (h.own i _ eH).symm
 ·subst he;rw [h4] at hg;cases hg
 ·rw [eG] at hj;split at hj
  ·rename_i fj;split at hj
   ·cases hj;subst fj
    exact ⟨b,Y2,hb,hs.blk,hr,h4⟩
   ·cases hj
  ·rename_i fj;refine (h.ob j x hj).ext hs.ext (fun b' bH he=>?_) (cW.refl K) (dI.refl β) rfl (fun _ _ _ h=>h);subst he;exact fj (h.dis i j _ eH bH)
def CT (K:Fz) (x:Value) (n:Nat) (fl:List GV):Fz:=fun b o=>if x.ownBlock=some b/\o < n then fl[o]? else K b o
theorem A0 {x:Value} {n b o:Nat} {fl:List GV} (D:x.ownBlock=some b) (X:o < n):CT K x n fl b o=fl[o]?:=by unfold CT;rw [ae ⟨D,X⟩]
theorem yA {x:Value} {n b o:Nat} {fl:List GV} (h:¬ (x.ownBlock=some b/\o < n)):CT K x n fl b o=K b o:=by unfold CT;rw [ab h]
theorem CU {x:Value} {n b o:Nat} {fl:List GV} {g:GV} (h:CT K x n fl b o=some g):(x.ownBlock=some b/\o < n/\fl[o]?=some g)\/(¬ (x.ownBlock=some b/\o < n)/\K b o=some g):=by
 by_cases hc:x.ownBlock=some b/\o < n
 ·rw [A0 hc.1 hc.2] at h;exact .inl ⟨hc.1,hc.2,h⟩
 ·rw [yA hc] at h;exact .inr ⟨hc,h⟩
theorem Inv.grow {w':World} {i:Nat} {E k fz:Nat} {rows news:List (List GV)} {h0 x:Value} {xs ns:List Value} (h:Inv B K β Γ w) (hi:Γ[i]?=some (.vec E k fz rows)) (hb:β i=.gr h0 rows.length)
  (pV:iL w 0 E k h0 rows.length xs/\bs K β xs rows.flatten) (ho:iL w' 0 E k x (rows.length+news.length) (xs++ns)) (hx:Ext (fun b=>h0.ownBlock=some b) w w') (hf:∀ b,x.ownBlock=some b->h0.ownBlock=some b\/w.heap.size<=b)
  (hr:bs K β ns news.flatten) (hk:jx k news) (bT:news≠[]) (r8:∀ b,h0.ownBlock=some b->∀ o v,o < fz * k->ja w.heap b o=some v->ja w'.heap b o=some v) :
  ∃ K',cW K K'/\dI β (fw β i (.gr x (rows++news).length))/\Inv B K' (fw β i (.gr x (rows++news).length)) (Γ.set i (.vec E k fz (rows++news))) w':=by
 obtain ⟨tZ,xs',D,X,h3,h4,h5,h6⟩:=h.ob i _ hi;rw [hb] at D;cases D;clear X h3
 have hlen:news.length≠0:=fun h=>bT (gx h)
 have hle:dI β (fw β i (.gr x (rows++news).length)):=jy (by rw [hb];exact ⟨x,_,rfl,by simp,fun he=>by rw [aO] at he;omega⟩)
 have zW:∀ b,h0.ownBlock=some b->(β i).has b:=fun b bH=>by rw [hb];exact bH
 have My:rows.flatten.length=rows.length * k:=by rw [<-pV.2.1];exact pV.1.1
 have aca:fz * k<=rows.flatten.length:=by rw [My];exact sA k h6
 have FD:cW K (CT K x (fz * k) rows.flatten):=fun b o g hg=>by
  by_cases hc:x.ownBlock=some b/\o < fz * k
  ·rw [A0 hc.1 hc.2]
   rcases hf b hc.1 with h7 | h7
   ·have Uj:o < rows.flatten.length:=by omega
    have:=(h5 b h7).2 o rows.flatten[o] hc.2 (by simp [Uj]);rw [this] at hg;cases hg;simp [Uj]
   ·have:=h.fz.lt hg;omega
  ·rw [yA hc];exact hg
 refine ⟨CT K x (fz * k) rows.flatten,FD,hle,h.ext.step hx (fun j hj=>(h.own i j (zW j hj)).symm),h.kle.trans FD,h.ble.trans hle,h.loc,fun b o g hg=>?_,fun j y hj=>?_,fun j hj=>?_,fun j j' b hj nw=>?_,fun j b hj=>?_,fun b o g hg=>?_,h.tab.step hx (fun j hj=>⟨i,zW j hj⟩) FD (fun j b2 hi=>by rcases lL hi with D | D;(· exact (hf b2 D).imp (fun X=>⟨i,zW b2 X⟩) id);exact .inl ⟨j,D⟩)⟩
 ·rcases CU hg with ⟨bH,BL,hg⟩ | ⟨hc,hg⟩
  ·have Ag:g.pc=true:=by
    exact zd5
   obtain ⟨v,hv,jq⟩:=pV.2.at hg;obtain ⟨b2,c,vD,_,_,ly⟩:=ho.cells.2 (by intro h0;have:xs=[]:=(List.append_eq_nil_iff.1 h0).1;rw [this] at hv;simp at hv)
   have ej:b2=b:=by rw [vD] at bH;cases bH;rfl
   subst ej;have au:o < xs.length:=(bu hv).1;refine ⟨Ag,v,?_,(jq.mono FD hle).pc Ag⟩;rw [<-gk];exact ly o v (by rw [ff au];exact hv)
  ·obtain ⟨hp,v,hv,jq⟩:=h.fz b o g hg;refine ⟨hp,v,?_,jq.mono FD (dI.refl _)⟩
   by_cases h7:h0.ownBlock=some b
   ·by_cases h8:o < fz * k
    ·exact r8 b h7 o v h8 hv
    ·rw [(h5 b h7).1 o zfw] at hg;cases hg
   ·exact hx.c hv h7
 ·rw [eG] at hj;split at hj
  ·rename_i fj;split at hj
   ·cases hj;subst fj
    refine ⟨x,xs++ns,bC,by simpa using ho,?_,?_,fun b bH=>⟨fun o BL=>?_,fun o g BL hg=>?_⟩,by simp;omega⟩
    ·rw [List.flatten_append];exact (pV.2.mono FD hle).app (hr.mono FD hle)
    ·intro r Pt
     rcases nt Pt with h7 | h7
     ·exact h4 r h7
     ·exact hk r h7
    ·rw [yA zfw]
     rcases hf b bH with h7 | h7
     ·exact (h5 b h7).1 o BL
     ·cases fk:K b o with
      | none=>rfl
      | some g=>have:=h.fz.lt fk;omega
    ·rw [A0 bH BL];rw [List.flatten_append,ff zfw] at hg;exact hg
   ·cases hj
  ·rename_i fj;refine (h.ob j y hj).ext hx (fun b bH he=>?_) FD hle (bO (fun he=>fj he.symm)) (fun b o bH fk=>?_)
   ·exact fj (h.dis i j b (zW b he) bH)
   ·rw [yA];exact fk;rintro ⟨h7,_⟩
    rcases hf b h7 with h8 | h8
    ·exact fj (h.dis i j b (zW b h8) bH)
    ·have:=h.lt bH;omega
 ·have nw:Γ.length<=j:=by simpa using hj
  have:i < Γ.length:=(bu hi).1;rw [bO zfw];exact h.out j nw
 ·have key:∀ j b,j≠i->(β j).has b->x.ownBlock≠some b:=fun j b Ce bH he=>by
   rcases hf b he with h7 | h7
   ·exact Ce (h.dis j i b bH (zW b h7))
   ·have:=h.lt bH;omega
  by_cases D:j=i <;> by_cases X:j'=i
  ·omega
  ·subst D;rw [bC] at hj;rw [bO X] at nw;exact absurd hj (key j' b X nw)
  ·subst X;rw [bC] at nw;rw [bO D] at hj;exact absurd nw (key j b D hj)
  ·rw [bO D] at hj;rw [bO X] at nw;exact h.dis j j' b hj nw
 ·by_cases D:j=i
  ·subst D;rw [bC] at hj
   rcases hf b hj with h7 | h7
   ·exact h.own j b (zW b h7)
   ·exact .inr (jg h.ext.size h7)
  ·rw [bO D] at hj;exact h.own j b hj
 ·rcases CU hg with ⟨bH,_,_⟩ | ⟨_,hg⟩
  ·rcases hf b bH with h7 | h7
   ·exact .inr (h.own i b (zW b h7))
   ·exact .inr (.inr (jg h.ext.size h7))
  ·exact h.kn b o g hg
theorem Inv.lr {i E k fz:Nat} {rows:List (List GV)} (h:Inv B K β Γ w) (hi:Γ[i]?=some (.vec E k fz rows)) :
  ∃ K',cW K K'/\(∀ x b,β i=.gr x rows.length->x.ownBlock=some b->∀ (o:Nat) g,rows.flatten[o]?=some g->K' b o=some g)/\Inv B K' β (Γ.set i (.vec E k rows.length rows)) w:=by
 obtain ⟨x,xs,D,X,h3,h4,h5,h6⟩:=h.ob i _ hi
 have My:rows.flatten.length=rows.length * k:=by rw [<-h3.1];exact X.1
 have eH:∀ b,x.ownBlock=some b->(β i).has b:=fun b hb=>by rw [D];exact hb
 have hle:cW K (CT K x (rows.length * k) rows.flatten):=fun b o g hg=>by
  by_cases hc:x.ownBlock=some b/\o < rows.length * k
  ·rw [A0 hc.1 hc.2]
   have au:o < rows.flatten.length:=by omega
   by_cases ho:o < fz * k
   ·have:=(h5 b hc.1).2 o rows.flatten[o] ho (by simp [au]);rw [this] at hg;cases hg;simp [au]
   ·rw [(h5 b hc.1).1 o zfw] at hg;cases hg
  ·rw [yA hc];exact hg
 refine ⟨CT K x (rows.length * k) rows.flatten,hle,fun x' b KU hb o g hg=>?_,h.ext,h.kle.trans hle,h.ble,h.loc,fun b o g hg=>?_,fun j y hj=>?_,fun j hj=>h.out j zfI,h.dis,h.own,fun b o g hg=>?_,h.tab.step (S:=gL) (Ext.refl w) (fun _ h=>h.elim) hle (fun i b2 h=>.inl ⟨i,h⟩)⟩
 ·rw [D] at KU;cases KU;rw [A0 hb (by rw [<-My];exact (bu hg).1)];exact hg
 ·rcases CU hg with ⟨bH,BL,hg⟩ | ⟨hc,hg⟩
  ·have Ag:g.pc=true:=by
    exact zd5
   obtain ⟨v,hv,jq⟩:=h3.at hg;obtain ⟨b2,c,vD,_,_,ly⟩:=X.cells.2 (by intro h0;rw [h0] at hv;simp at hv)
   have ej:b2=b:=by rw [vD] at bH;cases bH;rfl
   subst ej;exact ⟨Ag,v,by rw [<-gk];exact ly o v hv,(jq.mono hle (dI.refl β)).pc Ag⟩
  ·obtain ⟨h7,v,h8,h9⟩:=h.fz b o g hg;exact ⟨h7,v,h8,h9.mono hle (dI.refl _)⟩
 ·rw [eG] at hj;split at hj
  ·rename_i fj;split at hj
   ·cases hj;subst fj
    refine ⟨x,xs,D,X,h3.mono hle (dI.refl β),h4,fun b hb=>⟨fun o ho=>?_,fun o g ho hg=>?_⟩,aH _⟩
    ·rw [yA zfw];exact (h5 b hb).1 o (jg (sA k h6) ho)
    ·rw [A0 hb ho];exact hg
   ·cases hj
  ·rename_i fj;refine (h.ob j y hj).ext (Ext.refl w) (fun _ _ h=>h) hle (dI.refl β) rfl (fun b o bH fk=>?_) (S:=gL);rw [yA];exact fk;rintro ⟨h7,_⟩;exact fj (h.dis i j b (eH b h7) bH)
 ·rcases CU hg with ⟨bH,_,_⟩ | ⟨_,hg⟩
  ·exact .inr (h.own i b (eH b bH))
  ·exact h.kn b o g hg
end
mutual
def eI (f:Nat->Nat):GV->GV
 | .v x=>.v x
 | .U=>.U
 | .agg cs=>.agg (nU f cs)
 | .tup cs=>.tup (nU f cs)
 | .sl k rows=>.sl k rows
 | .box cs o=>.box cs o
 | .loc i o=>.loc (f i) o
 | .vec i n=>.vec (f i) n
 | .vp i n k idx off=>.vp (f i) n k idx off
 | .arr i o n=>.arr (f i) o n
 | .fn g a c=>.fn g (nU f a) (nU f c)
def nU (f:Nat->Nat):List GV->List GV
 | []=>[]
 | g::gs=>eI f g::nU f gs
end
theorem l9 (f:Nat->Nat) (gs:List GV):nU f gs=gs.map (eI f):=by
 induction gs with
 | nil=>rfl
 | cons g gs ih=>simp [nU,ih]
theorem Rel.DN {K:Fz} {β:Bt} {f:Nat->Nat} {x:Value} {g:GV} (h:Rel K (fun j=>β (f j)) x g):Rel K β x (eI f g):=by
 induction h with
 | v x=>exact .v x
 | U x=>exact .U x
 | agg vs cs hl h ih =>
  rw [eI,l9]
  refine .agg vs _ zfz fun i v g D X=>?_
  rw [bp] at X
  cases hc:cs[i]? with
  | none=>rw [hc] at X;cases X
  | some c=>rw [hc] at X;cases X;exact ih i v c D hc
 | tup vs cs hl h ih =>
  rw [eI,l9]
  refine .tup vs _ zfz fun i v g D X=>?_
  rw [bp] at X
  cases hc:cs[i]? with
  | none=>rw [hc] at X;cases X
  | some c=>rw [hc] at X;cases X;exact ih i v c D hc
 | sl0 a c k=>exact .sl0 a c k
 | sl b o c k rows h hc=>exact .sl b o c k rows h hc
 | box b o' o cs h=>exact .box b o' o cs h
 | loc i o b h=>exact .loc _ o b h
 | vec i n a c h=>exact .vec _ n a c h
 | vp i n k idx off x h=>exact .vp _ n k idx off x h
 | arr i o n b c h=>exact .arr _ o n b c h
 | fn g xs ys first cap hl kG h h' ih xK =>
  rw [eI,l9,l9];refine .fn g xs ys _ _ zfz (by simpa using kG) (fun i v g D X=>?_) (fun i v g D X=>?_)
  ·rw [bp] at X
   cases hc:first[i]? with
   | none=>rw [hc] at X;cases X
   | some c=>rw [hc] at X;cases X;exact ih i v c D hc
  ·rw [bp] at X
   cases hc:cap[i]? with
   | none=>rw [hc] at X;cases X
   | some c=>rw [hc] at X;cases X;exact xK i v c D hc
theorem Rel.Dy {K:Fz} {β:Bt} {f:Nat->Nat} {x:Value} {g:GV} (h:Rel K β x (eI f g)):Rel K (fun j=>β (f j)) x g:=by
 generalize he:eI f g=g' at h
 induction h generalizing g with
 | v x =>
  cases g <;> simp only [eI] at he <;> first | (cases he;done) | skip
  cases he;exact .v x
 | U x =>
  cases g <;> simp only [eI] at he <;> first | (cases he;done) | skip
  exact .U x
 | agg vs cs hl h ih =>
  cases g <;> simp only [eI] at he <;> first | (cases he;done) | skip
  rename_i ds;rw [l9] at he;cases he
  exact .agg vs ds zfz fun i v g D X=>ih i v (eI f g) D zgm rfl
 | tup vs cs hl h ih =>
  cases g <;> simp only [eI] at he <;> first | (cases he;done) | skip
  rename_i ds;rw [l9] at he;cases he
  exact .tup vs ds zfz fun i v g D X=>ih i v (eI f g) D zgm rfl
 | sl0 a c k =>
  cases g <;> simp only [eI] at he <;> first | (cases he;done) | skip
  cases he;exact .sl0 a c _
 | sl b o c k rows h hc =>
  cases g <;> simp only [eI] at he <;> first | (cases he;done) | skip
  cases he;exact .sl b o c k rows h hc
 | box b o' o cs h =>
  cases g <;> simp only [eI] at he <;> first | (cases he;done) | skip
  cases he;exact .box b o' o cs h
 | loc i o b h =>
  cases g <;> simp only [eI] at he <;> first | (cases he;done) | skip
  cases he;exact .loc _ o b h
 | vec i n a c h =>
  cases g <;> simp only [eI] at he <;> first | (cases he;done) | skip
  cases he;exact .vec _ n a c h
 | vp i n k idx off x h =>
  cases g <;> simp only [eI] at he <;> first | (cases he;done) | skip
  cases he;exact .vp _ n k idx off x h
 | arr i o n b c h =>
  cases g <;> simp only [eI] at he <;> first | (cases he;done) | skip
  cases he;exact .arr _ o n b c h
 | fn g' xs ys first cap hl kG h h' ih xK =>
  cases g <;> simp only [eI] at he <;> first | (cases he;done) | skip
  rename_i f' ds es;rw [l9,l9] at he;cases he;exact .fn _ xs ys ds es zfz (by simpa using kG) (fun i v g D X=>ih i v (eI f g) D zgm rfl)
   (fun i v g D X=>xK i v (eI f g) D zgm rfl)
mutual
def GV.ok (p:Nat->Bool):GV->Bool
 | .loc i _=>p i
 | .vec i _=>p i
 | .vp i _ _ _ _=>p i
 | .arr i _ _=>p i
 | .agg cs=>F4 p cs
 | .tup cs=>F4 p cs
 | .fn _ a c=>F4 p a&&F4 p c
 | .v _=>true
 | .U=>true
 | .sl _ _=>true
 | .box _ _=>true
def F4 (p:Nat->Bool):List GV->Bool
 | []=>true
 | g::gs=>GV.ok p g&&F4 p gs
end
def below (n:Nat):Nat->Bool:=fun i=>Nat.blt i n
def other (n:Nat):Nat->Bool:=fun i=>!Nat.beq i n
abbrev GV.lt (n:Nat) (g:GV):Bool:=g.ok (below n)
theorem xU {p:Nat->Bool} {gs:List GV} (h:F4 p gs=true) {g:GV} (hg:g∈gs):g.ok p=true:=by
 induction gs with
 | nil=>cases hg
 | cons x gs ih =>
  simp only [F4,aI] at h
  rcases eF hg with rfl | hg
  ·exact h.1
  ·exact ih h.2 hg
theorem Rel.res {K:Fz} {β:Bt} {p:Nat->Bool} {x:Value} {g:GV} (h:Rel K β x g) (hl:g.ok p=true):Rel K (eN p β) x g:=by
 induction h with
 | v x=>exact .v x
 | U x=>exact .U x
 | agg vs cs qx h ih=>simp only [GV.ok] at hl;exact .agg vs cs qx fun i v g D X=>ih i v g D X (xU hl (br X))
 | tup vs cs qx h ih=>simp only [GV.ok] at hl;exact .tup vs cs qx fun i v g D X=>ih i v g D X (xU hl (br X))
 | sl0 a c k=>exact .sl0 a c k
 | sl b o c k rows h hc=>exact .sl b o c k rows h hc
 | box b o' o cs h=>exact .box b o' o cs h
 | loc i o b h=>simp only [GV.ok] at hl;exact .loc _ o b (by rw [ij hl,h])
 | vec i m a c h=>simp only [GV.ok] at hl;exact .vec _ m a c (by rw [ij hl];exact h)
 | vp i m k idx off x h=>simp only [GV.ok] at hl;exact .vp _ m k idx off x (by rw [ij hl];exact h)
 | arr i o m b c h=>simp only [GV.ok] at hl;exact .arr _ o m b c (by rw [ij hl,h])
 | fn g' xs ys first cap qx kG h h' ih xK =>
  simp only [GV.ok,aI] at hl
  exact .fn _ xs ys first cap qx kG (fun i v g D X=>ih i v g D X (xU hl.1 (br X))) (fun i v g D X=>xK i v g D X (xU hl.2 (br X)))
def Ob.ok (p:Nat->Bool):Ob->Bool
 | .box _ cs=>F4 p cs
 | _=>true
def Ob.eI (f:Nat->Nat):Ob->Ob
 | .box E cs=>.box E (nU f cs)
 | x=>x
def sM (p:Nat->Bool):List Ob->Bool
 | []=>true
 | x::r=>Ob.ok p x&&sM p r
abbrev uI (n:Nat) (Γ:List Ob):Bool:=sM (below n) Γ
theorem Ls {p:Nat->Bool} {gs:List Ob} (h:sM p gs=true) {g:Ob} (hg:g∈gs):g.ok p=true:=by
 induction gs with
 | nil=>cases hg
 | cons x gs ih =>
  simp only [sM,aI] at h
  rcases eF hg with rfl | hg
  ·exact h.1
  ·exact ih h.2 hg
def Nn (p:Nat->Bool):List GV->List GV
 | []=>[]
 | g::gs=>(match GV.ok p g with | true=>g | false=>.U)::Nn p gs
abbrev w6 (n:Nat) (fr:List GV):List GV:=Nn (below n) fr
theorem FR.res {K:Fz} {β:Bt} {p:Nat->Bool} {fr:List GV} {l:List Value} (h:FR K β fr l):FR K (eN p β) (Nn p fr) l:=by
 induction h with
 | nil=>exact .nil
 | cons h t ih =>
  rw [Nn];split
  ·rename_i hl;exact .cons (h.res hl) ih
  ·exact .cons (.U _) ih
theorem lB.res {K:Fz} {β:Bt} {w:World} {p:Nat->Bool} {i:Nat} {x:Ob} (h:lB K β w i x) (hi:p i=true) (hx:x.ok p=true):lB K (eN p β) w i x:=by
 cases x with
 | gone=>simp only [lB] at h |-;rw [ij hi,h]
 | box E cs =>
  obtain ⟨b,vs,D,X,h3,h4⟩:=h;exact ⟨b,vs,by rw [ij hi,D],X,⟨h3.1,fun i v g h5 h6=>(h3.2 i v g h5 h6).res (xU hx (br h6))⟩,h4⟩
 | vec E k fz rows =>
  obtain ⟨h0,xs,D,X,h3,h4,h5⟩:=h;refine ⟨h0,xs,by rw [ij hi,D],X,⟨h3.1,fun i v g h6 h7=>(h3.2 i v g h6 h7).pc ?_⟩,h4,h5⟩;exact zaB
 | vech E k rows x =>
  obtain ⟨xs,D,X,h3,h4,h5⟩:=h;refine ⟨xs,by rw [ij hi,D],X,⟨h3.1,fun i v g h6 h7=>(h3.2 i v g h6 h7).pc ?_⟩,h4,h5⟩;exact zaB
 | lost=>exact fun b hb=>h b (by rw [ij hi] at hb;exact hb)
 | blk b q=>exact ⟨by rw [ij hi,h.1],h.2⟩
 | blob q =>
  obtain ⟨g,D,X⟩:=h;exact ⟨g,by rw [ij hi,D],X⟩
section
variable {B:Bs} {K:Fz} {β:Bt} {Γ:List Ob} {w:World}
theorem xm {n i:Nat} (h:i < n):below n i=true:=by simpa [below] using h
theorem sP {n i:Nat} (h:n<=i):below n i=false:=by
 cases hb:below n i with
 | false=>rfl
 | true=>simp [below] at hb;omega
theorem Inv.cut {n:Nat} (h:Inv B K β Γ w) (hm:B.m<=n) (hl:uI n (Γ.take n)=true):Inv B K (eN (below n) β) (Γ.take n) w:=by
 have eQ:∀ i b,(eN (below n) β i).has b->(β i).has b:=fun i b hi=>by
  simp only [eN] at hi;split at hi
  ·exact hi
  ·cases hi
 refine ⟨h.ext,h.kle,fun i=>?_,h.loc,h.fz,fun i x hi=>?_,fun i hi=>?_,fun i j b hi hj=>h.dis i j b (eQ i b hi) (eQ j b hj),fun i b hi=>h.own i b (eQ i b hi),h.kn,h.tab.step (S:=gL) (Ext.refl w) (fun _ h=>h.elim) (cW.refl K) (fun i b2 X=>.inl ⟨i,eQ i b2 X⟩)⟩
 ·by_cases mu:i < n
  ·rw [ij (xm mu)];exact h.ble i
  ·rw [h.loc i zfw];trivial
 ·have au:=Ls hl (br hi);rw [getElem?_take] at hi;split at hi
  ·rename_i mu;exact (h.ob i x hi).res (xm mu) au
  ·cases hi
 ·by_cases mu:i < n
  ·rw [ij (xm mu)];exact h.out i (by simp at hi;omega)
  ·exact ql (sP zfw)
theorem Lu {i:Nat}:other i i=false:=by simp [other]
theorem xV {i j:Nat} (h:j≠i):other i j=true:=by
 cases hb:Nat.beq j i with
 | false=>simp [other,hb]
 | true=>exact absurd (Nat.eq_of_beq_eq_true hb) h
theorem Inv.freeze {i:Nat} {E:TypeId} {cs:List GV} (h:Inv B K β Γ w) (hi:Γ[i]?=some (.box E cs)) (hp:∀ g∈cs,g.pc=true) (cl:sM (other i) (Γ.set i .gone)=true) (hm:B.m<=i) :
  ∃ K',cW K K'/\(∀ b,β i=.fix b->∀ (j:Nat) g,cs[j]?=some g->K' b j=some g)/\Inv B K' (eN (other i) β) (Γ.set i .gone) w:=by
 obtain ⟨b,vs,D,X,h3,h4⟩:=h.ob i _ hi
 have eH:(β i).has b:=by rw [D];exact rfl
 have hle:cW K (mZ K b cs):=fun b' o g hg=>by
  by_cases hb:b'=b
  ·subst hb;rw [h4] at hg;cases hg
  ·simp [mZ,hb,hg]
 have eQ:∀ j b',(eN (other i) β j).has b'->j≠i/\(β j).has b':=fun j b' hj=>by
  by_cases kV:j=i
  ·subst kV;rw [ql Lu] at hj;cases hj
  ·rw [ij (xV kV)] at hj;exact ⟨kV,hj⟩
 refine ⟨mZ K b cs,hle,fun b' bH j g hg=>?_,h.ext,h.kle.trans hle,fun j=>?_,h.loc,fun b' o g hg=>?_,fun j x hj=>?_,fun j hj=>?_,fun j j' b' hj nw=>?_,fun j b' hj=>?_,fun b' o g hg=>?_,h.tab.step (S:=gL) (Ext.refl w) (fun _ h=>h.elim) hle (fun i b2 X=>.inl ⟨i,(eQ i b2 X).2⟩)⟩
 ·rw [D] at bH;cases bH;exact xk hg
 ·by_cases kV:j=i
  ·subst kV;rw [h.loc j hm];trivial
  ·rw [ij (xV kV)];exact h.ble j
 ·by_cases hb:b'=b
  ·subst hb;simp [mZ] at hg;obtain ⟨v,hv,jq⟩:=h3.at hg;have Ag:=hp g (br hg);exact ⟨Ag,v,yn X zf8,(jq.mono hle (dI.refl β)).pc Ag⟩
  ·have kU:K b' o=some g:=by simpa [mZ,hb] using hg
   obtain ⟨h5,v,h6,h7⟩:=h.fz b' o g kU;exact ⟨h5,v,h6,h7.mono hle (dI.refl _)⟩
 ·have eU:=Ls cl (br hj);rw [eG] at hj;split at hj
  ·rename_i fj;split at hj
   ·cases hj;subst fj;exact ql Lu
   ·cases hj
  ·rename_i fj;refine lB.res ?_ (xV (fun he=>fj he.symm)) eU;refine (h.ob j x hj).ext (Ext.refl w) (fun _ _ h=>h) hle (dI.refl β) rfl (fun b' o bH hk=>?_) (S:=gL)
   have:b'≠b:=fun he=>by subst he;exact fj (h.dis i j _ eH bH)
   simp [mZ,this,hk]
 ·have:i < Γ.length:=(bu hi).1
  have nw:Γ.length<=j:=by simpa using hj
  rw [ij (xV zfw)];exact h.out j nw
 ·exact h.dis j j' b' (eQ j b' hj).2 (eQ j' b' nw).2
 ·exact h.own j b' (eQ j b' hj).2
 ·by_cases hb:b'=b
  ·subst hb;exact .inr (h.own i _ eH)
  ·exact h.kn b' o g (by simpa [mZ,hb] using hg)
end
abbrev dW:=Exit->List GV->List Ob->Prop
def gl (B:Bs) (Q:dW):nF:=fun e l w=>∃ K β fr Γ,Inv B K β Γ w/\FR K β fr l/\Q e fr Γ
def GW (P:Program) (m:Nat) (c:Code) (Q:dW) (fr:List GV) (Γ:List Ob):Prop :=
 ∀ B K β w l,B.m=m->Inv B K β Γ w->FR K β fr l->W P c (gl B Q) l w
def GL (P:Program) (m:Nat) (ops:Array Oper) (Q:dW) (rest:List Oper) (fr:List GV) (Γ:List Ob):Prop :=
 ∀ B K β w l,B.m=m->Inv B K β Γ w->FR K β fr l->WL P ops (gl B Q) rest l w
def bg (next:List GV->List Ob->Prop) (Q:dW):dW
 | .normal,fr,Γ=>next fr Γ
 | e,fr,Γ=>Q e fr Γ
def bj (id:Nat) (Q:dW):dW
 | .exit zt,fr,Γ=>if zt=id then Q .normal fr Γ else Q (.exit zt) fr Γ
 | e,fr,Γ=>Q e fr Γ
def Wk (m:Nat) (fr:List GV) (Γ:List Ob) (cX:List GV) (aV:List Ob):Prop :=
 ∀ B K β w l,B.m=m->Inv B K β Γ w->FR K β fr l->∃ K' bR,Inv B K' bR aV w/\FR K' bR cX l
section
variable {P:Program} {m:Nat} {Q:dW} {fr:List GV} {Γ:List Ob} {ops:Array Oper} {rest:List Oper}
theorem Wk.trans {cX OV:List GV} {aV LW:List Ob} (h:Wk m fr Γ cX aV) (k:Wk m cX aV OV LW):Wk m fr Γ OV LW:=fun B K β w l hm hI hF=>by
 exact zbR
theorem GW.wk {c:Code} {cX:List GV} {aV:List Ob} (h:Wk m fr Γ cX aV) (k:GW P m c Q cX aV):GW P m c Q fr Γ:=fun B K β w l hm hI hF=>by
 exact zbR
theorem GL.wk {cX:List GV} {aV:List Ob} (h:Wk m fr Γ cX aV) (k:GL P m ops Q rest cX aV):GL P m ops Q rest fr Γ:=fun B K β w l hm hI hF=>by
 exact zbR
theorem Wk.cut {n:Nat} (hm:m<=n) (hl:uI n (Γ.take n)=true):Wk m fr Γ (w6 n fr) (Γ.take n):=fun B K β w l hB hI hF =>
 ⟨K,eN (below n) β,hI.cut zfw hl,hF.res⟩
inductive vc:List GV->List GV->Prop
 | nil:vc [] []
 | U {f:GV} {fs gs:List GV} (h:vc fs gs):vc (f::fs) (.U::gs)
 | eq {f g:GV} {fs gs:List GV} (he:f=g) (h:vc fs gs):vc (f::fs) (g::gs)
theorem FR.ab0 {K:Fz} {β:Bt} {l:List Value} {fr cX:List GV} (h:vc fr cX) (k:FR K β fr l):FR K β cX l:=by
 induction h generalizing l with
 | nil=>exact k
 | U h ih=>cases k with | cons k1 k2=>exact .cons (.U _) (ih k2)
 | eq he h ih=>subst he;cases k with | cons k1 k2=>exact .cons k1 (ih k2)
theorem Wk.aJ {cX:List GV} (h:vc fr cX):Wk m fr Γ cX Γ:=fun B K β w l _ hI hF=>⟨K,β,hI,hF.ab0 h⟩
theorem GW.seq {x y:Code} (h:GW P m x (bg (GW P m y Q) Q) fr Γ):GW P m (.seq x y) Q fr Γ:=fun B K β w l hm hI hF=>by
 refine W.seq (W.mono (h B K β w l hm hI hF) ?_);rintro e l w ⟨K,β,fr,Γ,hI,hF,hq⟩
 cases e with
 | normal=>exact hq B K β w l hm hI hF
 | _=>exact zcT
theorem GW.skip (h:Q .normal fr Γ):GW P m .skip Q fr Γ:=fun B K β w l hm hI hF=>W.skip ⟨K,β,fr,Γ,hI,hF,h⟩
theorem GW.exit {n:Nat} (h:Q (.exit n) fr Γ):GW P m (.exit n) Q fr Γ:=fun B K β w l hm hI hF=>W.exit ⟨K,β,fr,Γ,hI,hF,h⟩
theorem GW.ret (h:Q .ret fr Γ):GW P m .ret Q fr Γ:=fun B K β w l hm hI hF=>W.ret ⟨K,β,fr,Γ,hI,hF,h⟩
theorem GW.block {id:Nat} {c:Code} (h:GW P m c (bj id Q) fr Γ):GW P m (.block id c) Q fr Γ:=fun B K β w l hm hI hF=>by
 refine W.block (W.mono (h B K β w l hm hI hF) ?_);rintro e l w ⟨K,β,fr,Γ,hI,hF,hq⟩
 cases e with
 | exit zt =>
  simp only [bj] at hq;simp only [Yc];split <;> rename_i hh
  ·rw [ae hh] at hq;exact zcT
  ·rw [ab hh] at hq;exact zcT
 | _=>exact zcT
theorem Rel.eE {K:Fz} {β:Bt} {x a:Value} (h:Rel K β x (.v a)):x=a:=by cases h;rfl
theorem FR.ko {K:Fz} {β:Bt} {l:List Value} {x:Operand} {a:Value} (h:FR K β fr l) (hx:bf fr x=.v a):Xw.ev l x=a:=Rel.eE (by rw [<-hx];exact h.ev x)
theorem GW.cond {c:Operand} {x y:Code} {t:Bool} (hc:bf fr c=.v (.bool t)) (ht:t=true->GW P m x Q fr Γ) (hf:t=false->GW P m y Q fr Γ):GW P m (.cond c x y) Q fr Γ:=fun B K β w l hm hI hF =>
 W.cond (hF.ko hc) (fun h=>ht h B K β w l hm hI hF) (fun h=>hf h B K β w l hm hI hF)
theorem NO {c:Operand} {x y:Code} {t:Bool} (hc:bf fr c=.v (.bool t)) (ht:t=true) (h:GW P m x Q fr Γ):GW P m (.cond c x y) Q fr Γ:=GW.cond hc (fun _=>h) (fun X=>by rw [ht] at X;cases X)
theorem NN {c:Operand} {x y:Code} {t:Bool} (hc:bf fr c=.v (.bool t)) (ht:t=false) (h:GW P m y Q fr Γ):GW P m (.cond c x y) Q fr Γ:=GW.cond hc (fun X=>by rw [ht] at X;cases X) (fun _=>h)
theorem GW.mono {c:Code} {Q':dW} (h:GW P m c Q fr Γ) (hq:∀ e fr Γ,Q e fr Γ->Q' e fr Γ):GW P m c Q' fr Γ:=fun B K β w l hm hI hF =>
 W.mono (h B K β w l hm hI hF) fun e l w ⟨K,β,fr,Γ,hI,hF,q⟩=>⟨K,β,fr,Γ,hI,hF,hq _ _ _ q⟩
def Br (m:Nat) (K:List GV->List Ob->Prop) (fr:List GV) (Γ:List Ob):Prop:=∃ cX aV,Wk m fr Γ cX aV/\K cX aV
theorem GW.loop {c:Code} {α:Type} (μ:α->Nat) (acI:α->List GV->List Ob->Prop) (x:α) (h0:Br m (acI x) fr Γ)
  (round:∀ x fr Γ,acI x fr Γ->GW P m c (bg (fun cX aV=>∃ y,Br m (acI y) cX aV/\μ y < μ x) Q) fr Γ):GW P m (.loop c) Q fr Γ:=fun B K β w l hm hI hF=>by
 obtain ⟨cX,aV,hw,h0⟩:=h0;obtain ⟨K',bR,bA,xz⟩:=hw B K β w l hm hI hF;refine W.loop μ (fun x l w=>∃ K β fr Γ,Inv B K β Γ w/\FR K β fr l/\acI x fr Γ) x ⟨K',bR,cX,aV,bA,xz,h0⟩ ?_;rintro x l w ⟨K,β,fr,Γ,hI,hF,hi⟩;refine W.mono (round x fr Γ hi B K β w l hm hI hF) ?_;rintro e l w ⟨K,β,fr,Γ,hI,hF,hq⟩
 cases e with
 | normal =>
  obtain ⟨y,⟨cX,aV,hw,hy⟩,au⟩:=hq;obtain ⟨K',bR,bA,xz⟩:=hw B K β w l hm hI hF;exact ⟨y,⟨K',bR,cX,aV,bA,xz,hy⟩,au⟩
 | _=>exact zcT
theorem GW.region {id:Nat} {ol:List Oper} (h:GL P m ol.toArray Q ol fr Γ):GW P m (.region id ol.toArray false) Q fr Γ:=fun B K β w l hm hI hF=>W.region (h B K β w l hm hI hF)
theorem GL.nil (h:Q .normal fr Γ):GL P m ops Q [] fr Γ:=fun B K β w l hm hI hF=>WL.nil ⟨K,β,fr,Γ,hI,hF,h⟩
end
section
variable {next:List GV->List Ob->Prop} {Q:dW} {fr:List GV} {Γ:List Ob} {id zt:Nat}
theorem bh (h:next fr Γ):bg next Q .normal fr Γ:=h
theorem Hq (h:Q (.exit id) fr Γ):bg next Q (.exit id) fr Γ:=h
theorem lx (h:Q .ret fr Γ):bg next Q .ret fr Γ:=h
theorem iQ (h:Q .normal fr Γ):bj id Q .normal fr Γ:=h
theorem lu (h:Q .ret fr Γ):bj id Q .ret fr Γ:=h
theorem Kx (h:Q .normal fr Γ):bj id Q (.exit id) fr Γ:=by simpa [bj] using h
theorem Vo (hn:(zt==id)=false) (h:Q (.exit zt) fr Γ):bj id Q (.exit zt) fr Γ:=by
 simp only [bj];rw [ab zf7];exact h
end
def GC (P:Program) (f:FuncId) (gs:List GV) (Γ:List Ob) (R:GV->List Ob->Prop):Prop :=
 ∀ B K β w vs,B.m=Γ.length->Inv B K β Γ w->bs K β vs gs->oJ P f vs w fun v w'=>∃ K' bR g aV,Inv B K' bR aV w'/\Rel K' bR v g/\R g aV
abbrev GF (P:Program) (f:FuncId) (gs:List GV) (Γ:List Ob) (g:GV) (aV:List Ob):Prop:=GC P f gs Γ fun x Δ=>x=g/\Δ=aV
theorem GC.mono {P:Program} {f:FuncId} {gs:List GV} {Γ:List Ob} {R R':GV->List Ob->Prop} (h:GC P f gs Γ R) (hr:∀ g Γ,R g Γ->R' g Γ):GC P f gs Γ R':=fun B K β w vs hm hI hF =>
 (h B K β w vs hm hI hF).mono fun v w' ⟨K',bR,g,aV,D,X,h3⟩=>⟨K',bR,g,aV,D,X,hr _ _ h3⟩
def Hp:Nat->List GV
 | 0=>[]
 | n+1=>.v undef::Hp n
def zR:List GV->Nat->List GV
 | [],n=>Hp n
 | a::r,n=>a::zR r (n - 1)
theorem FR.Iv {K:Fz} {β:Bt} (n:Nat):FR K β (Hp n) (Iv n):=by
 induction n with
 | zero=>exact .nil
 | succ n ih=>exact .cons (.v _) ih
theorem FR.frame {K:Fz} {β:Bt} {vs:List Value} {gs:List GV} (h:bs K β vs gs) (n:Nat):FR K β (zR gs n) (frame vs n):=by
 induction gs generalizing vs n with
 | nil =>
  have:vs=[]:=gx h.1;subst this;exact FR.Iv n
 | cons g gs ih =>
  cases vs with
  | nil=>have:=h.1;simp at this
  | cons v vs=>obtain ⟨D,X⟩:=h.qd;exact .cons D (ih X _)
def vl (P:Program) (fn:Func) (m:Nat) (R:GV->List Ob->Prop):dW:=fun e fr Γ =>
 (e=.normal\/e=.ret)/\∀ B K β w l,B.m=m->Inv B K β Γ w->FR K β fr l->∃ v K' bR g aV,(results fn l.toArray).run P w=.ok v w/\Inv B K' bR aV w/\Rel K' bR v g/\R g aV
theorem GC.enter {P:Program} {f:FuncId} {fn:Func} {c:Code} {gs:List GV} {Γ:List Ob} {R:GV->List Ob->Prop} {n:Nat} {fr:List GV}
  (hf:P.funcs[f]?=some fn) (hn:fn.ntmps=n) (hb:fn.body=some c) (hl:zR gs n=fr) (h:GW P Γ.length c (vl P fn Γ.length R) fr Γ):GC P f gs Γ R:=fun B K β w vs hm hI hF=>by
 subst hl;refine oJ.enter hf hn hb rfl (W.mono (h B K β w _ hm hI (FR.frame hF n)) ?_);rintro e l w ⟨K,β,fr,Γ,hI,hF,he,hq⟩;obtain ⟨v,K',bR,g,aV,D,X,h3,h4⟩:=hq B K β w l hm hI hF
 rcases he with rfl | rfl
 ·exact ⟨v,D,K',bR,g,aV,X,h3,h4⟩
 ·exact ⟨v,D,K',bR,g,aV,X,h3,h4⟩
section
variable {P:Program} {fn:Func} {m:Nat} {R:GV->List Ob->Prop} {fr:List GV} {Γ:List Ob} {e:Exit}
theorem W5 {n:Nat} (hr:fn.results=#[]) (he:e=.normal\/e=.ret) (hm:m<=n) (hl:uI n (Γ.take n)=true) (h:R (.tup []) (Γ.take n)):vl P fn m R e fr Γ :=
 ⟨he,fun B K β w l hB hI hF=>⟨.tuple #[],K,eN (below n) β,.tup [],Γ.take n,by rw [results_none hr],hI.cut zfw hl,.tup [] [] rfl (fun i v g h=>by simp at h),h⟩⟩
theorem rl {n:Nat} {t:Tmp} {g:GV} (hr:fn.results=#[.tmp t]) (he:e=.normal\/e=.ret) (hg:cP fr t=g) (hm:m<=n) (hl:uI n (Γ.take n)=true) (lI:g.lt n=true) (h:R g (Γ.take n)):vl P fn m R e fr Γ :=
 ⟨he,fun B K β w l hB hI hF=>⟨nth l t,K,eN (below n) β,g,Γ.take n,by rw [results_tmp hr,jW],hI.cut zfw hl,by rw [<-hg] at lI |-;exact (hF.nth t).res lI,h⟩⟩
theorem W6 {n:Nat} {t u:Tmp} {g g':GV} (hr:fn.results=#[.tmp t,.tmp u]) (he:e=.normal\/e=.ret) (hg:cP fr t=g) (kU:cP fr u=g') (hm:m<=n) (hl:uI n (Γ.take n)=true) (lI:(GV.tup [g,g']).lt n=true) (h:R (.tup [g,g']) (Γ.take n)):vl P fn m R e fr Γ :=
 ⟨he,fun B K β w l hB hI hF=>⟨.tuple #[nth l t,nth l u],K,eN (below n) β,.tup [g,g'],Γ.take n,by rw [results_tmp2 hr,jW,jW],hI.cut zfw hl,by
  refine Rel.res ?_ lI;subst hg kU;have hc:bs K β [nth l t,nth l u] [cP fr t,cP fr u]:=.cons (hF.nth t) (.cons (hF.nth u) .nil)
  exact .tup [nth l t,nth l u] _ hc.1 hc.2,h⟩⟩
theorem W7 {n:Nat} {t u s:Tmp} {g g' g2:GV} (hr:fn.results=#[.tmp t,.tmp u,.tmp s]) (he:e=.normal\/e=.ret) (hg:cP fr t=g) (kU:cP fr u=g') (gR:cP fr s=g2) (hm:m<=n) (hl:uI n (Γ.take n)=true) (lI:(GV.tup [g,g',g2]).lt n=true)
  (h:R (.tup [g,g',g2]) (Γ.take n)):vl P fn m R e fr Γ :=
 ⟨he,fun B K β w l hB hI hF=>⟨.tuple #[nth l t,nth l u,nth l s],K,eN (below n) β,.tup [g,g',g2],Γ.take n,by
   rw [<-jW l t,<-jW l u,<-jW l s];simp [results,hr],hI.cut zfw hl,by
  refine Rel.res ?_ lI;subst hg kU gR;have hc:bs K β [nth l t,nth l u,nth l s] [cP fr t,cP fr u,cP fr s]:=.cons (hF.nth t) (.cons (hF.nth u) (.cons (hF.nth s) .nil))
  exact .tup [nth l t,nth l u,nth l s] _ hc.1 hc.2,h⟩⟩
theorem W8 {n:Nat} {t:Tmp} {T:TypeId} {k:Nat} [hT:Ty P T true k] {i:Nat} {E:TypeId} {cs:List GV} (hr:fn.results=#[.cell t T]) (he:e=.normal\/e=.ret) (hg:cP fr t=.loc i 0) (bD:Γ[i]?=some (.box E cs)) (hk:cs.length=k)
  (hm:m<=n) (hl:uI n (Γ.take n)=true) (lI:(GV.agg cs).lt n=true) (h:R (.agg cs) (Γ.take n)):vl P fn m R e fr Γ :=
 ⟨he,fun B K β w l hB hI hF=>by
  obtain ⟨b,vs,D,X,h3,h4⟩:=hI.ob i _ bD
  have hp:nth l t=.pointer (some ⟨b,0,none⟩):=by
   have:=hF.nth t;rw [hg] at this;generalize nth l t=v at this
   cases this with
   | loc _ _ b' bH=>rw [D] at bH;cases bH;rfl
  have jJ:l.toArray.getD t undef=.pointer (some ⟨b,0,none⟩):=by rw [jW,hp]
  have Dc:=nV (P:=P) (w:=w) (t:=T) (b:=b) (o:=0) (vs:=vs) (k:=k) zgd (fun j v hj=>by
   rw [ed,cell_of_row w b j _ E (0,0) X];simpa using hj)
  have yF:l[t]?.getD undef=.pointer (some ⟨b,0,none⟩):=by simpa using jJ
  exact ⟨.agg vs.toArray,K,eN (below n) β,.agg cs,Γ.take n,by simp [results,hr,yF,asAddr,Dc],hI.cut zfw hl,Rel.res (.agg vs cs h3.1 h3.2) lI,h⟩⟩
end
def YG (P:Program) (op:Op) (fr:List GV) (Γ:List Ob) (g:GV):Prop :=
 ∀ B K β w l,Inv B K β Γ w->FR K β fr l->∃ v,fg P l w op v/\Rel K β v g
section
variable {P:Program} {m:Nat} {Q:dW} {fr:List GV} {Γ:List Ob} {ops:Array Oper} {rest:List Oper} {d:Option Tmp} {op:Op} {ty:TypeId} {pos:String} {af:Array Edge}
theorem GL.q {g:GV} (hy:YG P op fr Γ g) (h:GL P m ops Q rest (bM fr d g) Γ):GL P m ops Q (⟨d,op,ty,pos,af,none⟩::rest) fr Γ:=fun B K β w l hm hI hF=>by
 obtain ⟨v,hr,hv⟩:=hy B K β w l hI hF;exact WL.v hr (h B K β w _ hm hI (hF.put d hv))
theorem tQ {cX:List GV} {aV:List Ob} (D:fr=cX) (X:Γ=aV) (h:GL P m ops Q rest cX aV):GL P m ops Q rest fr Γ:=by subst D;subst X;exact h
theorem GN {cX:List GV} (D:fr=cX) (h:GL P m ops Q rest cX Γ):GL P m ops Q rest fr Γ:=by subst D;exact h
theorem YG.v1 {x:Operand} {a v:Value} (hx:bf fr x=.v a) (h:∀ l w,ev l x=a->fg P l w op v):YG P op fr Γ (.v v):=fun B K β w l hI hF=>⟨v,h l w (hF.ko hx),.v v⟩
theorem YG.v2 {x y:Operand} {a b v:Value} (hx:bf fr x=.v a) (hy:bf fr y=.v b) (h:∀ l w,ev l x=a->ev l y=b->fg P l w op v):YG P op fr Γ (.v v):=fun B K β w l hI hF=>⟨v,h l w (hF.ko hx) (hF.ko hy),.v v⟩
theorem YG.mv {x:Operand}:YG P (.move x) fr Γ (bf fr x):=fun B K β w l hI hF=>⟨_,R.mv,hF.ev x⟩
theorem YG.mq {x:Operand}:YG P (.assign x) fr Γ (bf fr x):=fun B K β w l hI hF=>⟨_,R.mq,hF.ev x⟩
theorem YG.Ex {fn:Fn} {first cap:List Operand}:YG P (.makeFunc fn first.toArray cap.toArray) fr Γ (.fn fn (first.map (bf fr)) (cap.map (bf fr))):=fun B K β w l hI hF =>
 ⟨_,R.Ex,by
  have D:=hF.args first
  have X:=hF.args cap
  simpa using Rel.fn fn _ _ _ _ D.1 X.1 D.2 X.2⟩
def Ej:GV->Value
 | .v x=>x
 | _=>.nilFunc
def Xa (ρ:Operand->Value) (op:Op):Option Value :=
 match op with
 | .binOp _ _ _ _ _=>go ρ op
 | .unOp _ _ _=>go ρ op
 | _=>none
theorem Vt {K:Fz} {β:Bt} {x:Value} {g:GV} (h:Rel K β x g):Ej g=x\/Ej g=.nilFunc:=by
 cases h <;> first | exact .inl rfl | exact .inr rfl
theorem YG.go {v:Value} (h:Xa (fun x=>Ej (bf fr x)) op=some v):YG P op fr Γ (.v v):=fun B K β w l hI hF=>by
 refine ⟨v,Vq ?_,.v v⟩
 have key:∀ x,Ej (bf fr x)=ev l x\/Ej (bf fr x)=.nilFunc:=fun x=>Vt (hF.ev x)
 unfold Xa at h;split at h
 ·rename_i o t x y t';simp only [Xw.go] at h |-
  rcases key x with hx | hx <;> rcases key y with hy | hy <;> rw [hx,hy] at h
  ·exact h
  ·cases hv:ev l x <;> rw [hv] at h <;> cases h
  ·cases h
  ·cases h
 ·rename_i o t x;simp only [Xw.go,yz] at h |-
  rcases key x with hx | hx <;> rw [hx] at h
  ·exact h
  ·cases o <;> simp only at h <;> cases h
 ·cases h
theorem YG.UG {c a b:Operand} {t:Bool} (hc:bf fr c=.v (.bool t)) (ht:t=true):YG P (.pick c a b) fr Γ (bf fr a):=fun B K β w l hI hF=>⟨_,R.UG (hF.ko hc) ht,hF.ev a⟩
theorem YG.UF {c a b:Operand} {t:Bool} (hc:bf fr c=.v (.bool t)) (ht:t=false):YG P (.pick c a b) fr Γ (bf fr b):=fun B K β w l hI hF=>⟨_,R.UF (hF.ko hc) ht,hF.ev b⟩
theorem YG.abV {x:Operand} {i o:Nat} (hx:bf fr x=.loc i o):YG P (.nilCheck x) fr Γ (.loc i o):=fun B K β w l hI hF=>by
 have h:=hF.ev x;rw [hx] at h;generalize hv:ev l x=v at h
 cases h with | loc _ _ b hb=>exact ⟨_,R.M7 hv,.loc i o b hb⟩
theorem YG.M5 {x:Operand} {cs:List GV} {o:Nat} (hx:bf fr x=.box cs o):YG P (.nilCheck x) fr Γ (.box cs o):=fun B K β w l hI hF=>by
 have h:=hF.ev x;rw [hx] at h;generalize hv:ev l x=v at h
 cases h with | box b o' _ _ hb=>exact ⟨_,R.M7 hv,.box b o' o cs hb⟩
theorem YG.SD {x:Operand} {t:TypeId} [hT:rS P t] {s:ah} (hx:bf fr x=.v (sv s)):YG P (.call ⟨.builtin .len,#[x],#[t]⟩) fr Γ (.v (ii s.length)):=YG.v1 hx fun l w h=>R.SD h
theorem YG.ZR {x:Operand} {t e:TypeId} {k:Nat} [hT:oK P t e k] {k':Nat} {rows:List (List GV)} (hx:bf fr x=.sl k' rows):YG P (.call ⟨.builtin .len,#[x],#[t]⟩) fr Γ (.v (ii rows.length)):=fun B K β w l hI hF=>by
 have h:=hF.ev x;rw [hx] at h;generalize hv:ev l x=v at h
 cases h with
 | sl0 a c=>exact ⟨_,R.MY hv,.v _⟩
 | sl b o c _ _ h _=>exact ⟨_,R.MY hv,.v _⟩
theorem YG.abP {x:Operand} {t e:TypeId} {k:Nat} [hT:oK P t e k] {i n:Nat} (hx:bf fr x=.vec i n):YG P (.call ⟨.builtin .len,#[x],#[t]⟩) fr Γ (.v (ii n)):=fun B K β w l hI hF=>by
 have h:=hF.ev x;rw [hx] at h;generalize hv:ev l x=v at h
 cases h with | vec _ _ a c h=>exact ⟨_,R.MY hv,.v _⟩
theorem YG.abO {x:Operand} {t e:TypeId} {k:Nat} [hT:oK P t e k] {a:Option Addr} {n c:Nat} (hx:bf fr x=.v (.slice a n c)):YG P (.call ⟨.builtin .len,#[x],#[t]⟩) fr Γ (.v (ii n)):=YG.v1 hx fun l w h=>R.MY h
theorem YG.oM {x y:Operand} {t t':TypeId} {a b:ah} (hx:bf fr x=.v (sv a)) (hy:bf fr y=.v (sv b)):YG P (.binOp .eql t x y t') fr Γ (.v (.bool (a==b))):=YG.v2 hx hy fun l w h k=>R.oM h k
theorem YG.o7 {x y:Operand} {t t':TypeId} {a b:ah} (hx:bf fr x=.v (sv a)) (hy:bf fr y=.v (sv b)):YG P (.binOp .neq t x y t') fr Γ (.v (.bool (!(a==b)))):=YG.v2 hx hy fun l w h k=>R.o7 h k
theorem YG.jr {x y:Operand} {t:TypeId} [hT:rS P t] {s:ah} {k:IntKind} {i:Nat} {c:UInt8} (hx:bf fr x=.v (sv s)) (hy:bf fr y=.v (.int k i)) (hc:s[i]?=some c):YG P (.index t x y) fr Γ (.v (.int .u8 c.toNat)):=YG.v2 hx hy fun l w h k=>R.jr h k hc
theorem YG.add {x y:Operand} {t t':TypeId} {a b:Int} (hx:bf fr x=.v (ii a)) (hy:bf fr y=.v (ii b)) (hb : -9223372036854775808<=a+b/\a+b<=9223372036854775807):YG P (.binOp .add t x y t') fr Γ (.v (ii (a+b))):=YG.v2 hx hy fun l w h k=>R.add h k hb.1 hb.2
theorem YG.addN {x y:Operand} {t t':TypeId} {a b:Nat} (hx:bf fr x=.v (ii a)) (hy:bf fr y=.v (ii b)) (hb:a+b<=9223372036854775807):YG P (.binOp .add t x y t') fr Γ (.v (ii ((a+b:Nat):Int))):=YG.v2 hx hy fun l w h k=>R.addN h k hb
theorem YG.kB {x y:Operand} {t t':TypeId} {a:Nat} (hx:bf fr x=.v (ii a)) (hy:bf fr y=.v (ii 1)) (hb:a+1<=9223372036854775807):YG P (.binOp .add t x y t') fr Γ (.v (ii ((a+1:Nat):Int))):=YG.v2 hx hy fun l w h k=>R.kB h k hb
theorem YG.sub {x y:Operand} {t t':TypeId} {a b:Int} (hx:bf fr x=.v (ii a)) (hy:bf fr y=.v (ii b)) (hb : -9223372036854775808<=a - b/\a - b<=9223372036854775807):YG P (.binOp .sub t x y t') fr Γ (.v (ii (a - b))):=YG.v2 hx hy fun l w h k=>R.sub h k hb.1 hb.2
theorem YG.mul {x y:Operand} {t t':TypeId} {a b:Int} (hx:bf fr x=.v (ii a)) (hy:bf fr y=.v (ii b)) (hb : -9223372036854775808<=a * b/\a * b<=9223372036854775807):YG P (.binOp .mul t x y t') fr Γ (.v (ii (a * b))):=YG.v2 hx hy fun l w h k=>R.mul h k hb.1 hb.2
theorem YG.cat {x y:Operand} {t t':TypeId} {a b:ah} (hx:bf fr x=.v (sv a)) (hy:bf fr y=.v (sv b)) (hb:a.length+b.length<=9223372036854775807):YG P (.binOp .add t x y t') fr Γ (.v (sv (a++b))):=YG.v2 hx hy fun l w h k=>R.cat h k hb
theorem YG.mf {x:Operand} {t:TypeId} [hT:rS P t] {s:ah} {lo hi:Operand} {k k':IntKind} {i j:Nat} (hx:bf fr x=.v (sv s)) (jT:bf fr lo=.v (.int k i)) (xD:bf fr hi=.v (.int k' j)) (hb:i<=j/\j<=s.length):YG P (.slice t x (some lo) (some hi) none) fr Γ (.v (sv ((s.take j).drop i))) :=
 fun B K β w l hI hF=>⟨_,R.Ta (hF.ko hx) ⟨k,hF.ko jT⟩ ⟨k',hF.ko xD⟩ hb.1 hb.2,.v _⟩
theorem YG.me {x:Operand} {t:TypeId} [hT:rS P t] {s:ah} {lo:Operand} {k:IntKind} {i:Nat} (hx:bf fr x=.v (sv s)) (jT:bf fr lo=.v (.int k i)) (hb:i<=s.length):YG P (.slice t x (some lo) none none) fr Γ (.v (sv (s.drop i))) :=
 fun B K β w l hI hF=>⟨_,by
  have:=R.Ta (P:=P) (w:=w) (l:=l) (t:=t) (lo:=some lo) (hi:=none) (i:=i) (j:=s.length) (hF.ko hx) ⟨k,hF.ko jT⟩ rfl hb (aH _);rw [di] at this
  exact this,.v _⟩
theorem YG.mc {x:Operand} {t:TypeId} [hT:rS P t] {s:ah} {hi:Operand} {k:IntKind} {j:Nat} (hx:bf fr x=.v (sv s)) (xD:bf fr hi=.v (.int k j)) (hb:j<=s.length):YG P (.slice t x none (some hi) none) fr Γ (.v (sv (s.take j))) :=
 fun B K β w l hI hF=>⟨_,R.Ta (P:=P) (w:=w) (l:=l) (t:=t) (lo:=none) (hi:=some hi) (i:=0) (j:=j) (hF.ko hx) rfl ⟨k,hF.ko xD⟩ (aX _) hb,.v _⟩
theorem YG.ext {x:Operand} {i:Nat} {cs:List GV} {g:GV} (hx:bf fr x=.tup cs) (hg:cs[i]?=some g):YG P (.extract x i) fr Γ g:=fun B K β w l hI hF=>by
 have h:=hF.ev x;rw [hx] at h;generalize hv:ev l x=v at h
 cases h with
 | tup vs _ hl h =>
  have hi:i < vs.length:=by rw [hl];exact (bu hg).1
  exact ⟨vs[i],R.extract hv zge,h i _ g zge hg⟩
theorem YG.gZ {x y:Operand} {t e:TypeId} {k:Nat} [hT:oK P t e k] {rows:List (List GV)} {kk:IntKind} {i:Nat} {r:List GV} (hx:bf fr x=.sl k rows) (hy:bf fr y=.v (.int kk i)) (hr:rows[i]?=some r):YG P (.indexAddr t x y) fr Γ (.box r 0):=fun B K β w l hI hF=>by
 have h:=hF.ev x;rw [hx] at h;have hi:=(bu hr).1;generalize hv:ev l x=v at h
 cases h with
 | sl0 a c=>simp at hi
 | sl b o c _ _ h _=>exact ⟨_,R.kJ hv (hF.ko hy) hi,.box b (o+i * k) 0 r (h i r hr).2⟩
theorem YG.W0 {x:Operand} {s:TypeId} {f off k:Nat} {agg:Bool} [hT:fF P s f off k agg] {i o:Nat} (hx:bf fr x=.loc i o):YG P (.fieldAddr s x f) fr Γ (.loc i (o+off)):=fun B K β w l hI hF=>by
 have h:=hF.ev x;rw [hx] at h;generalize hv:ev l x=v at h
 cases h with | loc _ _ b hb=>exact ⟨_,R.RH hv,.loc i _ b hb⟩
theorem YG.WY {x:Operand} {s:TypeId} {f off k:Nat} {agg:Bool} [hT:fF P s f off k agg] {cs:List GV} {o:Nat} (hx:bf fr x=.box cs o):YG P (.fieldAddr s x f) fr Γ (.box cs (o+off)):=fun B K β w l hI hF=>by
 have h:=hF.ev x;rw [hx] at h;generalize hv:ev l x=v at h
 cases h with | box b o' _ _ hb=>exact ⟨_,R.RH hv,by rw [iy];exact .box b o' _ cs hb⟩
theorem YG.ldL {x:Operand} {t:TypeId} [hT:Ty P t false 1] {i o:Nat} {E:TypeId} {cs:List GV} {g:GV} (hx:bf fr x=.loc i o) (bD:Γ[i]?=some (.box E cs)) (hg:cs[o]?=some g):YG P (.load t x) fr Γ g:=fun B K β w l hI hF=>by
 have h:=hF.ev x;rw [hx] at h;generalize hv:ev l x=v at h
 cases h with
 | loc _ _ b hb =>
  obtain ⟨b',vs,D,X,h3,h4⟩:=hI.ob i _ bD;rw [hb] at D;cases D;obtain ⟨u,hu,hr⟩:=h3.at hg;exact ⟨u,R.ld hv (yn X (by simpa using hu)),hr⟩
theorem YG.Yf {x:Operand} {t:TypeId} [hT:Ty P t false 1] {cs:List GV} {o:Nat} {g:GV} (hx:bf fr x=.box cs o) (hg:cs[o]?=some g):YG P (.load t x) fr Γ g:=fun B K β w l hI hF=>by
 have h:=hF.ev x;rw [hx] at h;generalize hv:ev l x=v at h
 cases h with
 | box b o' _ _ hb =>
  obtain ⟨hp,u,hu,hr⟩:=hI.fz _ _ _ (hb o g hg);exact ⟨u,R.ld hv hu,hr.pc hp⟩
theorem vP {k:Nat} {rows:List (List GV)} (hk:jx k rows) {i j:Nat} {r:List GV} {g:GV} (hr:rows[i]?=some r) (hg:r[j]?=some g):rows.flatten[i * k+j]?=some g:=by
 induction rows generalizing i with
 | nil=>simp at hr
 | cons a rows ih =>
  have ha:a.length=k:=(hk a (mem_cons_self)).1
  cases i with
  | zero =>
   cases hr;have hj:=(bu hg).1;rw [Nat.zero_mul,ed,flatten_cons,ff hj];exact hg
  | succ i =>
   rw [flatten_cons,fA (by rw [ha,Nat.succ_mul];omega),ha];rw [show (i+1) * k+j - k=i * k+j by rw [Nat.succ_mul];omega];exact ih (fun r hr=>hk r (dm _ hr)) (by simpa using hr)
theorem YG.Sw {x:Operand} {t:TypeId} {k:Nat} [hT:Ty P t true k] {i o:Nat} {E:TypeId} {cs gs:List GV} (hx:bf fr x=.loc i o) (bD:Γ[i]?=some (.box E cs)) (hg:(cs.drop o).take k=gs) (hk:gs.length=k):YG P (.load t x) fr Γ (.agg gs):=fun B K β w l hI hF=>by
 have h:=hF.ev x;rw [hx] at h;generalize hv:ev l x=v at h
 cases h with
 | loc _ _ b hb =>
  obtain ⟨b',vs,D,X,h3,h4⟩:=hI.ob i _ bD;rw [hb] at D;cases D;have h5:=(h3.drop o).take k;rw [hg] at h5;refine ⟨.agg ((vs.drop o).take k).toArray,R.ldS hv (by rw [h5.1,hk]) (fun j v hj=>?_),.agg _ _ h5.1 h5.2⟩;rw [getElem?_take] at hj;split at hj
  ·rw [getElem?_drop] at hj;exact yn X zfI
  ·cases hj
theorem yt {K:Fz} {β:Bt} {H:Array Obj} {b:Nat}:∀ (gs:List GV) (o:Nat),(∀ (j:Nat) g,gs[j]?=some g->∃ v,ja H b (o+j)=some v/\Rel K β v g)->∃ vs:List Value,bs K β vs gs/\∀ (j:Nat) v,vs[j]?=some v->ja H b (o+j)=some v
 | [],o,_=>⟨[],.nil,fun j v h=>by simp at h⟩
 | g::gs,o,h=>by
  obtain ⟨v,hv,hr⟩:=h 0 g rfl;obtain ⟨vs,D,X⟩:=yt gs (o+1) (fun j g' hg=>by rw [show o+1+j=o+(j+1) by omega];exact h (j+1) g' hg);refine ⟨v::vs,.cons hr D,fun j u hj=>?_⟩
  cases j with
  | zero=>cases hj;exact hv
  | succ j=>rw [show o+(j+1)=o+1+j by omega];exact X j u hj
theorem YG.Yg {x:Operand} {t:TypeId} {k:Nat} [hT:Ty P t true k] {cs gs:List GV} {o:Nat} (hx:bf fr x=.box cs o) (hg:(cs.drop o).take k=gs) (hk:gs.length=k):YG P (.load t x) fr Γ (.agg gs):=fun B K β w l hI hF=>by
 have h:=hF.ev x;rw [hx] at h;generalize hv:ev l x=v at h
 cases h with
 | box b o' _ _ hb =>
  obtain ⟨vs,D,X⟩:=yt (K:=K) (β:=β) (H:=w.heap) (b:=b) gs (o'+o) (fun j g hj=>by
   have nw:cs[o+j]?=some g:=by
    rw [<-hg,getElem?_take] at hj;split at hj
    ·rw [getElem?_drop] at hj;exact hj
    ·cases hj
   obtain ⟨hp,u,hu,hr⟩:=hI.fz _ _ _ (hb (o+j) g nw)
   exact ⟨u,by rw [iy];exact hu,hr.pc hp⟩)
  exact ⟨.agg vs.toArray,R.ldS hv (by rw [D.1,hk]) X,.agg _ _ D.1 D.2⟩
def nM:GV->Option (List GV)
 | .v x=>match Nf x with
  | true=>some [.v x]
  | false=>none
 | .agg cs=>some cs
 | .U=>none
 | .tup _=>none
 | .vp _ _ _ _ _=>none
 | .sl k rows=>some [.sl k rows]
 | .box cs o=>some [.box cs o]
 | .loc i o=>some [.loc i o]
 | .vec i n=>some [.vec i n]
 | .arr i o n=>some [.arr i o n]
 | .fn f a c=>some [.fn f a c]
def ra:List GV->Nat->List GV->List GV
 | cs,_,[]=>cs
 | cs,o,v::r=>ra (bQ cs o v) (o+1) r
def AZ (pl:Nat->Option (Nat × Nat)):List GV->List (Nat × GV)->Option (List GV)
 | cs,[]=>some cs
 | cs,(i,g)::r=>match pl i with
  | none=>none
  | some (o,k)=>match nM g with
   | none=>none
   | some gs=>if gs.length≠k || decide (o+gs.length > cs.length) then none else AZ pl (ra cs o gs) r
theorem Rel.cells {K:Fz} {β:Bt} {x:Value} {g:GV} {gs:List GV} (h:Rel K β x g) (hg:nM g=some gs):∃ vs:List Value,x.cells=vs.toArray/\bs K β vs gs:=by
 have one:∀ {x:Value} {g:GV},Rel K β x g->x.cells=#[x]->∃ vs:List Value,x.cells=vs.toArray/\bs K β vs [g]:=fun hr hc=>⟨[_],hc,.cons hr .nil⟩
 cases h with
 | v x =>
  simp only [nM] at hg;split at hg
  ·rename_i ho;cases hg;exact one (.v _) (yW ho).1
  ·cases hg
 | U x=>cases hg
 | agg vs cs hl h=>cases hg;exact ⟨vs,rfl,hl,h⟩
 | tup vs cs hl h=>cases hg
 | sl0 a c k=>cases hg;exact one (.sl0 a c k) rfl
 | sl b o c k rows h hc=>cases hg;exact one (.sl b o c k rows h hc) rfl
 | box b o' o cs h=>cases hg;exact one (.box b o' o cs h) rfl
 | loc i o b h=>cases hg;exact one (.loc i o b h) rfl
 | vec i n a c h=>cases hg;exact one (.vec i n a c h) rfl
 | vp i n k idx off x h=>cases hg
 | arr i o n b c h=>cases hg;exact one (.arr i o n b c h) rfl
 | fn f xs ys first cap hl kG h h'=>cases hg;exact one (.fn f xs ys first cap hl kG h h') rfl
def oA:List GV->Bool
 | []=>true
 | g::gs=>g.one&&oA gs
def rN:List GV->Bool
 | []=>true
 | g::gs=>g.pc&&rN gs
theorem nS {gs:List GV} (h:rN gs=true):∀ g∈gs,g.pc=true:=by
 induction gs with
 | nil=>intro g hg;cases hg
 | cons x gs ih =>
  simp only [rN,aI] at h;intro g hg
  rcases eF hg with rfl | hg
  ·exact h.1
  ·exact ih h.2 g hg
theorem bs.oz {K:Fz} {β:Bt} {vs:List Value} {gs:List GV} (h:bs K β vs gs) (ho:oA gs=true):oz vs=true:=by
 induction gs generalizing vs with
 | nil=>have:vs=[]:=gx h.1;subst this;rfl
 | cons g gs ih =>
  cases vs with
  | nil=>have:=h.1;simp at this
  | cons v vs =>
   simp only [oA,aI] at ho;obtain ⟨D,X⟩:=h.qd;have h3:=(yW (D.one ho.1)).2;have h4:=ih X ho.2;simp only [Xw.oz,all_cons,aI] at h4 |-;exact ⟨h3,h4⟩
end
theorem bs.nW {K:Fz} {β:Bt} {us:List Value} {hs:List GV} (k:bs K β us hs):∀ {vs:List Value} {gs:List GV} (o:Nat),bs K β vs gs->bs K β (nW vs o us) (ra gs o hs):=by
 have hu:∀ {vs:List Value} {gs:List GV} (o:Nat) {v:Value} {g:GV},Rel K β v g->bs K β vs gs->bs K β (fT vs o v) (bQ gs o g):=by
  intro vs
  induction vs with
  | nil =>
   intro gs o v g hv h;have:gs=[]:=gx h.1.symm;subst this;exact .nil
  | cons x vs ih =>
   intro gs o v g hv h
   cases gs with
   | nil=>have:=h.1;simp at this
   | cons y gs =>
    obtain ⟨D,X⟩:=h.qd
    cases o with
    | zero=>exact .cons hv X
    | succ o=>exact .cons D (ih o hv X)
 induction us generalizing hs with
 | nil =>
  intro vs gs o h;have:hs=[]:=gx k.1.symm;subst this;exact h
 | cons u us ih =>
  intro vs gs o h
  cases hs with
  | nil=>have:=k.1;simp at this
  | cons g hs =>
   obtain ⟨D,X⟩:=k.qd;exact ih X (o+1) (hu o D h)
theorem yx {K:Fz} {β:Bt} {pl:Nat->Option (Nat × Nat)} {l:List Value} {fr:List GV} (hF:FR K β fr l):∀ (parts:List (Nat × Operand)) (vs:List Value) (gs cs:List GV),bs K β vs gs ->
  AZ pl gs (parts.map fun x=>(x.1,bf fr x.2))=some cs->∃ us,rZ pl vs (parts.map fun x=>(x.1,ev l x.2))=some us/\bs K β us cs
 | [],vs,gs,cs,h,hf=>by cases hf;exact ⟨vs,rfl,h⟩
 | (i,x)::r,vs,gs,cs,h,hf=>by
  simp only [List.map_cons,AZ] at hf;simp only [List.map_cons,rZ]
  cases hp:pl i with
  | none=>rw [hp] at hf;cases hf
  | some y =>
   obtain ⟨o,k⟩:=y;rw [hp] at hf;simp only at hf |-
   cases hg:nM (bf fr x) with
   | none=>rw [hg] at hf;cases hf
   | some hs =>
    rw [hg] at hf;simp only at hf;obtain ⟨us,oe,oU⟩:=(hF.ev x).cells hg
    have dR:(ev l x).cells.size=hs.length:=by rw [oe];simpa using oU.1
    rw [dR,h.1];split at hf
    ·cases hf
    ·rename_i hc;rw [ab hc]
     have mw:(ev l x).cells.toList=us:=by rw [oe]
     rw [mw];exact yx hF r _ _ cs (oU.nW o h) hf
section
variable {P:Program} {m:Nat} {Q:dW} {fr:List GV} {Γ:List Ob} {ops:Array Oper} {rest:List Oper} {d:Option Tmp} {op:Op} {ty:TypeId} {pos:String} {af:Array Edge}
def qA (z:List Value):List GV:=z.map .v
theorem YG.build {t:TypeId} {pl:List (Nat × Nat)} {z:List Value} [hT:va P t pl z] {parts:List (Nat × Operand)} {cs:List GV} (hf:AZ (fun i=>pl[i]?) (qA z) (parts.map fun x=>(x.1,bf fr x.2))=some cs) :
  YG P (.build t parts.toArray) fr Γ (.agg cs):=fun B K β w l hI hF=>by
 obtain ⟨us,D,X⟩:=yx hF parts z _ cs bs.self hf;exact ⟨_,R.build D,.agg us cs X.1 X.2⟩
theorem oW {K:Fz} {β:Bt} {l:List Value} {t:Nat} (h:FR K β fr l) (ht:ku fr t=true):ku l t=true:=by
 induction h generalizing t with
 | nil=>cases ht
 | cons _ _ ih=>cases t with | zero=>rfl | succ t=>exact ih ht
theorem uZ {l:List Value} {t:Nat} (h:ku l t=true) (u:Value):nth (fT l t u) t=u:=by
 induction l generalizing t with
 | nil=>cases h
 | cons x l ih=>cases t with | zero=>rfl | succ t=>exact ih h
theorem qk {l:List Value} {t t':Nat} (h:t'≠t) (u:Value):nth (fT l t u) t'=nth l t':=by
 induction l generalizing t t' with
 | nil=>rfl
 | cons x l ih=>cases t with
  | zero=>cases t' with | zero=>exact absurd rfl h | succ t'=>rfl
  | succ t=>exact zei
theorem GL.alloc {t:TypeId} {z:Value} {cs:List GV} [hT:qL P t z] (hz:qA z.cells.toList=cs) (h:GL P m ops Q rest (bM fr d (.loc Γ.length 0)) (Γ++[.box t cs])):GL P m ops Q (⟨d,.alloc t,ty,pos,af,none⟩::rest) fr Γ:=fun B K β w l hm hI hF=>by
 refine WL.alloc (z:=z) fun b w' hn=>?_
 have bA:=hI.add (vs:=z.cells.toList) (cs:=cs) (E:=t) zf7 (by rw [<-hz];exact bs.self);exact zcx
theorem GL.box {t:TypeId} {x:Operand} {cs:List GV} (hx:nM (bf fr x)=some cs) (h:GL P m ops Q rest (bM fr d (.loc Γ.length 0)) (Γ++[.box t cs])):GL P m ops Q (⟨d,.box t x,ty,pos,af,none⟩::rest) fr Γ:=fun B K β w l hm hI hF=>by
 obtain ⟨vs,D,X⟩:=(hF.ev x).cells hx
 refine WL.box rfl fun b w' hn=>?_
 rw [D] at hn;have bA:=hI.add hn X;exact zcx
def oset:List Ob->Nat->Ob->List Ob
 | [],_,_=>[]
 | _::l,0,x=>x::l
 | y::l,n+1,x=>y::oset l n x
theorem bK (l:List Ob) (i:Nat) (x:Ob):oset l i x=l.set i x:=by
 induction l generalizing i with
 | nil=>rfl
 | cons y l ih=>cases i with | zero=>rfl | succ i=>simp [oset,ih]
theorem AA:∀ (us:List Value) (vs:List Value) (o:Nat),xd vs.toArray o us=(nW vs o us).toArray
 | [],vs,o=>rfl
 | u::us,vs,o=>by rw [xd,nW,DO];exact AA us _ _
theorem GL.st {x y:Operand} {t:TypeId} {agg:Bool} {k:Nat} [hT:Ty P t agg k] {i o:Nat} {E:TypeId} {cs gs:List GV} (hx:bf fr x=.loc i o) (bD:Γ[i]?=some (.box E cs)) (hy:nM (bf fr y)=some gs) (hk:gs.length=k) (D:oA gs=true)
  (hl:Nat.ble (o+k) cs.length=true) (h:GL P m ops Q rest (bM fr d (.v undef)) (oset Γ i (.box E (ra cs o gs)))):GL P m ops Q (⟨d,.store t x y,ty,pos,af,none⟩::rest) fr Γ:=fun B K β w l hm hI hF=>by
 have hr:=hF.ev x;rw [hx] at hr;generalize hv:ev l x=v at hr
 cases hr with
 | loc _ _ b hb =>
  obtain ⟨b',vs,X,h3,h4,h5⟩:=hI.ob i _ bD;rw [hb] at X;cases X;obtain ⟨us,oe,oU⟩:=(hF.ev y).cells hy
  have kG:o+k<=cs.length:=by simpa using hl
  refine WL.st (t:=t) hv rfl h3 (by rw [oe];simpa [hk] using oU.1) (by rw [size_toArray,h4.1];exact kG) (by rw [oe];simpa using oU.oz D) fun w' hs=>?_
  rw [oe,List.toList_toArray,AA] at hs;have bA:=hI.store bD hb hs (oU.nW o h4);rw [<-bK] at bA;exact h B K β w' _ hm bA (hF.put d (.v _))
def chunk:Nat->Nat->List GV->List (List GV)
 | 0,_,_=>[]
 | n+1,k,gs=>gs.take k::chunk n k (gs.drop k)
theorem yu {k:Nat}:∀ (n:Nat) (gs:List GV),gs.length=n * k->(chunk n k gs).flatten=gs/\(chunk n k gs).length=n/\∀ r∈chunk n k gs,r.length=k/\∀ g∈r,g∈gs
 | 0,gs,h=>by
  have:gs=[]:=gx zfx;subst this;exact ⟨rfl,rfl,fun r hr=>by cases hr⟩
 | n+1,gs,h=>by
  have hk:k<=gs.length:=by rw [h,Nat.succ_mul];omega
  obtain ⟨D,X,h3⟩:=yu (k:=k) n (gs.drop k) (by rw [kA,h,Nat.succ_mul];omega);refine ⟨by rw [chunk,flatten_cons,D,List.take_append_drop],by rw [chunk,length_cons,X],fun r hr=>?_⟩;rw [chunk] at hr
  rcases eF hr with rfl | hr
  ·exact ⟨by simp [hk],fun g hg=>List.mem_of_mem_take hg⟩
  ·obtain ⟨h4,h5⟩:=h3 r hr;exact ⟨h4,fun g hg=>List.mem_of_mem_drop (h5 g hg)⟩
def zs:Nat->List Value->List GV
 | 0,_=>[]
 | n+1,z=>qA z++zs n z
theorem Q9 {K:Fz} {β:Bt} {n k:Nat} {z:List Value} (hz:z.length=k) (hk:0 < k):bs K β ((List.range (n * k)).map fun j=>z.getD (j % k) undef) (zs n z):=by
 induction n with
 | zero=>simpa [zs] using bs.nil
 | succ n ih =>
  have he:(List.range ((n+1) * k)).map (fun j=>z.getD (j % k) undef)=(List.range k).map (fun j=>z.getD (j % k) undef)++(List.range (n * k)).map fun j=>z.getD (j % k) undef:=by
   rw [Nat.succ_mul,Nat.add_comm,List.range_add,mo,List.map_map]
   congr 1
   apply List.map_congr_left;intro j _;simp
  rw [he,zs];refine bs.app ?_ ih
  have:(List.range k).map (fun j=>z.getD (j % k) undef)=z:=by
   apply List.ext_getElem
   ·simp [hz]
   ·intro j D X;simp at D;simp [Nat.mod_eq_of_lt D,ct X]
  rw [this];exact bs.self
theorem GL.Yp {t e:TypeId} {k:Nat} {z:List Value} [hT:rR P t e k z] {n:Nat} {parts:List (Nat × Operand)} {cs:List GV} (hn:Nat.ble (n * k) 16777216=true) (hf:AZ (fun i=>some (i * k,k)) (zs n z) (parts.map fun x=>(x.1,bf fr x.2))=some cs)
  (hl:Nat.beq cs.length (n * k)=true) (hp:rN cs=true) (h:GL P m ops Q rest (bM fr d (.sl k (chunk n k cs))) Γ):GL P m ops Q (⟨d,.buildSlice t n parts.toArray,ty,pos,af,none⟩::rest) fr Γ:=fun B K β w l hm hI hF=>by
 obtain ⟨us,D,X⟩:=yx hF parts _ _ cs (Q9 (n:=n) hT.zl hT.pos) hf
 have kG:cs.length=n * k:=by simpa using hl
 refine WL.Ey zf7 D fun b w' uE=>?_
 obtain ⟨hle,bA⟩:=hI.wo uE X (nS hp);obtain ⟨c1,c2,c3⟩:=yu n cs kG;refine h B _ β w' _ hm bA ((hF.mono hle (dI.refl β)).put d ?_)
 have nA:jx k (chunk n k cs):=fun r hr=>⟨(c3 r hr).1,fun g hg=>nS hp g ((c3 r hr).2 g hg)⟩
 have:=Rel.sl (K:=mZ K b cs) (β:=β) b 0 n k (chunk n k cs) (fun i r hr=>⟨(nA r (br hr)).1,fun j g hg=>by
  rw [ed];exact xk (by have:=vP nA hr hg;rw [c1] at this;exact this)⟩) (by rw [c2];exact aH _)
 rw [c2] at this;exact this
theorem GL.Uy {t e:TypeId} {k:Nat} {z:List Value} [hT:rR P t e k z] {n:Nat} {parts:List (Nat × Operand)} {cs:List GV} (hn:Nat.ble (n * k) 16777216=true) (hf:AZ (fun i=>some (i * k,k)) (zs n z) (parts.map fun x=>(x.1,bf fr x.2))=some cs)
  (hl:Nat.beq cs.length (n * k)=true) (hp:rN cs=true) (h:GL P m ops Q rest (bM fr d (.vec Γ.length n)) (Γ++[.vec e k 0 (chunk n k cs)])):GL P m ops Q (⟨d,.buildSlice t n parts.toArray,ty,pos,af,none⟩::rest) fr Γ:=fun B K β w l hm hI hF=>by
 obtain ⟨us,D,X⟩:=yx hF parts _ _ cs (Q9 (n:=n) hT.zl hT.pos) hf
 have kG:cs.length=n * k:=by simpa using hl
 have xG:n * k<=16777216:=by simpa using hn
 have bZ:n<=16777216:=jg (Nat.le_mul_of_pos_right n hT.pos) xG
 refine WL.Ey xG D fun b w' uE=>?_
 obtain ⟨c1,c2,c3⟩:=yu n cs kG
 have nA:jx k (chunk n k cs):=fun r hr=>⟨(c3 r hr).1,fun g hg=>nS hp g ((c3 r hr).2 g hg)⟩
 have how:=iL.Yu uE (n:=n) (k:=k) (by rw [X.1,kG]) (by simp only [maxLen];omega);have bA:=hI.L8 (x:=.slice (some ⟨b,0,none⟩) n n) (xs:=us) (rows:=chunk n k cs) uE.ext (by rw [c2];exact how.base (aX _)) (fun b' bH=>by cases bH;rw [uE.fresh];exact aH _) (by rw [c1];exact X) nA;refine h B K _ w' _ hm bA ((hF.mono (cW.refl K) (jy (by rw [hI.out _ (aH _)];trivial))).put d ?_);exact .vec _ n _ n ⟨_,_,bC,by rw [c2];exact aH _,fun _=>rfl⟩
def S1 (x:Operand) (t:Tmp):Bool :=
 match x with
 | .tmp t'=>!Nat.beq t' t
 | _=>true
theorem WS {l:List Value} {x:Operand} {t:Tmp} (h:S1 x t=true) (u:Value):ev (put l (some t) u) x=ev l x:=by
 cases x with
 | tmp t'=>exact qk (fun e=>by subst e;simp [S1] at h) u
 | _=>rfl
theorem GL.push {x s:Operand} {t e k kD:Nat} {z:List Value} [hT:qH P t e k kD] [hZ:rR P t e k z] {d1:Tmp} {QL:TypeId} {Ir:String} {NW:Array Edge} {i n fz:Nat} {rows:List (List GV)} {gs:List GV}
  (hx:nM (bf fr x)=some gs) (hk:Nat.beq gs.length k=true) (D:oA gs=true) (hp:rN gs=true) (hs:bf fr s=.vec i n) (XZ:S1 s d1=true) (hd:ku fr d1=true) (bD:Γ[i]?=some (.vec e k fz rows)) (hn:rows.length=n)
  (hb:(n+1<=9223372036854775807/\(n+1) * kD<=140737488355328)/\k<=16777216)
  (h:GL P m ops Q rest (bM (bM fr (some d1) U) d (.vec i (n+1))) (oset Γ i (.vec e k fz (rows++[gs])))) :
  GL P m ops Q (⟨some d1,.buildSlice t 1 #[(0,x)],QL,Ir,NW,none⟩::⟨d,.call ⟨.builtin .append,#[s,.tmp d1],#[t,t]⟩,ty,pos,af,none⟩::rest) fr Γ:=fun B K β w l hm hI hF=>by
 subst hn;obtain ⟨us,oe,oU⟩:=(hF.ev x).cells hx;obtain ⟨h0,xs,o1,o2,o3,o4,o5,o6⟩:=hI.ob i _ bD;have vB:=hF.ev s;rw [hs] at vB
 have sK:ev l s=h0:=by
  generalize hv:ev l s=v at vB
  cases vB with
  | vec _ _ a c hh =>
   obtain ⟨h',m',e1,e2,e3⟩:=hh;rw [o1] at e1;cases e1;exact e3 rfl
 have C7:=oW hF hd
 have fk:gs.length=k:=by simpa using hk
 refine WL.push (base:=0) (v:=h0) (vs:=us) (val:=ev l x) (xs:=xs) (n:=rows.length) rfl (fun u=>by rw [WS XZ];exact sK) (fun u=>uZ C7 u) oe (by rw [oU.1,fk]) (oU.oz D) o2 hb.1.1 hb.1.2 hb.2 (aX _) ?_;intro u v' w' how j0 mM uF
 obtain ⟨K',hK,mR,bA⟩:=hI.grow bD o1 ⟨o2,o3⟩ (news:=[gs]) (ns:=us) how j0 mM (by simpa using oU) (fun r hr=>by simp at hr;subst hr;exact ⟨fk,nS hp⟩) zfu (fun b bH o v ho hv=>by
  rcases uF with h7 | h7
  ·exact h7.c hv (fun h=>h)
  ·have jT:o < xs.length:=by rw [o2.1];exact ze ho (sA k o6)
   obtain ⟨b2,c2,nO,_,_,ly⟩:=o2.cells.2 (by intro h0;rw [h0] at jT;simp at jT)
   have ej:b2=b:=by rw [nO] at bH;cases bH;rfl
   subst ej;have FN:=ly o xs[o] (by simp [jT]);rw [gk,hv] at FN;cases FN;obtain ⟨b3,c3,Pf,_,_,Pd⟩:=how.cells.2 (by intro h0;have:xs=[]:=(List.append_eq_nil_iff.1 h0).1;rw [this] at jT;simp at jT)
   have vm:b3=b2:=by rw [Pf,bH] at h7;cases h7;rfl
   subst vm
   rw [<-gk];exact Pd o _ zgp)
 rw [<-bK] at bA;refine h B K' _ w' _ hm bA (((hF.mono hK mR).put (some d1) (.U u)).put d ?_);obtain ⟨a,c,rfl⟩:=how.shape;exact .vec i _ a c ⟨_,_,bC,by simp,fun _=>rfl⟩
theorem Wk.EA {t:Nat} {a:Option Addr} {c:Nat} (E k:Nat) (ht:cP fr t=.v (.slice none 0 0)):Wk m fr Γ (bQ fr t (.vec Γ.length 0)) (Γ++[.vec E k 0 []]):=fun B K β w l hm hI hF=>by
 have cl:β Γ.length=.no:=hI.out _ (aH _);have bA:=hI.L8 (w':=w) (E:=E) (k:=k) (x:=.slice none 0 0) (xs:=[]) (rows:=[]) (Ext.refl w) (iL.nil w 0 E k) (fun b hb=>by cases hb) bs.nil (fun r hr=>by cases hr);refine ⟨K,_,bA,?_⟩;have xz:=hF.mono (cW.refl K) (jy (i:=Γ.length) (x:=.gr (.slice none 0 0) ([]:List (List GV)).length) zfX);have hv:nth l t=.slice none 0 0:=Rel.eE (by rw [<-ht];exact hF.nth t)
 have hu:∀ (l:List Value) (t:Nat) (v:Value),nth l t=v->(∃ a n c,v=.slice a n c)->fT l t v=l:=by
  intro l
  induction l with
  | nil=>intro t v _ _;rfl
  | cons x l ih =>
   intro t v D X
   cases t with
   | zero=>simp only [nth] at D;subst D;rfl
   | succ t=>simp only [nth] at D;simp only [fT];rw [ih t v D X]
 have:=xz.fT t (v:=.slice none 0 0) (g:=.vec Γ.length 0) (.vec _ 0 none 0 ⟨_,_,bC,aH _,fun _=>rfl⟩);rw [hu l t _ hv ⟨_,_,_,rfl⟩] at this;exact this
theorem CF {l:List Value} {t:Nat} (h:ku l t=true):fT l t (nth l t)=l:=by
 induction l generalizing t with
 | nil=>cases h
 | cons x l ih=>cases t with | zero=>rfl | succ t=>simp only [fT,nth];rw [ih h]
theorem Wk.lr {t i n E k fz:Nat} {rows:List (List GV)} (ht:cP fr t=.vec i n) (mu:ku fr t=true) (bD:Γ[i]?=some (.vec E k fz rows)) (hn:rows.length=n):Wk m fr Γ (bQ fr t (.sl k rows)) (oset Γ i (.vec E k n rows)):=fun B K β w l hm hI hF=>by
 subst hn;obtain ⟨h0,xs,o1,o2,o3,o4,o5,o6⟩:=hI.ob i _ bD;obtain ⟨K',hK,FF,bA⟩:=hI.lr bD;rw [<-bK] at bA;refine ⟨K',β,bA,?_⟩;have hr:=hF.nth t;rw [ht] at hr
 have jq:Rel K' β (nth l t) (.sl k rows):=by
  generalize nth l t=v at hr
  cases hr with
  | vec _ _ a c hh =>
   obtain ⟨h',m',e1,e2,e3⟩:=hh;rw [o1] at e1;cases e1;have e4:=e3 rfl
   rcases o2.2 with ⟨e5,e6⟩ | ⟨g,cap,cu,e5,_,_,sG,_⟩
   ·have:rows=[]:=gx e6;subst this;exact .sl0 _ _ _
   ·rw [e5] at e4;cases e4;exact zbW
 have:=(hF.mono hK (dI.refl β)).fT t jq;rw [CF (oW hF mu)] at this;exact this
def pP (i:Nat) (cs:List GV):GV->GV
 | .loc j o=>match Nat.beq j i with
  | true=>.box cs o
  | false=>.loc j o
 | g=>match g.ok (other i) with
  | true=>g
  | false=>.U
theorem Rel.frz {K K':Fz} {β:Bt} {i b:Nat} {cs:List GV} {x:Value} {g:GV} (h:Rel K β x g) (hk:cW K K') (hb:β i=.fix b) (hc:∀ (j:Nat) g,cs[j]?=some g->K' b j=some g):Rel K' (eN (other i) β) x (pP i cs g):=by
 have gen:∀ {g:GV},Rel K β x g->Rel K' (eN (other i) β) x (match g.ok (other i) with | true=>g | false=>.U):=by
  intro g h;split
  ·rename_i ho;exact (h.mono hk (dI.refl β)).res ho
  ·exact .U _
 cases g with
 | loc j o =>
  simp only [pP];split
  ·rename_i hj
   have hj:j=i:=by simpa using hj
   subst hj
   cases h with
   | loc _ _ b' bH =>
    rw [hb] at bH;cases bH;have:=Rel.box (K:=K') (β:=eN (other j) β) b 0 o cs (fun q g hg=>by rw [ed];exact hc q g hg);rw [ed] at this;exact this
  ·rename_i hj
   have hj:j≠i:=by intro e;subst e;simp at hj
   exact (h.mono hk (dI.refl β)).res (xV hj)
 | _=>exact gen h
def qD (i:Nat) (cs:List GV):List GV->List GV
 | []=>[]
 | g::gs=>pP i cs g::qD i cs gs
theorem Wk.freeze {i:Nat} {E:TypeId} {cs:List GV} (bD:Γ[i]?=some (.box E cs)) (hp:rN cs=true) (cl:sM (other i) (oset Γ i .gone)=true) (hm:m<=i):Wk m fr Γ (qD i cs fr) (oset Γ i .gone):=fun B K β w l hB hI hF=>by
 rw [bK] at cl |-;obtain ⟨b,vs,D,X,h3,h4⟩:=hI.ob i _ bD;obtain ⟨K',hK,FF,bA⟩:=hI.freeze bD (nS hp) cl zfw;refine ⟨K',_,bA,?_⟩;clear hI bA cl bD
 induction hF with
 | nil=>exact .nil
 | cons h t ih=>exact .cons (h.frz hK D (FF b D)) ih
end
def cH:List Nat->Nat->Nat->Nat
 | [],n,j=>n+j
 | i::_,_,0=>i
 | _::r,n,j+1=>cH r n j
def fo:List Ob->List Nat->List Ob->List Ob
 | Γ,[],xs=>Γ++xs
 | Γ,_::_,[]=>Γ
 | Γ,i::r,x::xs=>fo (oset Γ i x) r xs
def kY:List Nat->Nat->Bool
 | [],_=>true
 | i::r,n=>Nat.blt i n&&!(r.contains i)&&kY r n
theorem EI {aS:List Nat} {n j:Nat} (h:aS.length<=j):cH aS n j=n+(j - aS.length):=by
 induction aS generalizing j with
 | nil=>simp [cH]
 | cons i r ih =>
  cases j with
  | zero=>simp at h
  | succ j=>rw [cH,ih zfx];simp
theorem V4 {aS:List Nat} {n j:Nat} (h:j < aS.length):∃ i∈aS,cH aS n j=i:=by
 induction aS generalizing j with
 | nil=>simp at h
 | cons i r ih =>
  cases j with
  | zero=>exact ⟨i,by simp,rfl⟩
  | succ j=>obtain ⟨x,D,X⟩:=ih (j:=j) zfx;exact ⟨x,by simp [D],X⟩
theorem Ij {aS:List Nat} {n:Nat} (h:kY aS n=true):∀ i∈aS,i < n:=by
 induction aS with
 | nil=>intro i hi;cases hi
 | cons x r ih =>
  simp only [kY,aI] at h;intro i hi
  rcases eF hi with rfl | hi
  ·simpa using h.1.1
  ·exact ih h.2 i hi
theorem CC {aS:List Nat} {n:Nat} (h:kY aS n=true):∀ {j j':Nat},cH aS n j=cH aS n j'->j=j':=by
 induction aS with
 | nil=>intro j j' he;simp only [cH] at he;omega
 | cons x r ih =>
  have au:=Ij h;simp only [kY,aI,Bool.not_eq_true'] at h
  have hx:∀ j,cH r n j≠x:=fun j he=>by
   by_cases hj:j < r.length
   ·obtain ⟨i,hi,X⟩:=V4 (n:=n) hj;rw [he] at X;subst X;have:=h.1.2;rw [dz.2 hi] at this;cases this
   ·have:=EI (n:=n) (Nat.le_of_not_lt hj);have:=au x zfu;omega
  intro j j' he
  cases j with
  | zero=>cases j' with
   | zero=>rfl
   | succ j'=>exact absurd he.symm (hx j')
  | succ j=>cases j' with
   | zero=>exact absurd he (hx j)
   | succ j'=>rw [ih h.2 he]
theorem JP {aS:List Nat} {n:Nat}:∀ {Γ xs:List Ob},Γ.length=n->kY aS n=true->aS.length<=xs.length ->
  (∀ j,(fo Γ aS xs)[cH aS n j]?=xs[j]?)/\(∀ i,(∀ j,cH aS n j≠i)->(fo Γ aS xs)[i]?=Γ[i]?)/\(fo Γ aS xs).length=n+(xs.length - aS.length):=by
 induction aS with
 | nil =>
  intro Γ xs hn _ _;refine ⟨fun j=>?_,fun i hi=>?_,by simp [fo,hn]⟩
  ·simp only [fo,cH];rw [fA zfw];congr 1;omega
  ·simp only [fo,cH] at hi |-
   by_cases au:i < n
   ·rw [ff zfw]
   ·exact absurd zfw (hi (i - n))
 | cons x r ih =>
  intro Γ xs hn eU hl;have HA:=@CC (x::r) n eU;have au:=Ij eU x zfu
  cases xs with
  | nil=>simp at hl
  | cons y ys =>
   simp only [kY,aI,Bool.not_eq_true'] at eU;obtain ⟨D,X,h3⟩:=ih (Γ:=oset Γ x y) (xs:=ys) (by rw [bK];simpa using hn) eU.2 zfz
   have hx:∀ j,cH r n j≠x:=fun j he=>by
    have:=@HA (j+1) 0 he;omega
   refine ⟨fun j=>?_,fun i hi=>?_,by simp only [fo,h3,length_cons];omega⟩
   ·cases j with
    | zero =>
     simp only [fo,cH];rw [X x hx,bK,eG];simp [hn,au]
    | succ j=>simp only [fo,cH];exact D j
   ·simp only [fo];rw [X i (fun j=>hi (j+1)),bK,eG];rw [ab (by intro e;exact hi 0 e)]
theorem lB.Dy {K:Fz} {β:Bt} {w:World} {f:Nat->Nat} {j:Nat} {x:Ob} (h:lB K β w (f j) (x.eI f)):lB K (fun j=>β (f j)) w j x:=by
 cases x with
 | gone=>exact h
 | box E cs =>
  obtain ⟨b,vs,D,X,h3,h4⟩:=h;rw [l9] at h3;exact ⟨b,vs,D,X,⟨by simpa using h3.1,fun i v g h5 h6=>(h3.2 i v (eI f g) h5 (by rw [bp,h6];rfl)).Dy⟩,h4⟩
 | vec E k fz rows =>
  exact zb9
 | vech E k rows x =>
  exact zch
 | lost=>exact h
 | blk b q=>exact h
 | blob q=>exact h
theorem lB.DN {K:Fz} {β:Bt} {w:World} {f:Nat->Nat} {j:Nat} {x:Ob} (h:lB K (fun j=>β (f j)) w j x):lB K β w (f j) (x.eI f):=by
 cases x with
 | gone=>exact h
 | box E cs =>
  obtain ⟨b,vs,D,X,h3,h4⟩:=h;refine ⟨b,vs,D,X,?_,h4⟩;rw [l9];refine ⟨by simpa using h3.1,fun i v g h5 h6=>?_⟩;rw [bp] at h6
  cases hc:cs[i]? with
  | none=>rw [hc] at h6;cases h6
  | some c=>rw [hc] at h6;cases h6;exact (h3.2 i v c h5 hc).DN
 | vec E k fz rows =>
  exact zb9
 | vech E k rows x =>
  exact zch
 | lost=>exact h
 | blk b q=>exact h
 | blob q=>exact h
section
variable {K:Fz} {β:Bt} {Γ:List Ob} {w:World} {B:Bs}
theorem Inv.enter {aS:List Nat} {jC:List Ob} (h:Inv B K β Γ w) (eU:kY aS Γ.length=true) (hl:jC.length=aS.length) (bD:∀ j x,jC[j]?=some x->Γ[cH aS Γ.length j]?=some (x.eI (cH aS Γ.length))) :
  Inv (cur K (fun j=>β (cH aS Γ.length j)) jC w) K (fun j=>β (cH aS Γ.length j)) jC w:=by
 have cl:∀ i,jC.length<=i->β (cH aS Γ.length i)=.no:=fun i hi=>by
  rw [EI zfw];exact h.out _ zfw
 exact ⟨Ext.refl w,cW.refl K,dI.refl _,cl,h.fz,fun i x hi=>(h.ob _ _ (bD i x hi)).Dy,cl,fun i j b hi hj=>CC eU (h.dis _ _ b hi hj),fun i b hb=>.inl ⟨i,hb⟩,fun _ _ _ h=>.inl h,h.tab.step (S:=gL) (Ext.refl w) (fun _ h=>h.elim) (cW.refl K) (fun i b2 X=>.inl ⟨_,X⟩)⟩
theorem Inv.leave {aS:List Nat} {jC tE:List Ob} {K':Fz} {CG:Bt} {w':World} (h:Inv B K β Γ w) (eU:kY aS Γ.length=true) (hl:jC.length=aS.length) (kG:aS.length<=tE.length)
  (hI:Inv (cur K (fun j=>β (cH aS Γ.length j)) jC w) K' CG tE w') :
  ∃ bR,cW K K'/\dI β bR/\(∀ j,bR (cH aS Γ.length j)=CG j)/\Inv B K' bR (fo Γ aS (tE.map (Ob.eI (cH aS Γ.length)))) w':=by
 obtain ⟨s1,s2,s3⟩:=JP (aS:=aS) (n:=Γ.length) (Γ:=Γ) (xs:=tE.map (Ob.eI (cH aS Γ.length))) rfl eU (by simpa using kG);rw [cj] at s3;generalize hf:cH aS Γ.length=f at *
 have HA:∀ {j j'},f j=f j'->j=j':=by subst hf;exact CC eU
 have kF:∀ j,aS.length<=j->f j=Γ.length+(j - aS.length):=fun j hj=>by subst hf;exact EI hj
 have abg:∀ i,Γ.length<=i->f (aS.length+(i - Γ.length))=i:=fun i hi=>by rw [kF _ zfw];omega
 have ⟨bR,hβ1,hβ2⟩:∃ bR:Bt,(∀ j,bR (f j)=CG j)/\∀ i,(∀ j,f j≠i)->bR i=β i:=by
  classical
  refine ⟨fun i=>if h:∃ j,f j=i then CG (Classical.choose h) else β i,fun j=>?_,fun i hi=>?_⟩
  ·have hex:∃ j',f j'=f j:=⟨j,rfl⟩;simp only;rw [dif_pos hex,HA (Classical.choose_spec hex)]
  ·simp only;rw [dif_neg (fun ⟨j,hj⟩=>hi j hj)]
 have Xf:dI β bR:=fun i=>by
  by_cases hi:∃ j,f j=i
  ·obtain ⟨j,rfl⟩:=hi;rw [hβ1];exact hI.ble j
  ·rw [hβ2 i (fun j hj=>hi ⟨j,hj⟩)];exact uq.refl _
 have yD:∀ b,blocks (fun j=>β (f j)) b->blocks β b:=fun b ⟨j,hj⟩=>⟨f j,hj⟩
 have gi:∀ i b,(bR i).has b->blocks β b\/w.heap.size<=b:=fun i b hb=>by
  by_cases hi:∃ j,f j=i
  ·obtain ⟨j,rfl⟩:=hi;rw [hβ1] at hb;exact (hI.own j b hb).imp (yD b) id
  ·rw [hβ2 i (fun j hj=>hi ⟨j,hj⟩)] at hb;exact .inl ⟨i,hb⟩
 have uf:∀ i b,(∀ j,f j≠i)->(β i).has b->¬ blocks (fun j=>β (f j)) b:=fun i b hi hb ⟨j,hj⟩=>hi j (h.dis _ _ b hj hb)
 refine ⟨bR,hI.kle,Xf,hβ1,h.Qr (Γ0:=Γ) ?_⟩;refine ⟨hI.ext.mono (fun k _ hk=>yD k hk),hI.kle,Xf,h.out,hI.fz,fun i x hi=>?_,fun i hi=>?_,fun i i' b hi qR=>?_,gi,fun b o g hg=>?_,⟨hI.tab.le,hI.tab.pow,hI.tab.spc,fun i b hb=>(gi i b hb).elim (fun ⟨j,hj⟩=>h.tab.free j b hj) (fun hs=>⟨by have:=h.tab.pow.lt;have hs:w.heap.size<=b:=hs;omega,by have:=h.tab.spc.lt;have hs:w.heap.size<=b:=hs;omega⟩)⟩⟩
 ·by_cases hj:∃ j,f j=i
  ·obtain ⟨j,rfl⟩:=hj;rw [s1 j,bp] at hi
   cases hc:tE[j]? with
   | none=>rw [hc] at hi;cases hi
   | some c =>
    rw [hc] at hi;cases hi;refine lB.DN ?_;have:=hI.ob j c hc;rw [show (fun j=>bR (f j))=CG from funext hβ1];exact this
  ·have nw:∀ j,f j≠i:=fun j h=>hj ⟨j,h⟩
   rw [s2 i nw] at hi;refine (h.ob i x hi).ext hI.ext (fun b hb=>uf i b nw hb) hI.kle Xf (hβ2 i nw) (fun b o hb hk=>?_)
   cases fk:K' b o with
   | none=>rfl
   | some g =>
    rcases hI.kn b o g fk with h7 | h7 | h7
    ·have h7:K b o=some g:=h7;rw [hk] at h7;cases h7
    ·exact absurd h7 (uf i b nw hb)
    ·have:=h.lt hb;have h7:w.heap.size<=b:=h7;omega
 ·rw [s3] at hi;have D:=abg i zfw;rw [<-D,hβ1];exact hI.out _ zfw
 ·by_cases D:∃ j,f j=i <;> by_cases X:∃ j,f j=i'
  ·obtain ⟨j,rfl⟩:=D;obtain ⟨j',rfl⟩:=X;rw [hβ1] at hi qR;rw [hI.dis j j' b hi qR]
  ·obtain ⟨j,rfl⟩:=D
   have rF:∀ j,f j≠i':=fun j h=>X ⟨j,h⟩
   rw [hβ1] at hi;rw [hβ2 i' rF] at qR
   rcases hI.own j b hi with h7 | h7
   ·exact absurd h7 (uf i' b rF qR)
   ·have:=h.lt qR;have h7:w.heap.size<=b:=h7;omega
  ·obtain ⟨j,rfl⟩:=X
   have dp:∀ j,f j≠i:=fun j h=>D ⟨j,h⟩
   rw [hβ1] at qR;rw [hβ2 i dp] at hi
   rcases hI.own j b qR with h7 | h7
   ·exact absurd h7 (uf i b dp hi)
   ·have:=h.lt hi;have h7:w.heap.size<=b:=h7;omega
  ·rw [hβ2 i (fun j h=>D ⟨j,h⟩)] at hi;rw [hβ2 i' (fun j h=>X ⟨j,h⟩)] at qR;exact h.dis i i' b hi qR
 ·rcases hI.kn b o g hg with h7 | h7 | h7
  ·exact .inl h7
  ·exact .inr (.inl (yD b h7))
  ·exact .inr (.inr h7)
end
section
variable {P:Program} {m:Nat} {Q:dW} {fr:List GV} {Γ:List Ob} {ops:Array Oper} {rest:List Oper} {d:Option Tmp} {op:Op} {ty:TypeId} {pos:String} {af:Array Edge}
def seen (f:Nat->Nat) (Γ:List Ob):List Nat->List Ob->Prop
 | [],[]=>True
 | i::r,x::xs=>Γ[i]?=some (x.eI f)/\seen f Γ r xs
 | _,_=>False
theorem Gc {f:Nat->Nat} {Γ:List Ob} {n:Nat}:∀ {aS:List Nat} {jC:List Ob},seen f Γ aS jC->jC.length=aS.length/\∀ j x,jC[j]?=some x->Γ[cH aS n j]?=some (x.eI f)
 | [],[],_=>⟨rfl,fun j x h=>by simp at h⟩
 | i::r,y::ys,h=>by
  obtain ⟨D,X⟩:=h;obtain ⟨h3,h4⟩:=Gc (n:=n) X;refine ⟨by simp [h3],fun j x hx=>?_⟩
  cases j with
  | zero=>cases hx;exact D
  | succ j=>exact h4 j x hx
 | [],_::_,h=>h.elim
 | _::_,[],h=>h.elim
theorem GL.calls {f:FuncId} {aS:List Nat} {gs:List GV} {jC:List Ob} {R:GV->List Ob->Prop} {vs:List Value->List Value} (hr:∀ K β w l,FR K β fr l->bs K β (vs l) (nU (cH aS Γ.length) gs)/\(execOp (ev l) ⟨d,op,ty,pos,af,none⟩).run P w=.ok (.enter f (vs l).toArray) w)
  (eU:kY aS Γ.length=true) (bD:seen (cH aS Γ.length) Γ aS jC) (hc:GC P f gs jC R)
  (h:∀ g aV,R g aV->aS.length<=aV.length/\GL P m ops Q rest (bM fr d (eI (cH aS Γ.length) g)) (fo Γ aS (aV.map (Ob.eI (cH aS Γ.length))))) :
  GL P m ops Q (⟨d,op,ty,pos,af,none⟩::rest) fr Γ:=fun B K β w l hm hI hF=>by
 obtain ⟨hl,hs⟩:=Gc (n:=Γ.length) bD;obtain ⟨ha,hr⟩:=hr K β w l hF;have hIc:=hI.enter eU hl hs
 have C4:bs K (fun j=>β (cH aS Γ.length j)) (vs l) gs:=by
  rw [l9] at ha;exact ⟨by simpa using ha.1,fun i v g h5 h6=>(ha.2 i v (eI _ g) h5 (by rw [bp,h6];rfl)).Dy⟩
 refine WL.calls hr (hc _ K _ w _ rfl hIc C4) ?_;rintro v w' ⟨K',CG,g,aV,bA,jq,hR⟩;obtain ⟨kG,h⟩:=h g aV hR;obtain ⟨bR,hK,hB,mR,ua⟩:=hI.leave eU hl kG bA;refine h B K' bR w' _ hm ua ((hF.mono hK hB).put d (Rel.DN ?_));rw [show (fun j=>bR (cH aS Γ.length j))=CG from funext mR];exact jq
theorem GL.yo {f:FuncId} [hf:aP P f] (aS:List Nat) {x:Operand} {first cap:List GV} {args:List Operand} {qz:Array TypeId} {gs:List GV} {jC:List Ob} {R:GV->List Ob->Prop} (hc:GC P f gs jC R) (hx:bf fr x=.fn (.func f) first cap) (ha:first++args.map (bf fr)++cap=nU (cH aS Γ.length) gs) (eU:kY aS Γ.length=true)
  (bD:seen (cH aS Γ.length) Γ aS jC) (h:∀ g aV,R g aV->aS.length<=aV.length/\GL P m ops Q rest (bM fr d (eI (cH aS Γ.length) g)) (fo Γ aS (aV.map (Ob.eI (cH aS Γ.length))))) :
  GL P m ops Q (⟨d,.call ⟨.value x,args.toArray,qz⟩,ty,pos,af,none⟩::rest) fr Γ :=
 GL.calls (vs:=fun l=>match ev l x with | .func _ a c=>a.toList++args.map (ev l)++c.toList | _=>[]) (fun K β w l hF=>by
  have hr:=hF.ev x;rw [hx] at hr;generalize hv:ev l x=v at hr
  cases hr with
  | fn _ xs ys _ _ D X h3 h4 =>
   refine ⟨?_,?_⟩
   ·rw [<-ha];exact (bs.app (bs.app ⟨D,h3⟩ (hF.args args)) ⟨X,h4⟩)
   ·simp [execOp,resolve,hv,Deferred.ofValue,invoke,qa]) eU bD hc h
theorem GL.Zm {f:FuncId} [hf:aP P f] (aS:List Nat) {x:Operand} {args:List Operand} {qz:Array TypeId} {gs:List GV} {jC:List Ob} {R:GV->List Ob->Prop} (hc:GC P f gs jC R) (hx:bf fr x=.v (.func (.func f) #[] #[])) (ha:args.map (bf fr)=nU (cH aS Γ.length) gs) (eU:kY aS Γ.length=true)
  (bD:seen (cH aS Γ.length) Γ aS jC) (h:∀ g aV,R g aV->aS.length<=aV.length/\GL P m ops Q rest (bM fr d (eI (cH aS Γ.length) g)) (fo Γ aS (aV.map (Ob.eI (cH aS Γ.length))))) :
  GL P m ops Q (⟨d,.call ⟨.value x,args.toArray,qz⟩,ty,pos,af,none⟩::rest) fr Γ :=
 GL.calls (vs:=fun l=>args.map (ev l)) (fun K β w l hF=>⟨by rw [<-ha];exact hF.args args,by
  have hv:=hF.ko hx
  simp [execOp,resolve,hv,Deferred.ofValue,invoke,qa]⟩) eU bD hc h
end
def pQ (ops:List Oper) (fr:List GV):Nat->Option (Option Bool):=fun j =>
 match ku ops j,(ux ops j).dst with
 | true,some t=>match ku fr t,cP fr t with
  | true,.v (.bool c)=>some (some c)
  | true,.v (.tuple _)=>some none
  | _,_=>none
 | _,_=>none
section
variable {P:Program} {m:Nat} {Q:dW} {fr:List GV} {Γ:List Ob} {ops:Array Oper} {rest:List Oper} {d:Option Tmp} {op:Op} {ty:TypeId} {pos:String} {af:Array Edge}
theorem xy {K:Fz} {β:Bt} {l:List Value} {j:Nat} {b:Bool} {c:Option Bool} (hF:FR K β fr l) (h:pQ ops.toList fr j=some c):vF (some (j,b)) ops.toList l=true/\gv ops.toList l (j,b)=c:=by
 unfold pQ at h;split at h
 ·rename_i t D X;split at h
  ·rename_i c' h3 h4;cases h;have hv:nth l t=.bool c':=Rel.eE (by rw [<-h4];exact hF.nth t);exact zda
  ·rename_i vs h3 h4;cases h;have hv:nth l t=.tuple vs:=Rel.eE (by rw [<-h4];exact hF.nth t);exact zda
  ·cases h
 ·cases h
theorem GL.gt {gd:Nat × Bool} {c:Bool} (hv:pQ ops.toList fr gd.1=some (some c)) (hc:c=gd.2) (h:GL P m ops Q (⟨d,op,ty,pos,af,none⟩::rest) fr Γ):GL P m ops Q (⟨d,op,ty,pos,af,some gd⟩::rest) fr Γ:=fun B K β w l hm hI hF=>by
 obtain ⟨D,X⟩:=xy (b:=gd.2) hF hv;exact Xw.GT D X hc (h B K β w l hm hI hF)
theorem GL.gf {gd:Nat × Bool} {c:Bool} (hv:pQ ops.toList fr gd.1=some (some c)) (hc:c=!gd.2) (h:GL P m ops Q rest (bM fr d (.v undef)) Γ):GL P m ops Q (⟨d,op,ty,pos,af,some gd⟩::rest) fr Γ:=fun B K β w l hm hI hF=>by
 obtain ⟨D,X⟩:=xy (b:=gd.2) hF hv;exact Xw.GF D X hc (h B K β w _ hm hI (hF.put d (.v _)))
theorem GL.gu {gd:Nat × Bool} (hv:pQ ops.toList fr gd.1=some none) (h:GL P m ops Q rest (bM fr d (.v undef)) Γ):GL P m ops Q (⟨d,op,ty,pos,af,some gd⟩::rest) fr Γ:=fun B K β w l hm hI hF=>by
 obtain ⟨D,X⟩:=xy (b:=gd.2) hF hv;exact Xw.GU D X (h B K β w _ hm hI (hF.put d (.v _)))
end
def gG (ops:List Oper) (fr:List GV):Option (Nat × Bool)->Option Bool
 | none=>some true
 | some (j,b)=>match pQ ops fr j with
  | some (some c)=>some (c==b)
  | some none=>some false
  | none=>none
theorem Ks {ops:Array Oper} {K:Fz} {β:Bt} {fr:List GV} {l:List Value} {o:Oper} {c:Bool} (hF:FR K β fr l) (h:gG ops.toList fr o.guard=some c):Region.wanted o (yielded ops (act l).tmps)=c:=by
 obtain ⟨d,op,ty,pos,af,gd⟩:=o
 cases gd with
 | none=>simp only [gG] at h;cases h;rfl
 | some gd =>
  obtain ⟨j,b⟩:=gd;simp only [gG] at h;split at h
  ·rename_i c' hc;cases h;obtain ⟨D,X⟩:=xy (b:=b) hF hc;rw [yi D]
   cases BE:(c'==b) with
   | true=>exact QX X (by simpa using BE)
   | false=>exact QW X (by cases c' <;> cases b <;> simp_all)
  ·rename_i hc;cases h;obtain ⟨D,X⟩:=xy (b:=b) hF hc;rw [yi D];exact QY X
  ·cases h
def F5 (P:Program) (o:Oper) (e:Operand->Value) (w:World) (Kv:Value->World->Prop):Prop :=
 match (execOp e o).run P w with
 | .ok (.value v) w'=>Kv v w'
 | .ok .skip w'=>Kv undef w'
 | .ok (.enter f args) w'=>Calls P f args w' fun e UM=>∃ v,e=.returned v/\Kv v UM
 | .ok (.row row args) w'=>Rows P row args w' Kv
 | _=>False
theorem Yv {P:Program} {o:Oper} {a:Act} {w:World} {Kv:Value->World->Prop} {next:Act->World->Prop} {Q:Exit->Act->World->Prop} (h:F5 P o a.eval w Kv) (hn:∀ v w',Kv v w'->next (a.put o.dst v) w'):o.wp P a w next Q:=by
 unfold F5 at h;unfold Oper.wp;generalize (execOp a.eval o).run P w=r at *
 cases r with
 | ok n w' =>
  cases n <;> simp only [Oper.upon] at h |- <;> first
   | exact hn _ _ h
   | exact Calls.mono h (fun e UM ⟨v,he,hv⟩=>by subst he;exact hn _ _ hv)
   | exact Rows.mono h (fun _ _ hv=>hn _ _ hv)
   | exact h.elim
 | halt x w'=>exact h.elim
theorem Y5 {P:Program} {o:Oper} {a:Act} {w:World} {Kv:Value->World->Prop} {next:Act->World->Prop} {Q:Exit->Act->World->Prop} (h:o.wp P a w next Q) (hQ:∀ c a w,¬ Q (.panic c) a w) (hQ':∀ a w,¬ Q .outgrown a w) (hn:∀ v w',next (a.put o.dst v) w'->Kv v w')
  (hd:∀ d w',¬ next ({ a with defers:=d::a.defers }.put o.dst undef) w'):F5 P o a.eval w Kv:=by
 unfold F5;unfold Oper.wp at h;generalize (execOp a.eval o).run P w=r at *
 cases r with
 | ok n w' =>
  cases n <;> simp only [Oper.upon] at h |- <;> first
   | exact hn _ _ h
   | exact Calls.mono h (fun e UM he=>by
     cases e with
     | returned v=>exact ⟨v,rfl,hn _ _ he⟩
     | panicked c=>exact (hQ _ _ _ he).elim
     | outgrown=>obtain ⟨a0,w0,hf⟩:=he;exact (hQ' _ _ hf).elim)
   | exact Rows.mono h (fun _ _ hv=>hn _ _ hv)
   | exact h.elim
   | exact absurd h (hd _ _)
 | halt x w' =>
  cases x <;> simp only [Oper.upon] at h
  exact (hQ _ _ _ h).elim
def dx (ts:List Nat):Nat->List GV->List GV
 | _,[]=>[]
 | k,g::gs=>(match ts.contains k with | true=>g | false=>.U)::dx ts (k+1) gs
theorem FR.mask {K:Fz} {β:Bt} {ts:List Nat} {fr:List GV} {l:List Value} (h:FR K β fr l):∀ k,FR K β (dx ts k fr) l:=by
 induction h with
 | nil=>intro k;exact .nil
 | cons h t ih =>
  intro k;rw [dx];split
  ·exact .cons h (ih _)
  ·exact .cons (.U _) (ih _)
theorem SK {ts:List Nat} {d:Option Tmp} {g:GV} (hd:∀ t,d=some t->t ∉ ts) (fr:List GV):dx ts 0 (bM fr d g)=dx ts 0 fr:=by
 cases d with
 | none=>rfl
 | some t =>
  have hd:=hd t rfl
  have gen:∀ (fr:List GV) (k t:Nat),k+t ∉ ts->dx ts k (bQ fr t g)=dx ts k fr:=by
   intro fr
   induction fr with
   | nil=>intro k t _;rfl
   | cons x fr ih =>
    intro k t h
    cases t with
    | zero =>
     have hc:ts.contains k=false:=by
      cases hb:ts.contains k with
      | false=>rfl
      | true=>exact absurd (dz.1 hb) zfx
     simp only [bQ,dx,hc]
    | succ t=>simp only [bQ,dx];rw [ih (k+1) t zgs]
  exact gen fr 0 t (by simpa using hd)
section
variable {P:Program} {ops:Array Oper}
def YQ (P:Program) (ops:Array Oper) (i:Nat) (g:GV) (fr:List GV) (Γ:List Ob):Prop :=
 ∃ o c,ops[i]?=some o/\gG ops.toList (dx (o.looksAt ops) 0 fr) o.guard=some c/\match c with
  | true=>YG P o.op (dx (o.looksAt ops) 0 fr) Γ g
  | false=>g=.v undef
abbrev mY:=List (Nat × GV × List GV)
def GA (P:Program) (o:Oper) (Kt:GV->List Ob->Prop) (fr:List GV) (Γ:List Ob):Prop :=
 ∀ B K β w l,Inv B K β Γ w->FR K β fr l->F5 P o (ev l) w fun v w'=>∃ K' bR g aV,cW K K'/\dI β bR/\Inv B K' bR aV w'/\(∀ fr l,FR K' bR fr l->FR K' bR (bM fr o.dst g) (put l o.dst v))/\Kt g aV
def GI (P:Program) (ops:Array Oper) (i:Nat) (Kt:GV->List Ob->Prop) (fr:List GV) (Γ:List Ob):Prop :=
 ∃ o c,ops[i]?=some o/\gG ops.toList fr o.guard=some c/\match c with
  | true=>GA P o Kt fr Γ
  | false=>Kt (.v undef) Γ
def nc (ops:Array Oper) (i:Nat):Option Tmp:=(ops[i]?).bind (·.dst)
def waits (ops:Array Oper) (i j:Nat):Bool:=match ops[i]? with
 | some o=>o.after.any fun e=>Region.binds .any e&&e.on==j
 | none=>false
def stay (ops:Array Oper) (i:Nat) (bm:mY):mY:=bm.filter fun p=>!waits ops i p.1
def rQ (P:Program) (ops:Array Oper) (Q:List GV->List Ob->Prop):Nat->mY->Array Bool->List GV->List Ob->Prop
 | 0,_,listed,fr,Γ=>Region.ready .any ops listed=[]/\Q fr Γ
 | n+1,bm,listed,fr,Γ=>(Region.ready .any ops listed=[]->Q fr Γ) /\
   ∀ i∈Region.ready .any ops listed,GI P ops i (fun g aV=>(∀ p∈stay ops i bm,YQ P ops p.1 p.2.1 p.2.2 aV)/\rQ P ops Q n (stay ops i bm) (listed.setIfInBounds i true) (bM fr (nc ops i) g) aV) fr Γ
theorem GA.mono {o:Oper} {Kt GX:GV->List Ob->Prop} {fr:List GV} {Γ:List Ob} (h:GA P o Kt fr Γ) (hk:∀ g aV,Kt g aV->GX g aV):GA P o GX fr Γ:=fun B K β w l hI hF=>by
 have:=h B K β w l hI hF;unfold F5 at *;generalize (execOp (ev l) o).run P w=r at *
 have key:∀ v w',(∃ K' bR g aV,cW K K'/\dI β bR/\Inv B K' bR aV w'/\(∀ fr l,FR K' bR fr l->FR K' bR (bM fr o.dst g) (put l o.dst v))/\Kt g aV)->∃ K' bR g aV,cW K K'/\dI β bR/\Inv B K' bR aV w'/\(∀ fr l,FR K' bR fr l->FR K' bR (bM fr o.dst g) (put l o.dst v))/\GX g aV :=
  fun v w' ⟨K',bR,g,aV,D,X,h3,h4,h5⟩=>⟨K',bR,g,aV,D,X,h3,h4,hk _ _ h5⟩
 cases r with
 | ok n w'=>cases n <;> simp only at this |- <;> first
   | exact key _ _ this
   | exact Calls.mono this (fun e UM ⟨v,he,hv⟩=>⟨v,he,key _ _ hv⟩)
   | exact Rows.mono this (fun _ _ hv=>key _ _ hv)
   | exact this.elim
 | halt x w'=>exact this.elim
theorem GI.mono {i:Nat} {Kt GX:GV->List Ob->Prop} {fr:List GV} {Γ:List Ob} (h:GI P ops i Kt fr Γ) (hk:∀ g aV,Kt g aV->GX g aV):GI P ops i GX fr Γ:=by
 obtain ⟨o,c,D,X,h3⟩:=h;refine ⟨o,c,D,X,?_⟩
 cases c with
 | true=>exact GA.mono h3 hk
 | false=>exact hk _ _ h3
theorem rQ.TB {Q:List GV->List Ob->Prop}:∀ (n:Nat) (bm eD:mY) (listed:Array Bool) (fr:List GV) (Γ:List Ob),(∀ p∈eD,p∈bm)->rQ P ops Q n bm listed fr Γ->rQ P ops Q n eD listed fr Γ
 | 0,_,_,_,_,_,_,h=>h
 | n+1,bm,eD,listed,fr,Γ,hs,h=>⟨h.1,fun i hi=>(h.2 i hi).mono fun g aV ⟨D,X⟩=>by
  have od:∀ p∈stay ops i eD,p∈stay ops i bm:=fun p hp=>by
   simp only [stay,mem_filter] at hp |-;exact ⟨hs p hp.1,hp.2⟩
  exact ⟨fun p hp=>D p (od p hp),rQ.TB n _ _ _ _ _ od X⟩⟩
theorem rQ.sound {m:Nat} {Q:List GV->List Ob->Prop} {B:Bs} {Q':dW} (hm:B.m=m) (hQ:∀ fr Γ,Q fr Γ->Q' .normal fr Γ):∀ (n:Nat) (bm:mY) (listed:Array Bool) (fr:List GV) (Γ:List Ob) (K:Fz) (β:Bt) (w:World) (l:List Value),
  rQ P ops Q n bm listed fr Γ->Inv B K β Γ w->FR K β fr l->wpAny P .any ops (lift (gl B Q')) n listed (act l) w
 | 0,_,_,fr,Γ,K,β,w,l,h,hI,hF=>⟨h.1,l,rfl,K,β,fr,Γ,hI,hF,hQ _ _ h.2⟩
 | n+1,bm,listed,fr,Γ,K,β,w,l,h,hI,hF=>by
  refine ⟨fun h0=>⟨l,rfl,K,β,fr,Γ,hI,hF,hQ _ _ (h.1 h0)⟩,fun i hi=>?_⟩;obtain ⟨o,c,ho,hg,hc⟩:=h.2 i hi;have hw:=Ks hF hg;unfold wpOp;simp only [ho,hw]
  have hd:nc ops i=o.dst:=by simp [nc,ho]
  cases c with
  | true =>
   simp only [if_true];refine .inl (Yv (by rw [pK];exact hc B K β w l hI hF) ?_);rintro v w' ⟨K',bR,g,aV,hK,hB,bA,hf,D,X⟩;rw [rA];rw [hd] at X;exact rQ.sound hm hQ n _ _ _ _ K' bR w' _ X bA (hf _ _ (hF.mono hK hB))
  | false =>
   simp only [Bool.false_eq_true,if_false];rw [rA];obtain ⟨D,X⟩:=hc;rw [hd] at X;exact rQ.sound hm hQ n _ _ _ _ K β w _ X hI (hF.put o.dst (.v _))
theorem Js {fr:List GV} {t t':Nat} (h:t'≠t) (g:GV):cP (bQ fr t g) t'=cP fr t':=by
 induction fr generalizing t t' with
 | nil=>rfl
 | cons x l ih=>cases t with
  | zero=>cases t' with | zero=>exact absurd rfl h | succ t'=>rfl
  | succ t=>exact zei
theorem K6 {fr:List GV} {t t':Nat} {g:GV}:ku (bQ fr t g) t'=ku fr t':=by
 induction fr generalizing t t' with
 | nil=>rfl
 | cons x l ih=>cases t with
  | zero=>cases t' <;> rfl
  | succ t=>cases t' with | zero=>rfl | succ t'=>exact ih
theorem W3 {o:Oper} {fr:List GV} {d:Option Tmp} {g:GV} (h:∀ t,d=some t->t ∉ o.looksAt ops):gG ops.toList (bM fr d g) o.guard=gG ops.toList fr o.guard:=by
 cases d with
 | none=>rfl
 | some t =>
  have h:=h t rfl;obtain ⟨d',op,ty,pos,af,gd⟩:=o
  cases gd with
  | none=>rfl
  | some gd =>
   obtain ⟨j,b⟩:=gd
   have bT:∀ t',ku ops.toList j=true->(ux ops.toList j).dst=some t'->t'≠t:=fun t' hj HL he=>by
    subst he;apply h;have nw:=Lo ops.toList j (Dl hj);simp only [Array.toArray_toList] at nw;simp [Oper.looksAt,nw,HL]
   have hv:pQ ops.toList (bQ fr t g) j=pQ ops.toList fr j:=by
    unfold pQ
    cases mu:ku ops.toList j with
    | false=>rfl
    | true =>
     cases hd:(ux ops.toList j).dst with
     | none=>rfl
     | some t' =>
      simp only;rw [K6,Js (bT t' mu hd)]
   simp only [gG,bM,hv]
theorem YQ.at {i:Nat} {g:GV} {fr:List GV} {Γ:List Ob} {o:Oper} (h:YQ P ops i g fr Γ) (ho:ops[i]?=some o) {B:Bs} {K:Fz} {β:Bt} {w:World} {l:List Value} (hI:Inv B K β Γ w) (hF:FR K β fr l):∃ v,Rel K β v g/\((Region.wanted o (yielded ops (act l).tmps)=true/\(execOp (ev l) o).run P w=.ok (.value v) w)\/(Region.wanted o (yielded ops (act l).tmps)=false/\v=undef)):=by
 obtain ⟨o',c,D,X,h3⟩:=h;rw [ho] at D;cases D;have hw:=Ks (hF.mask (ts:=o.looksAt ops) 0) X
 cases c with
 | true =>
  obtain ⟨v,hr,hv⟩:=h3 B K β w l hI (hF.mask 0);exact ⟨v,hv,.inl ⟨hw,by obtain ⟨d,op,ty,pos,af,gd⟩:=o;exact hr d ty pos af⟩⟩
 | false=>subst h3;exact ⟨undef,.v _,.inr ⟨hw,rfl⟩⟩
theorem GI.comm {i j:Nat} {g:GV} {oi oj:Oper} {Kt:GV->List Ob->Prop} {fr:List GV} {Γ:List Ob} (hi:ops[i]?=some oi) (hj:ops[j]?=some oj) (TP:oi.apart ops oj=true) (hsj:∀ cs b,oj.op≠.select cs b) (hy:YQ P ops i g fr Γ)
  (h:GI P ops j Kt (bM fr oi.dst g) Γ):GI P ops j Kt fr Γ:=by
 obtain ⟨a1,a2,a3⟩:=Oper.apart_spec TP;obtain ⟨o,c,D,X,h3⟩:=h;rw [hj] at D;cases D;rw [W3 a1] at X;refine ⟨oj,c,hj,X,?_⟩
 cases c with
 | false=>exact h3
 | true =>
  intro B K β w l hI hF;obtain ⟨v,hv,_⟩:=hy.at hi hI hF;have:=h3 B K β w (put l oi.dst v) hI (hF.put _ hv)
  have he:execOp (ev (put l oi.dst v)) oj=execOp (ev l) oj:=by
   have:=execOp_put oj hsj (act l) oi.dst v a1;rw [rA,pK,pK] at this;exact this
  unfold F5 at this |-;rw [he] at this;exact this
theorem rQ.first {Q:List GV->List Ob->Prop} {i:Nat} {oi:Oper} {g:GV} {qO:List GV} (hi:ops[i]?=some oi) (HK:∀ (j:Nat) (o:Oper) cs b,ops[j]?=some o->o.op≠.select cs b) :
  ∀ (n:Nat) (bm:mY) (listed:Array Bool) (fr:List GV) (Γ:List Ob),
   (∀ j oj,ops[j]?=some oj->j≠i->listed.getD j true=false->(∀ e∈oj.after,Region.binds .any e=true->e.on≠i)->oi.apart ops oj=true) ->
   i∈Region.ready .any ops listed->dx (oi.looksAt ops) 0 fr=dx (oi.looksAt ops) 0 qO->YQ P ops i g qO Γ->(∀ p∈bm,YQ P ops p.1 p.2.1 p.2.2 Γ) ->
   rQ P ops Q n ((i,g,qO)::bm) (listed.setIfInBounds i true) (bM fr oi.dst g) Γ->rQ P ops Q (n+1) bm listed fr Γ:=by
 have hd:nc ops i=oi.dst:=by simp [nc,hi]
 have YY:∀ {fr:List GV} {Γ:List Ob},dx (oi.looksAt ops) 0 fr=dx (oi.looksAt ops) 0 qO->YQ P ops i g qO Γ->YQ P ops i g fr Γ:=by
  rintro fr Γ hm ⟨o,c,D,X,h3⟩;rw [hi] at D;cases D;exact ⟨oi,c,hi,by rw [hm];exact X,by rw [hm];exact h3⟩
 have self:∀ (n:Nat) (bm:mY) (listed:Array Bool) (fr:List GV) (Γ:List Ob),dx (oi.looksAt ops) 0 fr=dx (oi.looksAt ops) 0 qO->YQ P ops i g qO Γ->(∀ p∈bm,YQ P ops p.1 p.2.1 p.2.2 Γ) ->
   rQ P ops Q n ((i,g,qO)::bm) (listed.setIfInBounds i true) (bM fr oi.dst g) Γ ->
   GI P ops i (fun g aV=>(∀ p∈stay ops i bm,YQ P ops p.1 p.2.1 p.2.2 aV)/\rQ P ops Q n (stay ops i bm) (listed.setIfInBounds i true) (bM fr (nc ops i) g) aV) fr Γ:=by
  intro n bm listed fr Γ vt hy hp H
  have cU:∀ p∈stay ops i bm,p∈bm:=fun p hp=>by simp only [stay,mem_filter] at hp;exact hp.1
  have H':rQ P ops Q n (stay ops i bm) (listed.setIfInBounds i true) (bM fr (nc ops i) g) Γ:=by
   rw [hd];exact rQ.TB n _ _ _ _ _ (fun p hp=>dm _ (cU p hp)) H
  obtain ⟨o,c,D,X,h3⟩:=YY vt hy;rw [hi] at D;cases D
  have rF:gG ops.toList fr oi.guard=some c:=by
   obtain ⟨d',op,ty,pos,af,gd⟩:=oi
   cases gd with
   | none=>exact X
   | some gd =>
    obtain ⟨j,b⟩:=gd;simp only [gG] at X |-
    have hv:∀ x,pQ ops.toList (dx (Oper.looksAt ops ⟨d',op,ty,pos,af,some (j,b)⟩) 0 fr) j=some x->pQ ops.toList fr j=some x:=by
     intro x hx;unfold pQ at hx |-
     cases mu:ku ops.toList j with
     | false=>rw [mu] at hx;cases hx
     | true =>
      rw [mu] at hx
      cases hdt:(ux ops.toList j).dst with
      | none=>rw [hdt] at hx;cases hx
      | some t =>
       rw [hdt] at hx;simp only at hx |-
       have uC:∀ (ts:List Nat) (fr:List GV) (k t:Nat),ku (dx ts k fr) t=ku fr t:=by
        intro ts fr
        induction fr with
        | nil=>intro k t;rfl
        | cons x fr ih=>intro k t;cases t with | zero=>rfl | succ t=>exact ih (k+1) t
       have KL:∀ (ts:List Nat) (fr:List GV) (k t:Nat) ,cP (dx ts k fr) t=cP fr t\/cP (dx ts k fr) t=.U:=by
        intro ts fr
        induction fr with
        | nil=>intro k t;exact .inl rfl
        | cons x fr ih =>
         intro k t
         cases t with
         | zero=>simp only [dx,cP];split <;> first | exact .inl rfl | exact .inr rfl
         | succ t=>exact ih (k+1) t
       rw [uC] at hx
       rcases KL (Oper.looksAt ops ⟨d',op,ty,pos,af,some (j,b)⟩) fr 0 t with h | h
       ·rw [h] at hx;exact hx
       ·rw [h] at hx
        split at hx <;> first | (rename_i h5;cases h5;done) | cases hx
    split at X
    ·rename_i c' hc;rw [hv _ hc];exact X
    ·rename_i hc;rw [hv _ hc];exact X
    ·cases X
  refine ⟨oi,c,hi,rF,?_⟩
  have jJ:∀ p∈stay ops i bm,YQ P ops p.1 p.2.1 p.2.2 Γ:=fun p hq=>hp p (cU p hq)
  cases c with
  | true =>
   intro B K β w l hI hF;obtain ⟨v,hr,hv⟩:=h3 B K β w l hI (hF.mask 0)
   have pn:(execOp (ev l) oi).run P w=.ok (.value v) w:=by obtain ⟨d,op,ty,pos,af,gd⟩:=oi;exact hr d ty pos af
   unfold F5;rw [pn];exact ⟨K,β,g,Γ,cW.refl K,dI.refl β,hI,fun fr l hf=>hf.put _ hv,jJ,H'⟩
  | false =>
   simp only at h3;subst h3;exact ⟨jJ,H'⟩
 intro n
 induction n with
 | zero =>
  intro bm listed fr Γ _ hr vt hy hp H;refine ⟨fun h=>(by rw [h] at hr;cases hr),fun j hj=>?_⟩
  by_cases kV:j=i
  ·subst kV;exact self 0 bm listed fr Γ vt hy hp H
  ·have:=ready_mono hj kV;rw [H.1] at this;cases this
 | succ n ih =>
  intro bm listed fr Γ TV hr vt hy hp H;refine ⟨fun h=>(by rw [h] at hr;cases hr),fun j hj=>?_⟩
  by_cases kV:j=i
  ·subst kV;exact self (n+1) bm listed fr Γ vt hy hp H
  ·have D:=H.2 j (ready_mono hj kV);obtain ⟨XH,oj,Pr,ba⟩:=mem_ready.1 hj
   have XP:∀ e∈oj.after,Region.binds .any e=true->e.on≠i:=fun e he hb heq=>by
    have D:=ba e he hb;have h0:=(mem_ready.1 hr).1;rw [heq] at D
    rcases Nat.lt_or_ge i listed.size with h' | h'
    ·simp [h'] at h0 D;rw [h0] at D;cases D
    ·simp [Array.getElem?_eq_none h'] at D
   have TP:=TV j oj Pr kV XH XP;obtain ⟨a1,a2,a3⟩:=Oper.apart_spec TP
   have uE:waits ops j i=false:=by
    simp only [waits,Pr];rw [Array.any_eq_false'];intro e he hb;simp only [aI,beq_iff_eq] at hb;exact XP e he hb.1 hb.2
   have cU:stay ops j ((i,g,qO)::bm)=(i,g,qO)::stay ops j bm:=by
    simp [stay,List.filter_cons,uE]
   rw [cU] at D;have X:=GI.comm hi Pr TP (fun cs b=>HK j oj cs b Pr) (YY vt hy) D
   have hdj:nc ops j=oj.dst:=by simp [nc,Pr]
   have XD:∀ k ok,ops[k]?=some ok->k≠i->(listed.setIfInBounds j true).getD k true=false ->
     (∀ e∈ok.after,Region.binds .any e=true->e.on≠i)->oi.apart ops ok=true:=fun k ok hk cS hun cl=>by
    refine TV k ok hk cS ?_ cl
    by_cases hjk:j=k
    ·subst hjk;exact XH
    ·rw [getD_set_ne true hjk] at hun;exact hun
   refine X.mono fun gj aV ⟨h3,h4⟩=>⟨fun p hp=>h3 p (dm _ hp),?_⟩
   refine ih (stay ops j bm) (listed.setIfInBounds j true) (bM fr (nc ops j) gj) aV XD (ready_mono hr (Ne.symm kV)) ?_ (h3 (i,g,qO) (mem_cons_self)) (fun p hp=>h3 p (dm _ hp)) ?_
   ·rw [<-vt,hdj];exact SK a3 fr
   ·rw [Array.setIfInBounds_comm _ _ kV]
    have ZC:bM (bM fr (nc ops j) gj) oi.dst g=bM (bM fr oi.dst g) (nc ops j) gj:=by
     rw [hdj]
     cases hdi:oi.dst with
     | none=>rfl
     | some t =>
      cases hdj':oj.dst with
      | none=>rfl
      | some u =>
       have bT:t≠u:=fun e=>a2 t hdi (by rw [hdj',e])
       have gen:∀ (fr:List GV) (t u:Nat),t≠u->bQ (bQ fr u gj) t g=bQ (bQ fr t g) u gj:=by
        intro fr
        induction fr with
        | nil=>intro t u _;rfl
        | cons x fr ih =>
         intro t u h
         cases t with
         | zero=>cases u with | zero=>exact absurd rfl h | succ u=>rfl
         | succ t=>cases u with | zero=>rfl | succ u=>simp only [bQ];rw [ih t u (fun e=>h (by rw [e]))]
       exact gen fr t u bT
    rw [ZC];exact h4
inductive Ot where
 | nil
 | q (i:Nat) (r:Ot)
 | a (i:Nat) (r:Ot)
 | f (i:Nat) (r:Ot) (j:Nat) (s:Ot)
def Ot.len:Ot->Nat
 | .nil=>0
 | .q _ r=>r.len+1
 | .a _ r=>r.len+1
 | .f _ r _ _=>r.len+1
def vN (ops:Array Oper):Ot->Array Bool->Bool
 | .nil,listed=>(Region.ready .any ops listed).isEmpty
 | .q i r,listed=>(Region.ready .any ops listed).contains i&&Region.free .any ops listed i&&vN ops r (listed.setIfInBounds i true)
 | .a i r,listed=>(Region.ready .any ops listed==[i])&&vN ops r (listed.setIfInBounds i true)
 | .f i r j s,listed=>(Region.ready .any ops listed==[i,j])&&vN ops r (listed.setIfInBounds i true)&&vN ops s (listed.setIfInBounds j true)&&(r.len==s.len)
def GO (P:Program) (ops:Array Oper) (Q:List GV->List Ob->Prop):Ot->mY->List GV->List Ob->Prop
 | .nil,_,fr,Γ=>Q fr Γ
 | .q i r,bm,fr,Γ=>∃ g,YQ P ops i g fr Γ/\GO P ops Q r ((i,g,fr)::bm) (bM fr (nc ops i) g) Γ
 | .a i r,bm,fr,Γ=>GI P ops i (fun g aV=>(∀ p∈stay ops i bm,YQ P ops p.1 p.2.1 p.2.2 aV)/\GO P ops Q r (stay ops i bm) (bM fr (nc ops i) g) aV) fr Γ
 | .f i r j s,bm,fr,Γ=>GI P ops i (fun g aV=>(∀ p∈stay ops i bm,YQ P ops p.1 p.2.1 p.2.2 aV)/\GO P ops Q r (stay ops i bm) (bM fr (nc ops i) g) aV) fr Γ/\GI P ops j (fun g aV=>(∀ p∈stay ops j bm,YQ P ops p.1 p.2.1 p.2.2 aV)/\GO P ops Q s (stay ops j bm) (bM fr (nc ops j) g) aV) fr Γ
theorem GO.fork {ops:Array Oper} {Q:List GV->List Ob->Prop} {i j:Nat} {r s:Ot} {bm:mY} {fr:List GV} {Γ:List Ob} (D:GO P ops Q (.a i r) bm fr Γ) (X:GO P ops Q (.a j s) bm fr Γ):GO P ops Q (.f i r j s) bm fr Γ:=⟨D,X⟩
theorem GO.all {ol:List Oper} {Q:List GV->List Ob->Prop} (hs:Region.noSelect ol.toArray=true):∀ (ord:Ot) (bm:mY) (listed:Array Bool) (fr:List GV) (Γ:List Ob),
  vN ol.toArray ord listed=true->(∀ p∈bm,YQ P ol.toArray p.1 p.2.1 p.2.2 Γ)->GO P ol.toArray Q ord bm fr Γ->rQ P ol.toArray Q ord.len bm listed fr Γ
 | .nil,bm,listed,fr,Γ,ho,_,h=>⟨by simpa [vN] using ho,h⟩
 | .q i r,bm,listed,fr,Γ,ho,hp,h=>by
  simp only [vN,aI] at ho;obtain ⟨⟨hr,hf⟩,ho⟩:=ho;obtain ⟨g,hy,h⟩:=h
  have yE:i∈Region.ready .any ol.toArray listed:=by simpa using hr
  obtain ⟨_,o,hi,_⟩:=mem_ready.1 yE
  have hd:nc ol.toArray i=o.dst:=by simp only [nc,hi];rfl
  rw [hd] at h
  exact rQ.first hi (Region.noSelect_spec hs) _ bm listed fr Γ (Region.free_spec hi hf) yE rfl hy hp (GO.all hs r _ _ _ _ ho (fun p jJ=>by
   rcases eF jJ with rfl | jJ
   ·exact hy
   ·exact hp p jJ) h)
 | .a i r,bm,listed,fr,Γ,ho,hp,h=>by
  simp only [vN,aI,beq_iff_eq] at ho;obtain ⟨hr,ho⟩:=ho;refine ⟨fun h0=>by rw [h0] at hr;simp at hr,fun j hj=>?_⟩;rw [hr,List.mem_singleton] at hj;subst hj
  exact GI.mono h fun g aV ⟨D,X⟩=>⟨D,GO.all hs r _ _ _ _ ho D X⟩
 | .f i r j s,bm,listed,fr,Γ,ho,hp,h=>by
  simp only [vN,aI,beq_iff_eq] at ho;obtain ⟨⟨⟨hr,ho1⟩,ho2⟩,hl⟩:=ho;refine ⟨fun h0=>by rw [h0] at hr;simp at hr,fun k hk=>?_⟩;rw [hr] at hk;simp only [List.mem_cons,List.not_mem_nil,or_false] at hk
  rcases hk with rfl | rfl
  ·exact GI.mono h.1 fun g aV ⟨D,X⟩=>⟨D,GO.all hs r _ _ _ _ ho1 D X⟩
  ·exact GI.mono h.2 fun g aV ⟨D,X⟩=>⟨D,by
    have:=GO.all hs s _ _ _ _ ho2 D X
    rw [<-hl] at this;exact this⟩
theorem GW.draw {m id:Nat} {ol:List Oper} {Q:dW} {fr:List GV} {Γ:List Ob} (ord:Ot) (hm:P.follows .mixedOrders=true)
  (eU:(Region.noSelect ol.toArray&&(ord.len==ol.length)&&vN ol.toArray ord (Array.replicate ol.toArray.size false))=true)
  (h:GO P ol.toArray (Q .normal) ord [] fr Γ):GW P m (.region id ol.toArray true) Q fr Γ:=fun B K β w l hB hI hF=>by
 simp only [aI,beq_iff_eq] at eU;obtain ⟨⟨hs,hl⟩,ho⟩:=eU;refine wp_region_any hm ?_;have D:=GO.all hs ord [] _ fr Γ ho (fun p hp=>by cases hp) h;rw [hl] at D;have X:=rQ.sound (Q':=Q) hB (fun fr Γ h=>h) _ _ _ _ _ K β w.drew l D (hI.same (Ext.drew w)) hF;simpa using X
end
def lE:List Oper->Nat->Option Oper
 | [],_=>none
 | o::_,0=>some o
 | _::r,n+1=>lE r n
theorem sU {ol:List Oper} {i:Nat} {o:Oper} (h:lE ol i=some o):ol.toArray[i]?=some o:=by
 have:∀ (ol:List Oper) (i:Nat),lE ol i=ol[i]?:=by
  intro ol
  induction ol with
  | nil=>intro i;rfl
  | cons x ol ih=>intro i;cases i with | zero=>rfl | succ i=>simpa [lE] using ih i
 rw [this] at h;simpa using h
section
variable {P:Program} {Q:List GV->List Ob->Prop} {ol:List Oper} {r:Ot} {bm:mY} {fr:List GV} {Γ:List Ob} {i:Nat} {g:GV} {d:Option Tmp} {op:Op} {ty:TypeId} {pos:String} {af:Array Edge} {gd:Nat × Bool}
theorem xt {o:Oper} (h:lE ol i=some o):nc ol.toArray i=o.dst:=by simp only [nc,sU h];rfl
theorem GO.more {ops:Array Oper}:∀ (r:Ot) (bm eD:mY) (fr:List GV) (Γ:List Ob),(∀ p∈eD,p∈bm\/∀ Γ,YQ P ops p.1 p.2.1 p.2.2 Γ)->GO P ops Q r bm fr Γ->GO P ops Q r eD fr Γ
 | .nil,_,_,_,_,_,h=>h
 | .q i r,bm,eD,fr,Γ,hs,⟨g,D,X⟩=>⟨g,D,GO.more r _ _ _ _ (fun p hp=>by
   rcases eF hp with rfl | hp
   ·exact .inl (mem_cons_self)
   ·exact (hs p hp).imp (dm _) id) X⟩
 | .a i r,bm,eD,fr,Γ,hs,h=>GI.mono h fun g aV ⟨D,X⟩=>by
   have od:∀ p∈stay ops i eD,p∈stay ops i bm\/∀ Γ,YQ P ops p.1 p.2.1 p.2.2 Γ:=fun p hp=>by
    exact zdq
   exact ⟨fun p hp=>(od p hp).elim (D p) (fun h=>h aV),GO.more r _ _ _ _ od X⟩
 | .f i r j s,bm,eD,fr,Γ,hs,h=>by
   have od:∀ k,∀ p∈stay ops k eD,p∈stay ops k bm\/∀ Γ,YQ P ops p.1 p.2.1 p.2.2 Γ:=fun k p hp=>by
    exact zdq
   exact ⟨GI.mono h.1 fun g aV ⟨D,X⟩=>⟨fun p hp=>(od i p hp).elim (D p) (fun h=>h aV),GO.more r _ _ _ _ (od i) X⟩,GI.mono h.2 fun g aV ⟨D,X⟩=>⟨fun p hp=>(od j p hp).elim (D p) (fun h=>h aV),GO.more s _ _ _ _ (od j) X⟩⟩
theorem GO.skip {ops:Array Oper} {x:Nat × GV × List GV} (hx:∀ Γ,YQ P ops x.1 x.2.1 x.2.2 Γ) (h:GO P ops Q r bm fr Γ):GO P ops Q r (x::bm) fr Γ:=by
 refine GO.more r bm _ fr Γ (fun p hp=>?_) h
 rcases eF hp with he | hp
 ·subst he;exact .inr hx
 ·exact .inl hp
theorem GO.yq {o:Oper} (hi:lE ol i=some o) (hy:YQ P ol.toArray i g fr Γ) (h:GO P ol.toArray Q r ((i,g,fr)::bm) (bM fr o.dst g) Γ):GO P ol.toArray Q (.q i r) bm fr Γ :=
 ⟨g,hy,by rw [xt hi];exact h⟩
theorem GO.yp {o:Oper} (hi:lE ol i=some o) (hy:∀ Γ,YQ P ol.toArray i g fr Γ) (h:GO P ol.toArray Q r bm (bM fr o.dst g) Γ):GO P ol.toArray Q (.q i r) bm fr Γ :=
 GO.yq hi (hy Γ) (GO.skip hy h)
theorem rj {c:Bool} {ops:List Oper} (hv:pQ ops fr gd.1=some (some c)) (hc:c=gd.2):gG ops fr (some gd)=some true:=by
 exact zeE
theorem r6 {c:Bool} {ops:List Oper} (hv:pQ ops fr gd.1=some (some c)) (hc:c=!gd.2):gG ops fr (some gd)=some false:=by
 exact zeE
theorem W4 {ops:List Oper} (hv:pQ ops fr gd.1=some none):gG ops fr (some gd)=some false:=by
 obtain ⟨j,b⟩:=gd;simp only at hv;simp only [gG,hv]
theorem YQ.t {o:Oper} (hi:lE ol i=some o) (hg:gG ol (dx (o.looksAt ol.toArray) 0 fr) o.guard=some true) (hy:YG P o.op (dx (o.looksAt ol.toArray) 0 fr) Γ g):YQ P ol.toArray i g fr Γ:=⟨o,true,sU hi,hg,hy⟩
theorem YQ.f {o:Oper} (hi:lE ol i=some o) (hg:gG ol (dx (o.looksAt ol.toArray) 0 fr) o.guard=some false):YQ P ol.toArray i (.v undef) fr Γ:=⟨o,false,sU hi,hg,rfl⟩
theorem OQ (hi:lE ol i=some ⟨d,op,ty,pos,af,none⟩) (hy:YG P op (dx (Oper.looksAt ol.toArray ⟨d,op,ty,pos,af,none⟩) 0 fr) Γ g) (h:GO P ol.toArray Q r ((i,g,fr)::bm) (bM fr d g) Γ):GO P ol.toArray Q (.q i r) bm fr Γ :=
 GO.yq hi (YQ.t hi rfl hy) h
theorem OP (hi:lE ol i=some ⟨d,op,ty,pos,af,none⟩) (hy:∀ Γ,YG P op (dx (Oper.looksAt ol.toArray ⟨d,op,ty,pos,af,none⟩) 0 fr) Γ g) (h:GO P ol.toArray Q r bm (bM fr d g) Γ):GO P ol.toArray Q (.q i r) bm fr Γ :=
 GO.yp hi (fun Γ=>YQ.t hi rfl (hy Γ)) h
theorem OQt {c:Bool} (hi:lE ol i=some ⟨d,op,ty,pos,af,some gd⟩) (hv:pQ ol (dx (Oper.looksAt ol.toArray ⟨d,op,ty,pos,af,some gd⟩) 0 fr) gd.1=some (some c)) (hc:c=gd.2) (hy:YG P op (dx (Oper.looksAt ol.toArray ⟨d,op,ty,pos,af,some gd⟩) 0 fr) Γ g)
  (h:GO P ol.toArray Q r ((i,g,fr)::bm) (bM fr d g) Γ):GO P ol.toArray Q (.q i r) bm fr Γ :=
 GO.yq hi (YQ.t hi (rj hv hc) hy) h
theorem OPt {c:Bool} (hi:lE ol i=some ⟨d,op,ty,pos,af,some gd⟩) (hv:pQ ol (dx (Oper.looksAt ol.toArray ⟨d,op,ty,pos,af,some gd⟩) 0 fr) gd.1=some (some c)) (hc:c=gd.2) (hy:∀ Γ,YG P op (dx (Oper.looksAt ol.toArray ⟨d,op,ty,pos,af,some gd⟩) 0 fr) Γ g)
  (h:GO P ol.toArray Q r bm (bM fr d g) Γ):GO P ol.toArray Q (.q i r) bm fr Γ :=
 GO.yp hi (fun Γ=>YQ.t hi (rj hv hc) (hy Γ)) h
theorem ONf {c:Bool} (hi:lE ol i=some ⟨d,op,ty,pos,af,some gd⟩) (hv:pQ ol (dx (Oper.looksAt ol.toArray ⟨d,op,ty,pos,af,some gd⟩) 0 fr) gd.1=some (some c)) (hc:c=!gd.2) (h:GO P ol.toArray Q r bm (bM fr d (.v undef)) Γ):GO P ol.toArray Q (.q i r) bm fr Γ :=
 GO.yp hi (fun Γ=>YQ.f hi (r6 hv hc)) h
theorem ONu (hi:lE ol i=some ⟨d,op,ty,pos,af,some gd⟩) (hv:pQ ol (dx (Oper.looksAt ol.toArray ⟨d,op,ty,pos,af,some gd⟩) 0 fr) gd.1=some none) (h:GO P ol.toArray Q r bm (bM fr d (.v undef)) Γ):GO P ol.toArray Q (.q i r) bm fr Γ :=
 GO.yp hi (fun Γ=>YQ.f hi (W4 hv)) h
theorem Lm:∀ (fr:List GV) (ts:List Nat) (k t:Nat),k+t∈ts->cP (dx ts k fr) t=cP fr t
 | [],_,_,_,_=>rfl
 | g::fr,ts,k,0,h=>by
  have hc:ts.contains k=true:=dz.2 zfx;simp only [dx,hc,cP]
 | g::fr,ts,k,t+1,h=>by
  simp only [dx,cP];exact Lm fr ts (k+1) t zgs
theorem xQ {o:Oper} {ops:Array Oper} {x:Operand} (h:x∈o.op.operands.toList):bf (dx (o.looksAt ops) 0 fr) x=bf fr x:=by
 cases x with
 | tmp t =>
  refine Lm fr _ 0 t ?_;rw [ed];refine List.mem_append_left _ (List.mem_filterMap.2 ⟨.tmp t,h,rfl⟩)
 | _=>rfl
theorem OPm {x:Operand} (hi:lE ol i=some ⟨d,.move x,ty,pos,af,none⟩) (h:GO P ol.toArray Q r bm (bM fr d (bf fr x)) Γ):GO P ol.toArray Q (.q i r) bm fr Γ :=
 OP hi (fun Γ=>by
  have:=YG.mv (P:=P) (x:=x) (Γ:=Γ) (fr:=dx (Oper.looksAt ol.toArray ⟨d,.move x,ty,pos,af,none⟩) 0 fr)
  rw [xQ zfZ] at this;exact this) h
theorem OPa {x:Operand} (hi:lE ol i=some ⟨d,.assign x,ty,pos,af,none⟩) (h:GO P ol.toArray Q r bm (bM fr d (bf fr x)) Γ):GO P ol.toArray Q (.q i r) bm fr Γ :=
 OP hi (fun Γ=>by
  have:=YG.mq (P:=P) (x:=x) (Γ:=Γ) (fr:=dx (Oper.looksAt ol.toArray ⟨d,.assign x,ty,pos,af,none⟩) 0 fr)
  rw [xQ zfZ] at this;exact this) h
theorem aav {x:Operand} {c:Bool} (hi:lE ol i=some ⟨d,.move x,ty,pos,af,some gd⟩) (hv:pQ ol (dx (Oper.looksAt ol.toArray ⟨d,.move x,ty,pos,af,some gd⟩) 0 fr) gd.1=some (some c)) (hc:c=gd.2) (h:GO P ol.toArray Q r bm (bM fr d (bf fr x)) Γ):GO P ol.toArray Q (.q i r) bm fr Γ :=
 OPt hi hv hc (fun Γ=>by
  have:=YG.mv (P:=P) (x:=x) (Γ:=Γ) (fr:=dx (Oper.looksAt ol.toArray ⟨d,.move x,ty,pos,af,some gd⟩) 0 fr)
  rw [xQ zfZ] at this;exact this) h
theorem aau {c a b:Operand} {t:Bool} (hi:lE ol i=some ⟨d,.pick c a b,ty,pos,af,none⟩) (hc:bf (dx (Oper.looksAt ol.toArray ⟨d,.pick c a b,ty,pos,af,none⟩) 0 fr) c=.v (.bool t)) (ht:t=true) (h:GO P ol.toArray Q r bm (bM fr d (bf fr a)) Γ):GO P ol.toArray Q (.q i r) bm fr Γ :=
 OP hi (fun Γ=>by
  have:=YG.UG (P:=P) (Γ:=Γ) (a:=a) (b:=b) hc ht
  rw [xQ zfZ] at this;exact this) h
theorem aat {c a b:Operand} {t:Bool} (hi:lE ol i=some ⟨d,.pick c a b,ty,pos,af,none⟩) (hc:bf (dx (Oper.looksAt ol.toArray ⟨d,.pick c a b,ty,pos,af,none⟩) 0 fr) c=.v (.bool t)) (ht:t=false) (h:GO P ol.toArray Q r bm (bM fr d (bf fr b)) Γ):GO P ol.toArray Q (.q i r) bm fr Γ :=
 OP hi (fun Γ=>by
  have:=YG.UF (P:=P) (Γ:=Γ) (a:=a) (b:=b) hc ht
  rw [xQ zfZ] at this;exact this) h
inductive da (P:Program) (ops:Array Oper) (i:Nat) (aV:List Ob):mY->mY->Prop
 | n:da P ops i aV [] []
 | w {j:Nat} {g:GV} {qO:List GV} {bm eD:mY} (hw:waits ops i j=true) (h:da P ops i aV bm eD):da P ops i aV ((j,g,qO)::bm) eD
 | y {j:Nat} {g:GV} {qO:List GV} {bm eD:mY} (hy:YQ P ops j g qO aV) (h:da P ops i aV bm eD):da P ops i aV ((j,g,qO)::bm) ((j,g,qO)::eD)
theorem wP {ops:Array Oper} {q p:Nat × GV × List GV} (h:p∈stay ops i (q::bm)):(p=q/\waits ops i q.1=false)\/p∈stay ops i bm:=by
 simp only [stay,mem_filter] at h |-
 rcases eF h.1 with he | jJ
 ·subst he;exact .inl ⟨rfl,by simpa using h.2⟩
 ·exact .inr ⟨jJ,h.2⟩
theorem da.spec {ops:Array Oper} {aV:List Ob} {eD:mY} (h:da P ops i aV bm eD):(∀ p∈stay ops i bm,YQ P ops p.1 p.2.1 p.2.2 aV)/\∀ p∈stay ops i bm,p∈eD:=by
 induction h with
 | n=>exact ⟨fun p hp=>(by cases hp),fun p hp=>(by cases hp)⟩
 | w hw h ih =>
  refine ⟨fun p hp=>?_,fun p hp=>?_⟩
  ·rcases wP hp with ⟨_,X⟩ | jJ
   ·simp only at X;rw [hw] at X;cases X
   ·exact ih.1 p jJ
  ·rcases wP hp with ⟨_,X⟩ | jJ
   ·simp only at X;rw [hw] at X;cases X
   ·exact ih.2 p jJ
 | y hy h ih =>
  refine ⟨fun p hp=>?_,fun p hp=>?_⟩
  ·rcases wP hp with ⟨he,_⟩ | jJ
   ·subst he;exact hy
   ·exact ih.1 p jJ
  ·rcases wP hp with ⟨he,_⟩ | jJ
   ·subst he;exact mem_cons_self
   ·exact dm _ (ih.2 p jJ)
def WQ (fr:List GV):Option Tmp->Bool
 | none=>true
 | some t=>ku fr t
def dJ (P:Program) (Q:List GV->List Ob->Prop) (ol:List Oper) (i:Nat) (r:Ot) (bm:mY) (fr:List GV) (d:Option Tmp) (cX:List GV) (aV:List Ob):Prop :=
 ∃ g eD,cX=bM fr d g/\da P ol.toArray i aV bm eD/\GO P ol.toArray Q r eD (bM fr d g) aV
theorem GA.of {o:Oper} {Kt:GV->List Ob->Prop} {R:List GV->List Ob->Prop} {ops:Array Oper} (hg:o.guard=none) (hd:WQ fr o.dst=true) (hR:∀ cX aV,R cX aV->∃ g,cX=bM fr o.dst g/\Kt g aV) (h:GL P Γ.length ops (bg R (fun _ _ _=>False)) [o] fr Γ):GA P o Kt fr Γ:=fun B K β w l hI hF=>by
 have D:=h (cur K β Γ w) K β w l rfl hI.here hF;obtain ⟨d,op,ty,pos,af,gd⟩:=o;simp only at hg;subst hg;simp only at D hd;unfold WL wpList at D;rw [ae (by rfl)] at D
 rcases D with D | ⟨_,a0,w0,hf⟩
 ·rw [<-pK];refine Y5 D (fun c a w' hf=>?_) (fun a w' hf=>?_) ?_ ?_
  ·obtain ⟨l',_,_,_,_,_,_,_,hq⟩:=hf;exact hq
  ·obtain ⟨l',_,_,_,_,_,_,_,hq⟩:=hf;exact hq
  ·rintro v w' ⟨l',hl,K',bR,cX,aV,bA,xz,hq⟩;obtain ⟨g,rfl,hk⟩:=hR cX aV hq;rw [rA] at hl
   have kG:put l d v=l':=by
    have:=congrArg (fun a:Act=>a.tmps.toList) hl;simpa [act] using this
   subst kG;refine ⟨K',bR,g,aV,bA.kle,bA.ble,hI.Qr bA,fun OV l2 X=>?_,hk⟩
   cases d with
   | none=>exact X
   | some t =>
    refine X.fT t ?_;have hv:=xz.nth t;have h3:nth (put l (some t) v) t=v:=uZ (oW hF hd) v
    have h4:cP (bM fr (some t) g) t=g:=by
     have gen:∀ (fr:List GV) (t:Nat),ku fr t=true->cP (bQ fr t g) t=g:=by
      intro fr
      induction fr with
      | nil=>intro t h;cases h
      | cons x fr ih=>intro t h;cases t with | zero=>rfl | succ t=>exact ih t h
     exact gen fr t hd
    rw [h3,h4] at hv;exact hv
  ·rintro d' w' ⟨l',hl,_⟩;have:=congrArg (fun a:Act=>a.defers) hl
   cases d <;> simp [act,Act.put] at this
 ·obtain ⟨l',_,_,_,_,_,_,_,hq⟩:=hf;exact hq.elim
theorem dJ.kt {cX:List GV} {aV:List Ob} (h:dJ P Q ol i r bm fr d cX aV):∃ g,cX=bM fr d g/\((∀ p∈stay ol.toArray i bm,YQ P ol.toArray p.1 p.2.1 p.2.2 aV)/\GO P ol.toArray Q r (stay ol.toArray i bm) (bM fr d g) aV):=by
 obtain ⟨g,eD,D,X,h3⟩:=h;obtain ⟨h4,h5⟩:=X.spec;exact ⟨g,D,h4,GO.more r _ _ _ _ (fun p hp=>.inl (h5 p hp)) h3⟩
theorem OA (hi:lE ol i=some ⟨d,op,ty,pos,af,none⟩) (hd:WQ fr d=true) (h:GL P Γ.length ol.toArray (bg (dJ P Q ol i r bm fr d) (fun _ _ _=>False)) [⟨d,op,ty,pos,af,none⟩] fr Γ):GO P ol.toArray Q (.a i r) bm fr Γ:=by
 refine ⟨_,true,sU hi,rfl,?_⟩
 exact (GA.of (o:=⟨d,op,ty,pos,af,none⟩) rfl hd (fun cX aV hq=>dJ.kt hq) h).mono fun g aV ⟨D,X⟩=>⟨D,by rw [xt hi];exact X⟩
theorem NS {c:Bool} (hi:lE ol i=some ⟨d,op,ty,pos,af,some gd⟩) (hd:WQ fr d=true) (hv:pQ ol fr gd.1=some (some c)) (hc:c=gd.2) (h:GL P Γ.length ol.toArray (bg (dJ P Q ol i r bm fr d) (fun _ _ _=>False)) [⟨d,op,ty,pos,af,none⟩] fr Γ):GO P ol.toArray Q (.a i r) bm fr Γ:=by
 refine ⟨_,true,sU hi,rj hv hc,?_⟩
 have:=(GA.of (o:=⟨d,op,ty,pos,af,none⟩) rfl hd (fun cX aV hq=>dJ.kt hq) h).mono (GX:=fun g aV=>(∀ p∈stay ol.toArray i bm,YQ P ol.toArray p.1 p.2.1 p.2.2 aV)/\GO P ol.toArray Q r (stay ol.toArray i bm) (bM fr (nc ol.toArray i) g) aV) fun g aV ⟨D,X⟩=>⟨D,by rw [xt hi];exact X⟩
 exact this
theorem OAf {c:Bool} {eD:mY} (hi:lE ol i=some ⟨d,op,ty,pos,af,some gd⟩) (hv:pQ ol fr gd.1=some (some c)) (hc:c=!gd.2) (hs:da P ol.toArray i Γ bm eD) (h:GO P ol.toArray Q r eD (bM fr d (.v undef)) Γ):GO P ol.toArray Q (.a i r) bm fr Γ :=
 ⟨_,false,sU hi,r6 hv hc,hs.spec.1,by rw [xt hi];exact GO.more r _ _ _ _ (fun p hp=>.inl (hs.spec.2 p hp)) h⟩
theorem OAu {eD:mY} (hi:lE ol i=some ⟨d,op,ty,pos,af,some gd⟩) (hv:pQ ol fr gd.1=some none) (hs:da P ol.toArray i Γ bm eD) (h:GO P ol.toArray Q r eD (bM fr d (.v undef)) Γ):GO P ol.toArray Q (.a i r) bm fr Γ :=
 ⟨_,false,sU hi,W4 hv,hs.spec.1,by rw [xt hi];exact GO.more r _ _ _ _ (fun p hp=>.inl (hs.spec.2 p hp)) h⟩
theorem GO.nil (h:Q fr Γ):GO P ol.toArray Q .nil bm fr Γ:=h
theorem dJ.mk {eD:mY} (hs:da P ol.toArray i Γ bm eD) {qO:List GV} (h:GO P ol.toArray Q r eD (bM qO d g) Γ):dJ P Q ol i r bm qO d (bM qO d g) Γ:=⟨g,eD,rfl,hs,h⟩
theorem lk {ops:Array Oper} {cX:List GV} {aV:List Ob} (D:fr=cX) (X:Γ=aV) (h:GO P ops Q r bm cX aV):GO P ops Q r bm fr Γ:=by subst D;subst X;exact h
theorem GON {ops:Array Oper} {cX:List GV} (D:fr=cX) (h:GO P ops Q r bm cX Γ):GO P ops Q r bm fr Γ:=by subst D;exact h
end
theorem GW.range {P:Program} {m:Nat} {Q:dW} {fr:List GV} {Γ:List Ob} {B C r1 r2:Nat} {body:Code} {tb ti tn ta:Tmp} {T1 T2 T3 T4 T5 T6 T7:TypeId} {p1 p2 p3:String} {a1 a2 a3:Array Edge} (n:Nat) (acI:Nat->List GV->List Ob->Prop)
  (h0:Br m (acI 0) fr Γ) (hn:n<=1099511627776)
  (hI:∀ k fr Γ,acI k fr Γ->cP fr ti=.v (ii k)/\cP fr tn=.v (ii n)/\ku fr tb=true)
  (ZB:∀ k fr Γ,k < n->acI k fr Γ->GW P m body (bj C (bg (fun cX aV=>cP cX ti=.v (ii k)/\ku cX ta=true/\Br m (acI (k+1)) (bQ (bQ cX ta (.v (ii ((k+1:Nat):Int)))) ti (.v (ii ((k+1:Nat):Int)))) aV) (bj B Q))) (bQ fr tb (.v (.bool true))) Γ)
  (rm:∀ fr Γ,acI n fr Γ->Q .normal (bQ fr tb (.v (.bool false))) Γ) :
  GW P m (.loop (.seq (.region r1 [(⟨some tb,.binOp .lss T1 (.tmp ti) (.tmp tn) T2,T3,p1,a1,none⟩:Oper)].toArray false) (.seq (.cond (.tmp tb) .skip (.exit B))
   (.seq (.block C body) (.region r2 [(⟨some ta,.binOp .add T4 (.tmp ti) (.const (.int .i64 1)) T5,T6,p2,a2,none⟩:Oper),⟨some ti,.move (.tmp ta),T7,p3,a3,none⟩].toArray false))))) (bj B Q) fr Γ:=by
 have wv:∀ (fr:List GV) (t:Nat) (g:GV),ku fr t=true->cP (bQ fr t g) t=g:=by
  intro fr
  induction fr with
  | nil=>intro t g h;cases h
  | cons x fr ih=>intro t g h;cases t with | zero=>rfl | succ t=>exact ih t g h
 refine GW.loop (fun k:Nat=>n - k) (fun k fr Γ=>k<=n/\acI k fr Γ) 0 ?_ ?_
 ·obtain ⟨cX,aV,hw,h⟩:=h0;exact ⟨cX,aV,hw,aX _,h⟩
 rintro k fr Γ ⟨hk,hi⟩;obtain ⟨D,X,h3⟩:=hI k fr Γ hi;refine GW.seq (GW.region (GL.q (YG.go (v:=.bool (decide ((k:Int) < (n:Int)))) ?_) (GL.nil (bh ?_))))
 ·simp only [Xa,Xw.go,bf,D,X,Ej,Ms,ii,Nq,Mt]
 by_cases au:k < n
 ·have hd:decide ((k:Int) < (n:Int))=true:=by simpa using au
  simp only [bM,hd];refine GW.seq (NO (wv fr tb _ h3) rfl (GW.skip (bh (GW.seq (GW.block ?_)))));refine GW.mono (ZB k fr Γ au hi) ?_;intro e cX aV hq;have key:∀ cX aV,(cP cX ti=.v (ii k)/\ku cX ta=true/\Br m (acI (k+1)) (bQ (bQ cX ta (.v (ii ((k+1:Nat):Int)))) ti (.v (ii ((k+1:Nat):Int)))) aV) ->
    GW P m (.region r2 [(⟨some ta,.binOp .add T4 (.tmp ti) (.const (.int .i64 1)) T5,T6,p2,a2,none⟩:Oper),⟨some ti,.move (.tmp ta),T7,p3,a3,none⟩].toArray false) (bg (fun cX aV=>∃ y:Nat,Br m (fun fr Γ=>y<=n/\acI y fr Γ) cX aV/\n - y < n - k) (bj B Q)) cX aV:=by
   rintro cX aV ⟨h5,h6,OV,LW,hw,h7⟩;refine GW.region (GL.q (YG.kB (a:=k) h5 rfl zfw) (GL.q YG.mv (GL.nil (bh ⟨k+1,⟨OV,LW,?_,au,h7⟩,by omega⟩))));have h8:bf (bQ cX ta (.v (ii ((k+1:Nat):Int)))) (.tmp ta)=.v (ii ((k+1:Nat):Int)):=wv cX ta _ h6;simp only [bM,h8];exact hw
  cases e with
  | normal=>exact key cX aV hq
  | exit id =>
   simp only [bj] at hq |-;split <;> rename_i hh
   ·rw [ae hh] at hq;exact key cX aV hq
   ·rw [ab hh] at hq;exact hq
  | goto _=>exact hq
  | ret=>exact hq
  | panic _=>exact hq
  | outgrown=>exact hq
 ·have uD:k=n:=by omega
  have hd:decide ((k:Int) < (n:Int))=false:=by simpa using au
  simp only [bM,hd];refine GW.seq (NN (wv fr tb _ h3) rfl (GW.exit (Hq (Hq (Kx ?_)))));subst uD;exact rm fr Γ hi
def oI (g g':GV):Prop:=∀ K β x,Rel K β x g->Rel K β x g'
def mW (gs hs:List GV):Prop:=∀ K β vs,bs K β vs gs->bs K β vs hs
theorem oI.refl {g:GV}:oI g g:=fun _ _ _ h=>h
theorem oI.U {g:GV}:oI g .U:=fun _ _ _ _=>.U _
theorem oI.nil {k:Nat}:oI (.v (.slice none 0 0)) (.sl k []):=fun K β x h=>by
 rw [Rel.eE h];exact .sl0 _ _ _
theorem mW.nil:mW [] []:=fun _ _ _ h=>h
theorem mW.refl {gs:List GV}:mW gs gs:=fun _ _ _ h=>h
theorem mW.cons {g h:GV} {gs hs:List GV} (D:oI g h) (X:mW gs hs):mW (g::gs) (h::hs):=fun K β vs hv=>by
 cases vs with
 | nil=>have:=hv.1;simp at this
 | cons v vs=>obtain ⟨a,b⟩:=hv.qd;exact .cons (D K β v a) (X K β vs b)
theorem oI.agg {gs hs:List GV} (h:mW gs hs):oI (.agg gs) (.agg hs):=fun K β x hx=>by
 cases hx with
 | agg vs _ hl h'=>obtain ⟨a,b⟩:=h K β vs ⟨hl,h'⟩;exact .agg vs hs a b
theorem oI.tup {gs hs:List GV} (h:mW gs hs):oI (.tup gs) (.tup hs):=fun K β x hx=>by
 cases hx with
 | tup vs _ hl h'=>obtain ⟨a,b⟩:=h K β vs ⟨hl,h'⟩;exact .tup vs hs a b
inductive Wt:List GV->List GV->Prop
 | nil:Wt [] []
 | cons {f g:GV} {fs gs:List GV} (h:oI f g) (t:Wt fs gs):Wt (f::fs) (g::gs)
section
variable {P:Program} {m:Nat} {Q:dW} {fr:List GV} {Γ:List Ob} {ops:Array Oper} {rest:List Oper} {d:Option Tmp} {op:Op} {ty:TypeId} {pos:String} {af:Array Edge}
theorem Wk.cells (i:Nat) {E:TypeId} {cs ds:List GV} (hi:Γ[i]?=some (.box E cs)) (h:mW cs ds):Wk m fr Γ fr (oset Γ i (.box E ds)):=fun B K β w l _ hI hF=>by
 rw [bK];refine ⟨K,β,⟨hI.ext,hI.kle,hI.ble,hI.loc,hI.fz,fun j x hj=>?_,fun j hj=>hI.out j zfI,hI.dis,hI.own,hI.kn,hI.tab⟩,hF⟩;rw [eG] at hj;split at hj
 ·rename_i fj;split at hj
  ·cases hj;subst fj
   obtain ⟨b,vs,D,X,h3,h4⟩:=hI.ob i _ hi;exact ⟨b,vs,D,X,h K β vs h3,h4⟩
  ·cases hj
 ·exact hI.ob j x hj
theorem GL.Mf {f:FuncId} [hf:aP P f] (aS:List Nat) {args:List Operand} {qz:Array TypeId} {gs:List GV} {jC:List Ob} {R:GV->List Ob->Prop} (hc:GC P f gs jC R) (ha:mW (args.map (bf fr)) (nU (cH aS Γ.length) gs)) (eU:kY aS Γ.length=true)
  (bD:seen (cH aS Γ.length) Γ aS jC) (h:∀ g aV,R g aV->aS.length<=aV.length/\GL P m ops Q rest (bM fr d (eI (cH aS Γ.length) g)) (fo Γ aS (aV.map (Ob.eI (cH aS Γ.length))))) :
  GL P m ops Q (⟨d,.call ⟨.value (.func f),args.toArray,qz⟩,ty,pos,af,none⟩::rest) fr Γ :=
 GL.calls (vs:=fun l=>args.map (ev l)) (fun K β w l hF=>⟨ha K β _ (hF.args args),by simp [execOp,resolve,ev,Deferred.ofValue,invoke,qa]⟩) eU bD hc h
theorem GL.Zl {f:FuncId} [hf:aP P f] (aS:List Nat) {args:List Operand} {qz:Array TypeId} {gs:List GV} {jC tE:List Ob} {g:GV} (hc:GF P f gs jC g tE) (ha:mW (args.map (bf fr)) (nU (cH aS Γ.length) gs)) (eU:kY aS Γ.length=true)
  (bD:seen (cH aS Γ.length) Γ aS jC) (hl:Nat.ble aS.length tE.length=true) (h:GL P m ops Q rest (bM fr d (eI (cH aS Γ.length) g)) (fo Γ aS (tE.map (Ob.eI (cH aS Γ.length))))) :
  GL P m ops Q (⟨d,.call ⟨.value (.func f),args.toArray,qz⟩,ty,pos,af,none⟩::rest) fr Γ :=
 GL.Mf aS hc ha eU bD fun g' aV ⟨D,X⟩=>by subst D;subst X;exact ⟨by simpa using hl,h⟩
end
section
variable {P:Program} {fr:List GV} {Γ:List Ob} {g:GV}
theorem K.bin {o:BinOp} {t t':TypeId} {x y:Operand} (h:YG P (.binOp o t x y t') fr Γ g):YG P (.binOp o t x y t') fr Γ g:=h
theorem K.ld {t:TypeId} {x:Operand} (h:YG P (.load t x) fr Γ g):YG P (.load t x) fr Γ g:=h
theorem K.WX {t:TypeId} {x:Operand} {i:Nat} (h:YG P (.fieldAddr t x i) fr Γ g):YG P (.fieldAddr t x i) fr Γ g:=h
theorem K.len {t:TypeId} {x:Operand} (h:YG P (.call ⟨.builtin .len,#[x],#[t]⟩) fr Γ g):YG P (.call ⟨.builtin .len,#[x],#[t]⟩) fr Γ g:=h
theorem K.nck {x:Operand} (h:YG P (.nilCheck x) fr Γ g):YG P (.nilCheck x) fr Γ g:=h
theorem K.idx {t:TypeId} {x y:Operand} (h:YG P (.indexAddr t x y) fr Γ g):YG P (.indexAddr t x y) fr Γ g:=h
theorem K.pick {a b c:Operand} (h:YG P (.pick a b c) fr Γ g):YG P (.pick a b c) fr Γ g:=h
theorem K.qc {t:TypeId} {x:Operand} {a b c:Option Operand} (h:YG P (.slice t x a b c) fr Γ g):YG P (.slice t x a b c) fr Γ g:=h
theorem K.Ex {f:Fn} {a b:Array Operand} (h:YG P (.makeFunc f a b) fr Γ g):YG P (.makeFunc f a b) fr Γ g:=h
end
section
variable {P:Program} {fn:Func} {m:Nat} {fr:List GV} {Γ aV:List Ob} {e:Exit} {g:GV}
theorem zQ {R:GV->List Ob->Prop} (h:vl P fn m (fun x Δ=>∃ y,oI x y/\R y Δ) e fr Γ):vl P fn m R e fr Γ :=
 ⟨h.1,fun B K β w l hm hI hF=>by
  obtain ⟨v,K',bR,x,Δ,D,X,h3,y,h4,h5⟩:=h.2 B K β w l hm hI hF
  exact ⟨v,K',bR,y,Δ,D,X,h4 _ _ _ h3,h5⟩⟩
end
end Go.Xg
