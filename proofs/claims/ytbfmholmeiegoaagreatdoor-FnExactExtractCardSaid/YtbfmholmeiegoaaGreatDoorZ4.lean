/- Part 4 of proofs that are told in their last texts. -/
import Derived.WalkKit
import Derived.KernelRfl
import Derived.Test.YtbfmholmeiegoaaGreatDoorZ1
import Derived.Orders
open List (all_cons flatten_cons getElem?_drop getElem?_take length_cons map_nil map_toArray mem_cons_self mem_filter size_toArray)
set_option linter.unusedVariables false
set_option linter.unusedSimpArgs false
set_option maxRecDepth 100000
namespace Go.Xw
open Go.RowKit
def nth:List Value->Nat->Value
 | [],_=>undef
 | v::_,0=>v
 | _::l,n+1=>nth l n
def fS:List Value->Nat->Value->List Value
 | [],_,_=>[]
 | _::l,0,v=>v::l
 | x::l,n+1,v=>x::fS l n v
def ev (l:List Value):Operand->Value
 | .tmp t=>nth l t
 | .const v=>v
 | .global g=>.pointer (some ⟨g,0,none⟩)
 | .func f=>.func (.func f) #[] #[]
def put (l:List Value) (d:Option Tmp) (v:Value):List Value :=
 match d with | some d=>fS l d v | none=>l
theorem ku (l:List Value) (t:Nat):l.toArray.getD t undef=nth l t:=by
 induction l generalizing t with
 | nil=>simp [nth]
 | cons x l ih =>
  cases t with
  | zero=>simp [nth]
  | succ t=>rw [nth,<-ih];simp [Array.getD]
theorem AB (l:List Value) (t:Nat) (v:Value):l.toArray.setIfInBounds t v=(fS l t v).toArray:=by
 have h:∀ (l:List Value) t,fS l t v=l.set t v:=by
  intro l
  induction l with
  | nil=>intro t;rfl
  | cons x l ih=>intro t;cases t with | zero=>rfl | succ t=>simp [fS,ih]
 rw [h];simp
def act (l:List Value):Act:=⟨l.toArray,[]⟩
theorem oZ (l:List Value):(act l).eval=ev l:=by
 funext x;cases x <;> first | rfl | exact ku l _
theorem rb (l:List Value) (d:Option Tmp) (v:Value):(act l).put d v=act (put l d v):=by
 cases d with
 | none=>rfl
 | some d=>simp only [act,Act.put,put];rw [AB]
abbrev nr:=Exit->List Value->World->Prop
def lift (Q:nr):Exit->Act->World->Prop:=fun e a w=>∃ l,a=act l/\Q e l w
def W (P:Program) (c:Code) (Q:nr) (l:List Value) (w:World):Prop:=c.wp P (lift Q) (act l) w
def WL (P:Program) (ops:Array Oper) (Q:nr) (rest:List Oper) (l:List Value) (w:World):Prop :=
 wpList P ops (lift Q) rest (act l) w
def thn (next:List Value->World->Prop) (Q:nr):nr
 | .normal,l,w=>next l w
 | e,l,w=>Q e l w
def Yr (id:Nat) (Q:nr):nr
 | .exit Dq,l,w=>if Dq=id then Q .normal l w else Q (.exit Dq) l w
 | e,l,w=>Q e l w
section
variable {P:Program} {Q:nr} {l:List Value} {w:World} {ops:Array Oper} {rest:List Oper}
theorem W.seq {x y:Code} (h:W P x (thn (W P y Q) Q) l w):W P (.seq x y) Q l w:=by
 refine wp_seq (wp_mono h ?_);rintro e a w ⟨l,rfl,hq⟩
 cases e <;> first | exact hq | exact ⟨l,rfl,hq⟩
theorem W.skip (h:Q .normal l w):W P .skip Q l w:=wp_skip ⟨l,rfl,h⟩
theorem W.exit {n:Nat} (h:Q (.exit n) l w):W P (.exit n) Q l w:=wp_exit ⟨l,rfl,h⟩
theorem W.ret (h:Q .ret l w):W P .ret Q l w:=wp_ret ⟨l,rfl,h⟩
theorem W.block {id:Nat} {c:Code} (h:W P c (Yr id Q) l w):W P (.block id c) Q l w:=by
 refine wp_block (wp_mono h ?_);rintro e a w ⟨l,rfl,hq⟩
 cases e with
 | exit Dq =>
  simp only [Yr] at hq;simp only [Exit.inBlock];split <;> rename_i hh
  ·rw [ab hh] at hq;exact zd1
  ·rw [F hh] at hq;exact zd1
 | normal=>exact zd1
 | goto _=>exact zd1
 | ret=>exact zd1
 | panic _=>exact zd1
 | outgrown=>exact zd1
theorem W.cond {c:Operand} {x y:Code} {t:Bool} (hc:ev l c=.bool t) (ht:t=true->W P x Q l w) (hf:t=false->W P y Q l w):W P (.cond c x y) Q l w:=by
 refine wp_cond_split (t:=t) (by rw [oZ];exact hc) ht hf
theorem W.mono {c:Code} {Q':nr} (h:W P c Q l w) (hq:∀ e l w,Q e l w->Q' e l w):W P c Q' l w :=
 wp_mono h fun _ _ _ ⟨l,ha,q⟩=>⟨l,ha,hq _ _ _ q⟩
theorem W.loop {c:Code} {α:Type} (μ:α->Nat) (acK:α->List Value->World->Prop) (x:α) (h0:acK x l w)
  (round:∀ x l w,acK x l w->W P c (thn (fun l' w'=>∃ y,acK y l' w'/\μ y < μ x) Q) l w):W P (.loop c) Q l w:=by
 have key:∀ n x l w,μ x=n->acK x l w->∀ (b:Frame) (k:List Item) (cs:List Frame),
   ∃ e a' w',lift Q e a' w'/\Arrives P (lone (b.at (act l) (.code c::.inLoop c::k)) cs w) b k cs e a' w':=by
  intro n
  induction n using Nat.strongRecOn with
  | _ n ih =>
   intro x l w hn hI b k cs;obtain ⟨e,ace,EV,hq,zI⟩:=round x l w hI b (.inLoop c::k) cs;obtain ⟨Eu,rfl,hq⟩:=hq
   cases e with
   | normal =>
    obtain ⟨y,ZJ,aj⟩:=hq;obtain ⟨aaI,aaG,ab8,ZT,VH⟩:=ih (μ y) (hn ▸ aj) y Eu EV rfl ZJ b k cs;exact ⟨aaI,aaG,ab8,ZT,.of_steps (Steps.trans zI (.one step_inLoop)) VH⟩
   | exit id=>exact zaz
   | goto _=>exact zaz
   | ret=>exact zaz
   | panic ch=>exact zaz
   | outgrown=>exact zaz
 intro b k cs;obtain ⟨e,a',w',hq,zI⟩:=key _ x l w rfl h0 b k cs;exact ⟨e,a',w',hq,.of_steps (.one step_loop) zI⟩
theorem W.region {id:Nat} {ol:List Oper} (h:WL P ol.toArray Q ol l w):W P (.region id ol.toArray false) Q l w :=
 wp_region_lit h
theorem WL.nil (h:Q .normal l w):WL P ops Q [] l w:=⟨l,rfl,h⟩
theorem WL.val {d:Option Tmp} {op:Op} {ty:TypeId} {pos:String} {af:Array Edge} {v:Value} {w':World}
  (hr:(execOp (ev l) ⟨d,op,ty,pos,af,none⟩).run P w=.ok (.value v) w')
  (h:WL P ops Q rest (put l d v) w'):WL P ops Q (⟨d,op,ty,pos,af,none⟩::rest) l w:=by
 refine wpList_plain rfl fun K hK=>?_
 simp only [Oper.wp,oZ,hr,Oper.upon_value,rb];exact hK _ _ h
theorem WL.skp {d:Option Tmp} {op:Op} {ty:TypeId} {pos:String} {af:Array Edge} {w':World}
  (hr:(execOp (ev l) ⟨d,op,ty,pos,af,none⟩).run P w=.ok .skip w')
  (h:WL P ops Q rest (put l d undef) w'):WL P ops Q (⟨d,op,ty,pos,af,none⟩::rest) l w:=by
 refine wpList_plain rfl fun K hK=>?_
 simp only [Oper.wp,oZ,hr,Oper.upon_skip,rb];exact hK _ _ h
theorem WL.gt {d:Option Tmp} {op:Op} {ty:TypeId} {pos:String} {af:Array Edge} {g:Option (Nat × Bool)}
  (hw:Region.wanted ⟨d,op,ty,pos,af,g⟩ (yielded ops (act l).tmps)=true)
  (h:WL P ops Q (⟨d,op,ty,pos,af,none⟩::rest) l w):WL P ops Q (⟨d,op,ty,pos,af,g⟩::rest) l w:=by
 unfold WL wpList at *;rw [ab hw];rw [ab (by rfl)] at h;exact h
theorem WL.gf {d:Option Tmp} {op:Op} {ty:TypeId} {pos:String} {af:Array Edge} {g:Option (Nat × Bool)}
  (hw:Region.wanted ⟨d,op,ty,pos,af,g⟩ (yielded ops (act l).tmps)=false)
  (h:WL P ops Q rest (put l d undef) w):WL P ops Q (⟨d,op,ty,pos,af,g⟩::rest) l w:=by
 unfold WL wpList;rw [F (by rw [hw];decide)];show wpList P ops (lift Q) rest ((act l).put d undef) w;rw [rb];exact h
end
section
variable {next:List Value->World->Prop} {Q:nr} {l:List Value} {w:World} {id Dq:Nat}
end
structure Ext (S:Nat->Prop) (w w':World):Prop where
 os:w'.os=w.os
 tape:w'.tape=w.tape
 output:w'.output=w.output
 size:w.heap.size<=w'.heap.size
 block:∀ k,k < w.heap.size->¬ S k->w'.heap[k]?=w.heap[k]?
abbrev iD:Nat->Prop:=fun _=>False
theorem Ext.refl {S:Nat->Prop} (w:World):Ext S w w:=⟨rfl,rfl,rfl,aD _,fun _ _ _=>rfl⟩
theorem Ext.trans {S:Nat->Prop} {a b c:World} (h:Ext S a b) (k:Ext S b c):Ext S a c :=
 ⟨k.os.trans h.os,k.tape.trans h.tape,k.output.trans h.output,jO h.size k.size,
  fun i hi hs=>(k.block i (y5 hi h.size) hs).trans (h.block i hi hs)⟩
theorem Ext.step {S0 S:Nat->Prop} {a b c:World} (h:Ext S0 a b) (k:Ext S b c) (hs:∀ j,S j->a.heap.size<=j\/S0 j):Ext S0 a c :=
 ⟨k.os.trans h.os,k.tape.trans h.tape,k.output.trans h.output,jO h.size k.size,
  fun i hi hn=>(k.block i (y5 hi h.size) fun Yk=>by
   rcases hs i Yk with I | I
   ·omega
   ·exact hn I).trans (h.block i hi hn)⟩
theorem Ext.mono {S S':Nat->Prop} {a b:World} (h:Ext S a b) (hs:∀ k,k < a.heap.size->S k->S' k):Ext S' a b :=
 ⟨h.os,h.tape,h.output,h.size,fun i hi hn=>h.block i hi fun x=>hn (hs i hi x)⟩
theorem Ext.blk {S:Nat->Prop} {a b:World} (h:Ext S a b) {k:Nat} {o:Obj} (hv:a.heap[k]?=some o) (hs:¬ S k):b.heap[k]?=some o:=by
 rw [h.block k (by have:=(Array.getElem?_eq_some_iff.1 hv).1;exact this) hs,hv]
theorem ua {w:World} {k:Nat} {o:Obj} (hv:w.heap[k]?=some o):k < w.heap.size:=(Array.getElem?_eq_some_iff.1 hv).1
theorem N6 {w:World} {b o:Nat} {cs:Array Value} {E:TypeId} {fz:Nat × Nat} {v:Value} (hb:w.heap[b]?=some (.cells cs E fz)) (hv:cs[o]?=some v):w.cell? ⟨b,o,none⟩=some v:=by
 rw [cell_of_row w b o cs E fz hb,hv]
theorem Ext.below {a b:World} (h:Ext iD a b):Below a.heap.size a b:=⟨h.os,h.tape,h.output,h.size,fun k hk=>h.block k hk (fun x=>x)⟩
structure vV (w w':World) (b:Nat) (o:Obj):Prop where
 fresh:b=w.heap.size
 size:w'.heap.size=b+1
 blk:w'.heap[b]?=some o
 ext:Ext iD w w'
theorem vV.of (w:World) (o:Obj):vV w (w.alloc o) w.heap.size o :=
 ⟨rfl,by simp,heap_alloc_new w o,⟨rfl,rfl,rfl,by simp,fun k hk _=>Below.heap_alloc _ _ _ hk⟩⟩
def AG:TypeDesc->Bool
 | .struct _=>true
 | .array _ _=>true
 | _=>false
class Ty (P:Program) (t:TypeId) (agg:outParam Bool) (k:outParam Nat):Prop where
 und:(P.underlying t).map AG=some agg
 siz:(P.info? t).map (·.size)=some k
class oP (P:Program) (t:TypeId) (e:outParam TypeId) (k:outParam Nat):Prop where
 und:P.underlying t=some (.slice e)
 siz:(P.info? e).map (·.size)=some k
class rK (P:Program) (t:TypeId):Prop where
 und:P.underlying t=some .string
def Mp (P:Program) (s:TypeId) (i:Nat) (off:Nat) (k:Nat) (agg:Bool):Bool :=
 match P.underlying s with
 | some (.struct fs)=>match fs[i]? with
  | some f=>f.offset==off&&(match P.info? f.type with | some x=>x.size==k | none=>false)&&k != 0&&((P.underlying f.type).map AG==some agg)
  | none=>false
 | _=>false
class ef (P:Program) (s:TypeId) (i:Nat) (off:outParam Nat) (k:outParam Nat) (agg:outParam Bool):Prop where
 is:Mp P s i off k agg=true
section
variable {P:Program} {w:World}
theorem F2 {t:TypeId} {agg:Bool} {k:Nat} [h:Ty P t agg k]:(isAgg t).run P w=.ok agg w:=by
 obtain ⟨hu,_⟩:=h
 cases hd:P.underlying t with
 | none=>simp [hd] at hu
 | some d =>
  rw [hd] at hu;unfold isAgg;rw [Sem.run_bind,run_underlying hd w]
  cases d <;> simp_all [AG]
theorem kj {t:TypeId} {k:Nat} (h:(P.info? t).map (·.size)=some k):(sizeOf t).run P w=.ok k w:=by
 cases hq:P.info? t with
 | none=>simp [hq] at h
 | some i=>simp [hq] at h;simp [sizeOf,typeInfo,hq,h]
theorem rM (b o n:Nat):(⟨b,o,none⟩:Addr).add n=⟨b,o+n,none⟩:=by
 unfold Addr.add;split
 ·rename_i h;subst h;rfl
 ·rfl
theorem Iz {t:TypeId} [h:Ty P t false 1] {a:Addr} {v:Value} (hv:w.cell? a=some v):(loadVar t a).run P w=.ok v w:=by
 unfold loadVar;rw [Sem.run_bind,F2 (agg:=false) (k:=1)];simp [hv]
theorem nH {t:TypeId} {k:Nat} [h:Ty P t true k] {b o:Nat} {vs:List Value} (hl:vs.length=k) (hv:∀ j v,vs[j]?=some v->w.cell? ⟨b,o+j,none⟩=some v) :
  (loadVar t ⟨b,o,none⟩).run P w=.ok (.agg vs.toArray) w:=by
 unfold loadVar;rw [Sem.run_bind,F2 (agg:=true) (k:=k)]
 have hc:(loadCells ⟨b,o,none⟩ k).run P w=.ok vs.toArray w:=by
  rw [<-hl]
  exact run_loadCells_list w _ vs fun j v hj=>by rw [rM];exact hv j v hj
 simp [kj h.siz,hc]
end
def fx (P:Program) (l:List Value) (w:World) (op:Op) (v:Value):Prop :=
 ∀ (d:Option Tmp) (ty:TypeId) (pos:String) (af:Array Edge),(execOp (ev l) ⟨d,op,ty,pos,af,none⟩).run P w=.ok (.value v) w
theorem WL.v {P:Program} {Q:nr} {l:List Value} {w:World} {ops:Array Oper} {rest:List Oper} {d:Option Tmp} {op:Op} {ty:TypeId} {pos:String} {af:Array Edge} {v:Value}
  (hr:fx P l w op v) (h:WL P ops Q rest (put l d v) w):WL P ops Q (⟨d,op,ty,pos,af,none⟩::rest) l w:=WL.val (hr d ty pos af) h
section
variable {P:Program} {l:List Value} {w:World}
theorem R.mv {x:Operand}:fx P l w (.move x) ((ev l x)):=fun d ty pos af=>by simp [execOp]
theorem R.xb {x:Operand}:fx P l w (.assign x) ((ev l x)):=fun d ty pos af=>by simp [execOp]
theorem R.pick {c a b:Operand} {t:Bool} (hc:ev l c=.bool t):fx P l w (.pick c a b) ((if t then ev l a else ev l b)):=fun d ty pos af=>by simp [execOp,hc,asBool]
theorem R.M4 {x:Operand} {a:Addr} (hx:ev l x=.pointer (some a)):fx P l w (.nilCheck x) ((.pointer (some a))):=fun d ty pos af=>by simp [execOp,hx]
theorem R.extract {x:Operand} {i:Nat} {vs:Array Value} {v:Value} (hx:ev l x=.tuple vs) (hv:vs[i]?=some v):fx P l w (.extract x i) (v):=fun d ty pos af=>by simp [execOp,hx,Instr.extract,hv]
theorem R.Ew {fn:Fn} {first cap:Array Operand}:fx P l w (.makeFunc fn first cap) ((.func fn (first.map (ev l)) (cap.map (ev l)))):=fun d ty pos af=>by simp [execOp,Instr.makeFunc]
abbrev ae:=List UInt8
def sv (s:ae):Value:=.string ⟨s.toArray⟩
theorem toList_mk (s:ae):(⟨s.toArray⟩:ByteArray).toList=s:=by
 simp [ByteArray.toList_eq]
theorem xS (s:ae):(⟨s.toArray⟩:ByteArray).size=s.length:=by
 simp [ByteArray.size]
theorem Gx (b:ByteArray):Value.string b=sv b.data.toList:=by
 simp [sv]
theorem N5 (a b:ae):(⟨a.toArray⟩:ByteArray)++⟨b.toArray⟩=⟨(a++b).toArray⟩:=by
 apply ByteArray.ext;simp
theorem extract_mk (s:ae) (i j:Nat):(⟨s.toArray⟩:ByteArray).extract i j=⟨((s.take j).drop i).toArray⟩:=by
 apply ByteArray.ext;simp [ByteArray.data_extract,List.take_drop]
 by_cases h:i<=j
 ·rw [Nat.add_sub_cancel' h]
 ·rw [List.drop_eq_nil_of_le zgb,List.drop_eq_nil_of_le zgb]
abbrev ii (n:Int):Value:=.int .i64 n
theorem ES {n:Int} (I : -9223372036854775808<=n) (M:n<=9223372036854775807):IntKind.i64.wrap n=n:=IntWalk.i64_in _ ⟨I,M⟩
theorem R.SM {x:Operand} {t:TypeId} [hT:rK P t] {s:ae} (hx:ev l x=sv s):fx P l w (.call ⟨.builtin .len,#[x],#[t]⟩) ((ii s.length)):=fun d ty pos af=>by simp [execOp,resolve,invoke,builtin,hx,sv,Builtin.len_,goInt,run_underlying hT.und,xS]
theorem R.MW {x:Operand} {t e:TypeId} {k:Nat} [hT:oP P t e k] {a:Option Addr} {n c:Nat} (hx:ev l x=.slice a n c):fx P l w (.call ⟨.builtin .len,#[x],#[t]⟩) ((ii n)):=fun d ty pos af=>by simp [execOp,resolve,invoke,builtin,hx,Builtin.len_,goInt,run_underlying hT.und]
theorem R.add {x y:Operand} {t t':TypeId} {a b:Int} (hx:ev l x=ii a) (hy:ev l y=ii b) (I : -9223372036854775808<=a+b) (M:a+b<=9223372036854775807):fx P l w (.binOp .add t x y t') ((ii (a+b))):=fun d ty pos af=>by simp [execOp,eqGuard,hx,hy,binOp,Op.intArith,ES I M]
theorem R.sub {x y:Operand} {t t':TypeId} {a b:Int} (hx:ev l x=ii a) (hy:ev l y=ii b) (I : -9223372036854775808<=a - b) (M:a - b<=9223372036854775807):fx P l w (.binOp .sub t x y t') ((ii (a - b))):=fun d ty pos af=>by simp [execOp,eqGuard,hx,hy,binOp,Op.intArith,ES I M]
theorem R.mul {x y:Operand} {t t':TypeId} {a b:Int} (hx:ev l x=ii a) (hy:ev l y=ii b) (I : -9223372036854775808<=a * b) (M:a * b<=9223372036854775807):fx P l w (.binOp .mul t x y t') ((ii (a * b))):=fun d ty pos af=>by simp [execOp,eqGuard,hx,hy,binOp,Op.intArith,ES I M]
theorem R.cat {x y:Operand} {t t':TypeId} {a b:ae} (hx:ev l x=sv a) (hy:ev l y=sv b) (I:a.length+b.length<=9223372036854775807):fx P l w (.binOp .add t x y t') ((sv (a++b))):=fun d ty pos af=>by
  have M:¬ ((((⟨a.toArray⟩:ByteArray).size+(⟨b.toArray⟩:ByteArray).size:Nat):Int) > IntKind.i64.max):=by
   rw [xS,xS];simp [IntKind.max,IntKind.signed,IntKind.bits];omega
  simp only [execOp,eqGuard,hx,hy,binOp,sv,Op.stringOp,F M,N5];simp
theorem R.eq {x y:Operand} {t t':TypeId} {k:IntKind} {a b:Int} (hx:ev l x=.int k a) (hy:ev l y=.int k b):fx P l w (.binOp .eql t x y t') ((.bool (a==b))):=fun d ty pos af=>by simp [execOp,eqGuard,hx,hy,binOp,Op.intCmp]
theorem R.ne {x y:Operand} {t t':TypeId} {k:IntKind} {a b:Int} (hx:ev l x=.int k a) (hy:ev l y=.int k b):fx P l w (.binOp .neq t x y t') ((.bool (a != b))):=fun d ty pos af=>by simp [execOp,eqGuard,hx,hy,binOp,Op.intCmp]
theorem R.lt {x y:Operand} {t t':TypeId} {k:IntKind} {a b:Int} (hx:ev l x=.int k a) (hy:ev l y=.int k b):fx P l w (.binOp .lss t x y t') ((.bool (decide (a < b)))):=fun d ty pos af=>by simp [execOp,eqGuard,hx,hy,binOp,Op.intCmp]
theorem R.le {x y:Operand} {t t':TypeId} {k:IntKind} {a b:Int} (hx:ev l x=.int k a) (hy:ev l y=.int k b):fx P l w (.binOp .leq t x y t') ((.bool (decide (a<=b)))):=fun d ty pos af=>by simp [execOp,eqGuard,hx,hy,binOp,Op.intCmp]
theorem R.gt' {x y:Operand} {t t':TypeId} {k:IntKind} {a b:Int} (hx:ev l x=.int k a) (hy:ev l y=.int k b):fx P l w (.binOp .gtr t x y t') ((.bool (decide (b < a)))):=fun d ty pos af=>by simp [execOp,eqGuard,hx,hy,binOp,Op.intCmp]
theorem R.ge {x y:Operand} {t t':TypeId} {k:IntKind} {a b:Int} (hx:ev l x=.int k a) (hy:ev l y=.int k b):fx P l w (.binOp .geq t x y t') ((.bool (decide (b<=a)))):=fun d ty pos af=>by simp [execOp,eqGuard,hx,hy,binOp,Op.intCmp]
theorem R.G5 {x y:Operand} {t t':TypeId} {a b:ae} (hx:ev l x=sv a) (hy:ev l y=sv b):fx P l w (.binOp .eql t x y t') ((.bool (a==b))):=fun d ty pos af=>by simp only [execOp,eqGuard,hx,hy,binOp,sv,Op.stringOp,toList_mk];simp
theorem R.Ij {x y:Operand} {t t':TypeId} {a b:ae} (hx:ev l x=sv a) (hy:ev l y=sv b):fx P l w (.binOp .neq t x y t') ((.bool (!(a==b)))):=fun d ty pos af=>by simp only [execOp,eqGuard,hx,hy,binOp,sv,Op.stringOp,toList_mk];simp
theorem R.not {x:Operand} {t:TypeId} {b:Bool} (hx:ev l x=.bool b):fx P l w (.unOp .not t x) ((.bool (!b))):=fun d ty pos af=>by simp [execOp,hx,Op.unary]
theorem R.vA {x y:Operand} {t:TypeId} [hT:rK P t] {s:ae} {k:IntKind} {i:Nat} {c:UInt8} (hx:ev l x=sv s) (hy:ev l y=.int k i) (hc:s[i]?=some c):fx P l w (.index t x y) ((.int .u8 c.toNat)):=fun d ty pos af=>by
  have hg:(⟨s.toArray⟩:ByteArray)[i]?=some c:=by
   obtain ⟨hi,hv⟩:=bq hc
   have qy:i < (⟨s.toArray⟩:ByteArray).size:=by rw [xS];exact hi
   rw [getElem?_pos (⟨s.toArray⟩:ByteArray) i qy];simp only [ByteArray.getElem_eq_getElem_data];simpa using hv
  simp [execOp,Instr.index,hx,hy,asIntOf,run_underlying hT.und,sv,hg]
theorem R.Tn {x:Operand} {t:TypeId} [hT:rK P t] {s:ae} {lo hi:Option Operand} {i j:Nat} (hx:ev l x=sv s)
  (iR:match lo with | some y=>∃ k,ev l y=.int k i | none=>i=0) (ow:match hi with | some y=>∃ k,ev l y=.int k j | none=>j=s.length)
  (I:i<=j) (M:j<=s.length):fx P l w (.slice t x lo hi none) ((sv ((s.take j).drop i))):=fun d ty pos af=>by
  have cX:=xS s
  cases lo <;> cases hi <;> simp only at iR ow
  ·subst iR;subst ow;simp [execOp,Instr.sliceAt,Instr.slice,Instr.sliceBounds,hx,sv,run_underlying hT.und,cX,extract_mk]
  ·obtain ⟨k,hk⟩:=ow;subst iR;simp [execOp,Instr.sliceAt,Instr.slice,Instr.sliceBounds,Instr.sliceBound,asIntOf,hx,hk,sv,run_underlying hT.und,cX,extract_mk,M]
  ·obtain ⟨k,hk⟩:=iR;subst ow;simp [execOp,Instr.sliceAt,Instr.slice,Instr.sliceBounds,Instr.sliceBound,asIntOf,hx,hk,sv,run_underlying hT.und,cX,extract_mk,I]
  ·obtain ⟨k,hk⟩:=iR;obtain ⟨k',nz⟩:=ow;simp [execOp,Instr.sliceAt,Instr.slice,Instr.sliceBounds,Instr.sliceBound,asIntOf,hx,hk,nz,sv,run_underlying hT.und,cX,extract_mk,I,M]
theorem R.z6 {x y:Operand} {t e:TypeId} {k:Nat} [hT:oP P t e k] {b o n c:Nat} {kk:IntKind} {i:Nat} (hx:ev l x=.slice (some ⟨b,o,none⟩) n c) (hy:ev l y=.int kk i) (hi:i < n):fx P l w (.indexAddr t x y) ((.pointer (some ⟨b,o+i * k,none⟩))):=fun d ty pos af=>by
  simp [execOp,Instr.indexAt,hx,hy,asIntOf,run_underlying hT.und,hi,kj hT.siz,rM]
theorem R.RW {x:Operand} {s:TypeId} {i off k:Nat} {agg:Bool} [hT:ef P s i off k agg] {b o:Nat} (hx:ev l x=.pointer (some ⟨b,o,none⟩)):fx P l w (.fieldAddr s x i) ((.pointer (some ⟨b,o+off,none⟩))):=fun d ty pos af=>by
  obtain ⟨hT⟩:=hT;unfold Mp at hT;split at hT
  ·rename_i fs hu;split at hT
   ·rename_i f hf;simp only [aH,beq_iff_eq,bne_iff_ne,ne_eq] at hT;obtain ⟨⟨⟨I,M⟩,h3⟩,h4⟩:=hT;split at M
    ·rename_i x hq
     have hs:(P.info? f.type).map (·.size)=some k:=by rw [hq];simpa using M
     simp [execOp,Instr.fieldAt,hx,run_underlying hu,hf,Instr.sureAddr,fieldPlace,kj hs,h3,rM,I]
    ·cases M
   ·cases hT
  ·cases hT
theorem R.ld1 {x:Operand} {t:TypeId} [hT:Ty P t false 1] {a:Addr} {v:Value} (hx:ev l x=.pointer (some a)) (hv:w.cell? a=some v):fx P l w (.load t x) (v):=fun d ty pos af=>by simp [execOp,Instr.loadAt,hx,Instr.sureAddr,Iz hv]
theorem R.ldN {x:Operand} {t:TypeId} {k:Nat} [hT:Ty P t true k] {b o:Nat} {vs:List Value} (hx:ev l x=.pointer (some ⟨b,o,none⟩)) (hl:vs.length=k)
  (hv:∀ j v,vs[j]?=some v->w.cell? ⟨b,o+j,none⟩=some v):fx P l w (.load t x) ((.agg vs.toArray)):=fun d ty pos af=>by simp [execOp,Instr.loadAt,hx,Instr.sureAddr,nH hl hv]
end
def ig (H:Array Obj) (b o:Nat):Option Value :=
 match H[b]? with
 | some (.cells c _ _)=>c[o]?
 | _=>none
theorem gw (w:World) (b o:Nat):w.cell? ⟨b,o,none⟩=ig w.heap b o:=by
 unfold World.cell? ig
 cases w.heap[b]? with
 | none=>rfl
 | some x=>cases x <;> rfl
theorem GY {H:Array Obj} {b o:Nat} {v:Value} (h:ig H b o=some v):b < H.size:=by
 unfold ig at h
 cases hb:H[b]? with
 | none=>exact za5
 | some x=>exact (Array.getElem?_eq_some_iff.1 hb).1
theorem Ext.c {S:Nat->Prop} {w w':World} (hx:Ext S w w') {b o:Nat} {v:Value} (h:ig w.heap b o=some v) (hs:¬ S b):ig w'.heap b o=some v:=by
 unfold ig at *;rw [hx.block b (GY (H:=w.heap) (by unfold ig;exact h)) hs];exact h
theorem yf {H:Array Obj} {b o:Nat} {cs:Array Value} {E:TypeId} {fz:Nat × Nat} {v:Value} (hb:H[b]?=some (.cells cs E fz)) (hv:cs[o]?=some v):ig H b o=some v:=by
 unfold ig;rw [hb];exact hv
theorem Ext.drew {S:Nat->Prop} (w:World):Ext S w w.drew:=⟨rfl,rfl,rfl,aD _,fun _ _ _=>rfl⟩
theorem R.ld {P:Program} {l:List Value} {w:World} {x:Operand} {t:TypeId} [hT:Ty P t false 1] {b o:Nat} {v:Value} (hx:ev l x=.pointer (some ⟨b,o,none⟩)) (hv:ig w.heap b o=some v):fx P l w (.load t x) v:=R.ld1 hx (by rw [gw];exact hv)
theorem R.ldS {P:Program} {l:List Value} {w:World} {x:Operand} {t:TypeId} {k:Nat} [hT:Ty P t true k] {b o:Nat} {vs:List Value} (hx:ev l x=.pointer (some ⟨b,o,none⟩)) (hl:vs.length=k)
  (hv:∀ j v,vs[j]?=some v->ig w.heap b (o+j)=some v):fx P l w (.load t x) (.agg vs.toArray):=R.ldN hx hl (fun j v h=>by rw [gw];exact hv j v h)
section
variable {H:Array Obj} {b o:Nat} {v0 v1 v2 v3 v4 v5:Value}
end
class rL (P:Program) (t:TypeId) (z:outParam Value):Prop where
 is:(P.info? t).bind (·.zero)=some z
structure vX (w w':World) (b:Nat) (cs:Array Value) (E:TypeId):Prop where
 blk:w'.heap[b]?=some (.cells cs E (0,0))
 ext:Ext (·=b) w w'
 size:w'.heap.size=w.heap.size
def vL (cs:Array Value) (o:Nat):List Value->Array Value
 | []=>cs
 | v::r=>vL (cs.setIfInBounds o v) (o+1) r
def mV (vs:List Value):Bool:=vs.all (·.oneCell')
section
variable {P:Program} {w:World}
theorem CK {t:TypeId} {z:Value} [h:rL P t z]:(zeroValue t).run P w=.ok z w:=by
 obtain ⟨h⟩:=h
 cases hq:P.info? t with
 | none=>simp [hq] at h
 | some i=>simp [hq] at h;simp [zeroValue,typeInfo,hq,h]
theorem vX.refl {b:Nat} {cs:Array Value} {E:TypeId} (hb:w.heap[b]?=some (.cells cs E (0,0))):vX w w b cs E:=⟨hb,Ext.refl _,rfl⟩
theorem vX.trans {w1 w2:World} {b:Nat} {cs Bn:Array Value} {E:TypeId} (h:vX w w1 b cs E) (k:vX w1 w2 b Bn E):vX w w2 b Bn E :=
 ⟨k.blk,h.ext.trans k.ext,k.size.trans h.size⟩
theorem vX.setCell {b o:Nat} {cs:Array Value} {E:TypeId} (hb:w.heap[b]?=some (.cells cs E (0,0))) (v:Value) :
  vX w (w.setCell ⟨b,o,none⟩ v) b (cs.setIfInBounds o v) E :=
 ⟨heap_setCell_same w b o cs E v hb,⟨rfl,rfl,rfl,by simp,fun k _ hs=>heap_setCell_other w _ k v hs⟩,by simp⟩
theorem xR {b o:Nat} {E:TypeId}:∀ (vs:List Value) (i:Nat) (w:World) (cs:Array Value),w.heap[b]?=some (.cells cs E (0,0))->o+i+vs.length<=cs.size->mV vs=true ->
  ∃ w',(storeCells ⟨b,o,none⟩ vs i).run P w=.ok () w'/\vX w w' b (vL cs (o+i) vs) E
 | [],i,w,cs,hb,_,_=>⟨w,by simp [storeCells],vX.refl hb⟩
 | v::r,i,w,cs,hb,hl,I=>by
  simp only [mV,all_cons,aH] at I;simp only [length_cons] at hl;have hs:=vX.setCell (w:=w) (o:=o+i) hb v;obtain ⟨w',hr,bW⟩:=xR (b:=b) (o:=o) (E:=E) r (i+1) _ _ hs.blk zgb I.2;refine ⟨w',?_,hs.trans (by simpa [vL,gn] using bW)⟩;have hc:w.cell? ⟨b,o+i,none⟩=cs[o+i]?:=cell_of_row w b (o+i) cs E (0,0) hb;have eg:∃ u,w.cell? ⟨b,o+i,none⟩=some u:=⟨cs[o+i]'zfO,by rw [hc];simp⟩;obtain ⟨u,hu⟩:=eg;have hf:w.frozen? ⟨b,o+i,none⟩=false:=frozen_of_row w b _ cs E hb
  have abL:(store ((⟨b,o,none⟩:Addr).add i) v).run P w=.ok () (w.setCell ⟨b,o+i,none⟩ v):=by
   rw [rM]
   cases v <;> first | (simp [Value.oneCell'] at I;done) | simp [store,Sem.run,hu,hf]
  simp only [storeCells,Sem.run_bind,abL,Result.andThen_ok,hr]
theorem IA {t:TypeId} {agg:Bool} {k:Nat} [hT:Ty P t agg k] {b o:Nat} {E:TypeId} {cs:Array Value} {v:Value} (hb:w.heap[b]?=some (.cells cs E (0,0)))
  (hl:v.cells.size=k) (ho:o+k<=cs.size) (I:mV v.cells.toList=true) :
  ∃ w',(storeVar t ⟨b,o,none⟩ v).run P w=.ok () w'/\vX w w' b (vL cs o v.cells.toList) E:=by
 obtain ⟨w',hr,hs⟩:=xR (P:=P) (o:=o) v.cells.toList 0 w cs hb zgb I;refine ⟨w',?_,by simpa using hs⟩;simp [storeVar,kj hT.siz,hl,hr]
end
def jq:List Value->Nat->List Value->List Value
 | cs,_,[]=>cs
 | cs,o,v::r=>jq (fS cs o v) (o+1) r
def rP (pl:Nat->Option (Nat × Nat)):List Value->List (Nat × Value)->Option (List Value)
 | cs,[]=>some cs
 | cs,(i,v)::r=>match pl i with
  | none=>none
  | some (o,k)=>if v.cells.size≠k || decide (o+v.cells.size > cs.length) then none else rP pl (jq cs o v.cells.toList) r
theorem CM:∀ (vs:List Value) (cs:List Value) (o:Nat),(jq cs o vs).length=cs.length
 | [],_,_=>rfl
 | v::r,cs,o=>by
  rw [jq,CM r];have:=congrArg Array.size (AB cs o v);simpa using this.symm
theorem C1:∀ (vs:List Value) (cs:List Value) (o n:Nat),
  (vs.zipIdx n).foldl (fun (cs:Array Value) (x:Value × Nat)=>cs.setIfInBounds (o+x.2) x.1) cs.toArray=(jq cs (o+n) vs).toArray
 | [],cs,o,n=>by simp [jq]
 | v::r,cs,o,n=>by
  simp only [List.zipIdx_cons,List.foldl_cons,AB,jq];rw [C1 r];rfl
theorem zC (pl:Nat->Option (Nat × Nat)):∀ (parts:List (Nat × Value)) (cs:List Value),
  Instr.fill pl cs.toArray parts=(rP pl cs parts).map List.toArray
 | [],cs=>by simp [Instr.fill,rP]
 | (i,v)::r,cs=>by
  simp only [Instr.fill,rP]
  cases hp:pl i with
  | none=>rfl
  | some x =>
   obtain ⟨o,k⟩:=x;simp only [size_toArray];split
   ·rfl
   ·have h:(v.cells.zipIdx.foldl (fun (cs:Array Value) (x:Value × Nat)=>cs.setIfInBounds (o+x.2) x.1) cs.toArray)=(jq cs o v.cells.toList).toArray:=by
     have:=C1 v.cells.toList cs o 0;rw [<-Array.foldl_toList,Array.toList_zipIdx];exact this
    have M:=zC pl r (jq cs o v.cells.toList);rw [<-M,<-h]
def UU (P:Program) (t:TypeId) (pl:List (Nat × Nat)):Bool :=
 match P.underlying t with
 | some (.struct fs)=>(fs.toList.map fun f=>(f.offset,(P.info? f.type).map (·.size)))==pl.map fun x=>(x.1,some x.2)
 | _=>false
class vW (P:Program) (t:TypeId) (pl:outParam (List (Nat × Nat))) (z:outParam (List Value)):Prop where
 is:UU P t pl=true
 zero:(P.info? t).bind (·.zero)=some (.agg z.toArray)
section
variable {P:Program} {w:World}
theorem DG {fs:List Field}:∀ {pl:List (Nat × Nat)},(fs.map fun f=>(f.offset,(P.info? f.type).map (·.size)))=(pl.map fun x=>(x.1,some x.2)) ->
  (List.mapM (m:=Sem) (fun (f:Field)=>Functor.map (Prod.mk f.offset) (sizeOf f.type)) fs).run P w=.ok pl w:=by
 induction fs with
 | nil=>intro pl h;cases pl with | nil=>simp | cons=>simp at h
 | cons f fs ih =>
  intro pl h
  cases pl with
  | nil=>simp at h
  | cons x pl =>
   simp only [List.map_cons,List.cons.injEq,Prod.mk.injEq] at h;obtain ⟨⟨I,M⟩,h3⟩:=h;have:=ih h3;have h5:=kj (w:=w) M;simp [List.mapM_cons,Sem.run_bind,h5,this,I]
theorem run_build {t:TypeId} {pl:List (Nat × Nat)} {z:List Value} [hT:vW P t pl z] {parts:List (Nat × Value)} {cs:List Value} (hf:rP (fun i=>pl[i]?) z parts=some cs) :
  (Instr.build t parts.toArray).run P w=.ok (.agg cs.toArray) w:=by
 obtain ⟨hi,hz⟩:=hT
 have hzz:(zeroValue t).run P w=.ok (.agg z.toArray) w:=by
  haveI:rL P t (.agg z.toArray):=⟨hz⟩
  exact CK
 unfold UU at hi;split at hi
 ·rename_i fs hu;have hm:=DG (P:=P) (w:=w) (eq_of_beq hi)
  have mr:(Array.mapM (m:=Sem) (fun (f:Field)=>Functor.map (Prod.mk f.offset) (sizeOf f.type)) fs).run P w=.ok pl.toArray w:=by
   rw [Array.mapM_eq_mapM_toList];simp [hm]
  have iG:=zC (fun i=>pl[i]?) parts z;rw [hf] at iG;simp [Instr.build,Sem.run_bind,hzz,run_underlying hu,mr,Value.cells];simp [iG]
 ·cases hi
end
section
variable {P:Program} {Q:nr} {l:List Value} {w:World} {ops:Array Oper} {rest:List Oper} {d:Option Tmp} {ty:TypeId} {pos:String} {af:Array Edge}
theorem DH (t:TypeId) (v:Value):(newVar t v).run P w=.ok ⟨w.heap.size,0,none⟩ (w.alloc (.cells v.cells t)):=by
 rfl
theorem WL.alloc {t:TypeId} {z:Value} [hT:rL P t z] (h:∀ b w',vV w w' b (.cells z.cells t)->WL P ops Q rest (put l d (.pointer (some ⟨b,0,none⟩))) w') :
  WL P ops Q (⟨d,.alloc t,ty,pos,af,none⟩::rest) l w :=
 WL.val (w':=w.alloc (.cells z.cells t)) (by simp [execOp,Instr.alloc,CK (w:=w) (z:=z),DH]) (h _ _ (vV.of w _))
theorem WL.box {t:TypeId} {x:Operand} {v:Value} (hx:ev l x=v) (h:∀ b w',vV w w' b (.cells v.cells t)->WL P ops Q rest (put l d (.pointer (some ⟨b,0,none⟩))) w') :
  WL P ops Q (⟨d,.box t x,ty,pos,af,none⟩::rest) l w :=
 WL.val (w':=w.alloc (.cells v.cells t)) (by simp [execOp,Instr.box,DH,hx]) (h _ _ (vV.of w _))
theorem R.build {t:TypeId} {pl:List (Nat × Nat)} {z:List Value} [hT:vW P t pl z] {parts:List (Nat × Operand)} {cs:List Value}
  (hf:rP (fun i=>pl[i]?) z (parts.map fun x=>(x.1,ev l x.2))=some cs):fx P l w (.build t parts.toArray) (.agg cs.toArray):=fun d ty pos af=>by
  have hr:=run_build (P:=P) (w:=w) (t:=t) hf;simp only [execOp,map_toArray];simp [hr]
class rJ (P:Program) (t:TypeId) (e:outParam TypeId) (k:outParam Nat) (z:outParam (List Value)):Prop where
 und:P.underlying t=some (.slice e)
 siz:(P.info? e).map (·.size)=some k
 zero:(P.info? e).bind (·.zero)=some (if k=1 then z.headD undef else .agg z.toArray)
 zl:z.length=k
 pos:0 < k
 one:k=1->(z.headD undef).cells=#[z.headD undef]
theorem rJ.cells {t e:TypeId} {k:Nat} {z:List Value} (h:rJ P t e k z):(if k=1 then z.headD undef else .agg z.toArray).cells=z.toArray:=by
 split
 ·rename_i hk;rw [h.one hk];have:=h.zl;rw [hk] at this
  match z,this with
  | [a],_=>rfl
 ·rfl
theorem WL.Ex {t e:TypeId} {k:Nat} {z:List Value} [hT:rJ P t e k z] {n:Nat} {parts:List (Nat × Operand)} {cs:List Value} (hn:n * k<=16777216)
  (hf:rP (fun i=>some (i * k,k)) ((List.range (n * k)).map fun j=>z.getD (j % k) undef) (parts.map fun x=>(x.1,ev l x.2))=some cs)
  (h:∀ b w',vV w w' b (.cells cs.toArray e)->WL P ops Q rest (put l d (.slice (some ⟨b,0,none⟩) n n)) w') :
  WL P ops Q (⟨d,.buildSlice t n parts.toArray,ty,pos,af,none⟩::rest) l w :=
 WL.val (w':=w.alloc (.cells cs.toArray e)) (by
  have hz:(zeroValue e).run P w=.ok (if k=1 then z.headD undef else .agg z.toArray) w:=by
   haveI:rL P e (if k=1 then z.headD undef else .agg z.toArray):=⟨hT.zero⟩
   exact CK
  have hc:=hT.cells;generalize (if k=1 then z.headD undef else .agg z.toArray:Value)=zv at hz hc;have iG:=zC (fun i=>some (i * k,k)) (parts.map fun x=>(x.1,ev l x.2)) ((List.range (n * k)).map fun j=>z.getD (j % k) undef);rw [hf] at iG
  have Dg:¬ (16777216 < n * k):=by omega
  by_cases h0:n * k=0
  ·have h00:n=0:=by
    rcases Nat.mul_eq_zero.1 h0 with h | h
    ·exact h
    ·have:=hT.pos;omega
   subst h00;simp only [Nat.zero_mul,List.range_zero,map_nil] at iG;simp only [execOp,map_toArray];have tW:(Array.range 0)=#[]:=rfl;simp [Instr.buildSlice,run_underlying hT.und,kj hT.siz,tW,iG];rfl
  ·have he:(Array.range (n * k)).map (fun j=>z.toArray[j % z.toArray.size]!)=((List.range (n * k)).map fun j=>z.getD (j % k) undef).toArray:=by
    apply Array.ext';simp only [Array.toList_map,Array.toList_range];apply List.map_congr_left;intro j _;have hk:=hT.pos
    have aj:j % k < z.length:=by rw [hT.zl];exact Nat.mod_lt _ hk
    rw [List.getD_eq_getElem?_getD,dq aj];simp [hT.zl];rw [dq aj];rfl
   rw [<-he] at iG;simp only [execOp,map_toArray];simp [Instr.buildSlice,run_underlying hT.und,kj hT.siz,Dg,h0,hz,hc];simp only [size_toArray] at iG;simp at iG;simp [iG]
   rfl) (h _ _ (vV.of w _))
theorem WL.st {x y:Operand} {t:TypeId} {agg:Bool} {k:Nat} [hT:Ty P t agg k] {b o:Nat} {E:TypeId} {cs:Array Value} {v:Value} (hx:ev l x=.pointer (some ⟨b,o,none⟩)) (hy:ev l y=v)
  (hb:w.heap[b]?=some (.cells cs E (0,0))) (hl:v.cells.size=k) (ho:o+k<=cs.size) (I:mV v.cells.toList=true)
  (h:∀ w',vX w w' b (vL cs o v.cells.toList) E->WL P ops Q rest (put l d undef) w'):WL P ops Q (⟨d,.store t x y,ty,pos,af,none⟩::rest) l w:=by
 obtain ⟨w',hr,hs⟩:=IA (P:=P) (t:=t) hb hl ho I;exact WL.skp (w':=w') (by simp [execOp,Instr.storeAt,hx,hy,Instr.sureAddr,hr]) (h w' hs)
end
def G3 (P:Program) (f:FuncId):Bool :=
 match P.funcs[f]? with
 | some fn=>fn.name != "runtime.NumGoroutine" && fn.body.isSome
 | none=>false
class aK (P:Program) (f:FuncId):Prop where
 ok:G3 P f=true
def om (P:Program) (f:FuncId) (args:List Value) (w:World) (R:Value->World->Prop):Prop :=
 Calls P f args.toArray w fun e w'=>∃ v,e=.returned v/\R v w'
theorem om.mono {P:Program} {f:FuncId} {args:List Value} {w:World} {R R':Value->World->Prop} (h:om P f args w R) (hr:∀ v w',R v w'->R' v w'):om P f args w R' :=
 Calls.mono h fun _ _ ⟨v,he,r⟩=>⟨v,he,hr _ _ r⟩
theorem nG {P:Program} {w:World} {f:FuncId} [h:aK P f] (args:Array Value):(callFunc f args).run P w=.ok (.enter f args) w:=by
 obtain ⟨h⟩:=h;unfold G3 at h;split at h
 ·rename_i fn hf;simp only [aH,bne_iff_ne,ne_eq] at h
  have M:fn.body.isNone=false:=by cases hb:fn.body <;> simp_all
  simp [callFunc,program,Sem.run,hf,h.1,M];intro hn;simp [hn] at M
 ·cases h
section
variable {P:Program} {Q:nr} {l:List Value} {w:World} {ops:Array Oper} {rest:List Oper} {d:Option Tmp} {ty:TypeId} {pos:String} {af:Array Edge}
theorem WL.calls {op:Op} {f:FuncId} {DZ:List Value} (hr:(execOp (ev l) ⟨d,op,ty,pos,af,none⟩).run P w=.ok (.enter f DZ.toArray) w) {R:Value->World->Prop}
  (hc:om P f DZ w R) (h:∀ v w',R v w'->WL P ops Q rest (put l d v) w'):WL P ops Q (⟨d,op,ty,pos,af,none⟩::rest) l w:=by
 refine wpList_plain rfl fun K hK=>?_
 simp only [Oper.wp,oZ,hr,Oper.upon_enter];refine Calls.mono hc ?_;rintro e w' ⟨v,rfl,hv⟩;simp only [rb];exact hK _ _ (h v w' hv)
theorem WL.call {f:FuncId} [hf:aK P f] {args:List Operand} {mG:Array TypeId} {DZ:List Value} (ha:args.map (ev l)=DZ) {R:Value->World->Prop}
  (hc:om P f DZ w R) (h:∀ v w',R v w'->WL P ops Q rest (put l d v) w'):WL P ops Q (⟨d,.call ⟨.value (.func f),args.toArray,mG⟩,ty,pos,af,none⟩::rest) l w :=
 WL.calls (by simp [execOp,resolve,ev,Deferred.ofValue,invoke,nG,ha]) hc h
end
def Iw:Nat->List Value
 | 0=>[]
 | n+1=>undef::Iw n
def frame:List Value->Nat->List Value
 | [],n=>Iw n
 | a::r,n=>a::frame r (n - 1)
theorem YY (n:Nat):Iw n=List.replicate n undef:=by
 induction n with
 | zero=>rfl
 | succ n ih=>rw [Iw,ih];rfl
theorem RZ (args:List Value) (n:Nat):frame args n=args++List.replicate (n - args.length) undef:=by
 induction args generalizing n with
 | nil=>simp [frame,YY]
 | cons a r ih=>rw [frame,ih];simp [Nat.sub_sub,Nat.add_comm]
def TT (P:Program) (fn:Func) (R:Value->World->Prop):nr
 | .normal,l,w | .ret,l,w=>∃ v,(results fn l.toArray).run P w=.ok v w/\R v w
 | _,_,_=>False
theorem om.enter {P:Program} {f:FuncId} {fn:Func} {c:Code} {args:List Value} {w:World} {R:Value->World->Prop} {n:Nat} {l:List Value}
  (hf:P.funcs[f]?=some fn) (hn:fn.ntmps=n) (hb:fn.body=some c) (hl:frame args n=l) (h:W P c (TT P fn R) l w):om P f args w R:=by
 subst hl;refine calls_of_wp hf hb ?_
 have wo:(args.toArray++Array.replicate (fn.ntmps - args.toArray.size) undef)=(frame args n).toArray:=by
  simp [RZ,hn]
 rw [wo];refine wp_mono h ?_;rintro e a w ⟨l,rfl,hq⟩
 cases e <;> simp only [TT] at hq <;> simp only [bodyPost]
 ·obtain ⟨v,hr,hv⟩:=hq;exact ⟨rfl,v,hr,v,rfl,hv⟩
 ·obtain ⟨v,hr,hv⟩:=hq;exact ⟨rfl,v,hr,v,rfl,hv⟩
def WO (P:Program) (t e k iP:Nat):Bool :=
 (match P.underlying t with | some (.slice e')=>e'==e | _=>false) &&
 (match P.info? e with
  | some i=>(match i.zero with | some z=>z.cells.size==k | none=>false)&&i.size==k&&i.bytes==iP
  | none=>false)&&k != 0
class qd (P:Program) (t:TypeId) (e:outParam TypeId) (k:outParam Nat) (iP:outParam Nat):Prop where
 is:WO P t e k iP=true
theorem qd.parts {P:Program} {t e k iP:Nat} (h:qd P t e k iP) :
  P.underlying t=some (.slice e)/\(∃ i z,P.info? e=some i/\i.zero=some z/\z.cells.size=k/\i.size=k/\i.bytes=iP)/\0 < k:=by
 obtain ⟨h⟩:=h;simp only [WO,aH,bne_iff_ne,ne_eq] at h;obtain ⟨⟨I,M⟩,h3⟩:=h;refine ⟨?_,?_,by omega⟩
 ·split at I
  ·rename_i e' hu;rw [hu];simp at I;rw [I]
  ·cases I
 ·split at M
  ·rename_i i hi;simp only [aH,beq_iff_eq] at M;obtain ⟨⟨h4,h5⟩,h6⟩:=M;split at h4
   ·rename_i z hz;exact ⟨i,z,hi,hz,by simpa using h4,h5,h6⟩
   ·cases h4
  ·cases M
abbrev jg (w:World) (base:Nat) (e k:Nat) (v:Value) (n:Nat) (xs:List Value):Prop:=w.ownsRow base e k v n xs
theorem jg.nil (w:World) (base e k:Nat):jg w base e k (.slice none 0 0) 0 []:=World.ownsRow_nil w base e k
theorem jg.ext {S:Nat->Prop} {w w':World} {base e k:Nat} {v:Value} {n:Nat} {xs:List Value} (h:jg w base e k v n xs) (hx:Ext S w w') (hs:∀ b,v.ownBlock=some b->¬ S b):jg w' base e k v n xs:=by
 obtain ⟨I,M⟩:=h;refine ⟨I,?_⟩
 rcases M with M | ⟨g,cap,cur,rfl,hb,hg,r⟩
 ·exact .inl M
 ·exact .inr ⟨g,cap,cur,rfl,hb,hx.blk hg (hs g rfl),r⟩
theorem jg.lt {w:World} {base e k:Nat} {v:Value} {n:Nat} {xs:List Value} (h:jg w base e k v n xs) {b:Nat} (hv:v.ownBlock=some b):base<=b/\b < w.heap.size:=by
 obtain ⟨I,M⟩:=h
 rcases M with ⟨rfl,_⟩ | ⟨g,cap,cur,rfl,hb,hg,r⟩
 ·cases hv
 ·simp only [Value.ownBlock,Option.some.injEq] at hv;subst hv;exact ⟨hb,ua hg⟩
theorem jg.shape {w:World} {base e k:Nat} {v:Value} {n:Nat} {xs:List Value} (h:jg w base e k v n xs):∃ a c,v=.slice a n c:=by
 obtain ⟨I,M⟩:=h
 rcases M with ⟨rfl,rfl⟩ | ⟨g,cap,cur,rfl,_⟩
 ·exact zeq
 ·exact zeq
theorem jg.base {w:World} {base TS e k:Nat} {v:Value} {n:Nat} {xs:List Value} (h:jg w base e k v n xs) (hb:TS<=base):jg w TS e k v n xs:=by
 obtain ⟨I,M⟩:=h;refine ⟨I,?_⟩
 rcases M with M | ⟨g,cap,cur,rfl,bA,r⟩
 ·exact .inl M
 ·exact .inr ⟨g,cap,cur,rfl,jO hb bA,r⟩
theorem jg.cells {w:World} {base e k:Nat} {v:Value} {n:Nat} {xs:List Value} (h:jg w base e k v n xs) :
  xs.length=n * k/\(xs≠[]->∃ b c,v=.slice (some ⟨b,0,none⟩) n c/\base<=b/\b < w.heap.size/\∀ j u,xs[j]?=some u->w.cell? ⟨b,j,none⟩=some u):=by
 obtain ⟨I,M⟩:=h;refine ⟨I,fun cn=>?_⟩
 rcases M with ⟨rfl,rfl⟩ | ⟨g,cap,cur,rfl,hb,hg,hn,hm,cX,ht⟩
 ·simp at I;exact absurd I cn
 ·refine ⟨g,cap,rfl,hb,ua hg,fun j u hj=>?_⟩;rw [cell_of_row w g j cur e (0,0) hg];rw [<-ht] at hj;rw [getElem?_take] at hj;split at hj
  ·simpa using hj
  ·cases hj
theorem jg.YM {w w':World} {b e k n:Nat} {cs:List Value} (h:vV w w' b (.cells cs.toArray e)) (hl:cs.length=n * k) (hm:n<=maxLen):jg w' w.heap.size e k (.slice (some ⟨b,0,none⟩) n n) n cs :=
 ⟨hl,.inr ⟨b,n,cs.toArray,rfl,by rw [h.fresh];exact aD _,h.blk,aD _,hm,by simpa using hl,by simp [<-hl]⟩⟩
section
variable {P:Program} {Q:nr} {l:List Value} {w:World} {ops:Array Oper} {rest:List Oper} {d:Option Tmp} {ty:TypeId} {pos:String} {af:Array Edge}
theorem WL.app {s x:Operand} {t e k iP:Nat} [hT:qd P t e k iP] {base n m c b o:Nat} {xs news:List Value} {v:Value} (hs:ev l s=v) (gq:jg w base e k v n xs)
  (hx:ev l x=.slice (some ⟨b,o,none⟩) m c) (hl:news.length=m * k) (Uq:∀ j u,news[j]?=some u->w.cell? ⟨b,o+j,none⟩=some u) (I:mV news=true)
  (Xn:n+m<=9223372036854775807) (zM:(n+m) * iP<=140737488355328) (Da:base<=w.heap.size)
  (h:∀ v' w',jg w' base e k v' (n+m) (xs++news)->Ext (fun b=>v.ownBlock=some b) w w'->(∀ b,v'.ownBlock=some b->v.ownBlock=some b\/w.heap.size<=b)->(Ext iD w w'\/v'.ownBlock=v.ownBlock)->WL P ops Q rest (put l d v') w') :
  WL P ops Q (⟨d,.call ⟨.builtin .append,#[s,x],#[t,t]⟩,ty,pos,af,none⟩::rest) l w:=by
 obtain ⟨hu,⟨i,z,hi,hz,PI,cX,zL⟩,hk⟩:=hT.parts;obtain ⟨v',w',hr,M,h3,h4⟩:=run_append_own (P:=P) w base t ty e i z k iP hu hi hz cX zL PI hk v n xs gq ⟨b,o,none⟩ m c news hl
  (fun j u hj=>by rw [rM];exact Uq j u hj) zgM (by simpa [maxLen] using Xn) zM Da
 have ji:Ext (fun b=>v.ownBlock=some b) w w':=⟨h3.os,h3.tape,h3.output,h3.size,fun j hj hn=>h3.block j hj fun he=>hn he.symm⟩
 have zR:∀ j u,news[j]?=some u->w.cell? ((⟨b,o,none⟩:Addr).add j)=some u:=fun j u hj=>by rw [rM];exact Uq j u hj
 have kY:news.length=m * i.size:=by rw [cX];exact hl
 have R7:(n+m) * i.bytes<=140737488355328:=by rw [zL];exact zM
 refine WL.val (v:=v') (w':=w') (by simp [execOp,resolve,invoke,builtin,hs,hx,hr]) (h v' w' M ji ?_ ?_)
 ·intro b' bA;have Dj:=gq.2
  rcases Dj with ⟨rfl,rfl⟩ | ⟨g,cap,cur,rfl,pk,hg,qB,y9,fk,Dm⟩
  ·by_cases hm:m=0
   ·have:=h4.2 ⟨rfl,hm⟩;subst this;cases bA
   ·have eh:=run_append_nil (P:=P) w t ty e i z hu hi hz ⟨b,o,none⟩ m c news kY zR zfO zfO (by simp only [cL] at R7;omega);rw [hr] at eh;cases eh;exact zbd
  ·by_cases hroom:n+m<=cap
   ·have eh:=run_append_room (P:=P) w t ty e i hu hi g n cap cur hg ⟨b,o,none⟩ m c news kY zR zgM hroom
     zgC
    rw [hr] at eh;cases eh;exact .inl bA
   ·have holds:∀ j u,xs[j]?=some u->w.cell? ((⟨g,0,none⟩:Addr).add j)=some u:=World.ownsRow.cells (g:=g) gq rfl;have eh:=run_append_grow (P:=P) w t ty e i z hu hi hz ⟨g,0,none⟩ n cap xs zgs holds ⟨b,o,none⟩ m c news kY zR zfO zfO (growslice_fits zfO R7);rw [hr] at eh;cases eh;exact zbd
 ·have Dj:=gq.2
  rcases Dj with ⟨rfl,rfl⟩ | ⟨g,cap,cur,rfl,pk,hg,qB,y9,fk,Dm⟩
  ·exact .inl (ji.mono fun k _ hk=>by cases hk)
  ·by_cases hroom:n+m<=cap
   ·have eh:=run_append_room (P:=P) w t ty e i hu hi g n cap cur hg ⟨b,o,none⟩ m c news kY zR zgM hroom
     zgC
    rw [hr] at eh;cases eh;exact zbx
   ·have holds:∀ j u,xs[j]?=some u->w.cell? ((⟨g,0,none⟩:Addr).add j)=some u:=World.ownsRow.cells (g:=g) gq rfl;have eh:=run_append_grow (P:=P) w t ty e i z hu hi hz ⟨g,0,none⟩ n cap xs zgs holds ⟨b,o,none⟩ m c news kY zR zfO zfO (growslice_fits zfO R7);rw [hr] at eh;cases eh;exact zdf
theorem WL.push {x s:Operand} {t e k iP:Nat} {z:List Value} [hT:qd P t e k iP] [hZ:rJ P t e k z] {base n:Nat} {xs vs:List Value} {v val:Value} {d1:Tmp} {QZ:TypeId} {Iu:String} {N0:Array Edge}
  (hx:ev l x=val) (hs:∀ u,ev (put l (some d1) u) s=v) (hd:∀ u,ev (put l (some d1) u) (.tmp d1)=u) (hc:val.cells=vs.toArray) (hk:vs.length=k) (I:mV vs=true)
  (gq:jg w base e k v n xs) (Xn:n+1<=9223372036854775807) (zM:(n+1) * iP<=140737488355328) (acj:k<=16777216) (Da:base<=w.heap.size)
  (h:∀ u v' w',jg w' base e k v' (n+1) (xs++vs)->Ext (fun b=>v.ownBlock=some b) w w'->(∀ b,v'.ownBlock=some b->v.ownBlock=some b\/w.heap.size<=b)->(Ext iD w w'\/v'.ownBlock=v.ownBlock)->WL P ops Q rest (put (put l (some d1) u) d v') w') :
  WL P ops Q (⟨some d1,.buildSlice t 1 #[(0,x)],QZ,Iu,N0,none⟩::⟨d,.call ⟨.builtin .append,#[s,.tmp d1],#[t,t]⟩,ty,pos,af,none⟩::rest) l w:=by
 have hkp:=hZ.pos
 have cX:val.cells.size=k:=by rw [hc];simpa using hk
 have cq:∀ (vs cs:List Value),vs.length=cs.length->jq cs 0 vs=vs:=by
  have gen:∀ (vs pre cs:List Value),vs.length=cs.length->jq (pre++cs) pre.length vs=pre++vs:=by
   intro vs
   induction vs with
   | nil=>intro pre cs hl;cases cs <;> simp_all [jq]
   | cons a r ih =>
    intro pre cs hl
    cases cs with
    | nil=>simp at hl
    | cons c cs =>
     have hu:fS (pre++c::cs) pre.length a=pre++a::cs:=by
      clear hl
      induction pre with
      | nil=>rfl
      | cons p pre ihp=>simp [fS,ihp]
     rw [jq,hu];have:=ih (pre++[a]) cs zfR;exact zb8
  intro vs cs hl;exact gen vs [] cs hl
 have ZN:rP (fun i=>some (i * k,k)) ((List.range (1 * k)).map fun j=>z.getD (j % k) undef) ([((0:Nat),x)].map fun y=>(y.1,ev l y.2))=some vs:=by
  simp only [List.map_cons,map_nil,rP,hx,cX];simp [hk,hc];exact cq vs _ zf8
 refine WL.Ex (n:=1) (parts:=[(0,x)]) zfO ZN ?_;intro b2 w2 b8;have MB:jg w2 base e k v n xs:=gq.ext b8.ext (fun _ _ h=>h);refine WL.app (base:=base) (v:=v) (n:=n) (xs:=xs) (news:=vs) (m:=1) (hs _) MB (hd _) zfO (fun j u hj=>?_) I Xn zM (jO Da b8.ext.size) ?_
 ·rw [cL];exact N6 b8.blk zf4
 ·intro v' w3 ho PE hb xt;refine h _ v' w3 ho ((b8.ext.mono (fun _ _ h=>h.elim)).trans PE) (fun b bA=>?_) (xt.imp (fun h5=>b8.ext.trans h5) id)
  rcases hb b bA with h4 | h4
  ·exact .inl h4
  ·exact .inr (jO b8.ext.size h4)
end
section
variable {P:Program} {ops:Array Oper} {S:Nat->Prop}
end
def ur:List Oper->Nat->Oper
 | [],_=>default
 | o::_,0=>o
 | _::r,n+1=>ur r n
theorem V2 (ol:List Oper) (i:Nat) (o:Oper) (h:ol.toArray[i]?=some o):ur ol i=o:=by
 have h':ol[i]?=some o:=by simpa using h
 clear h
 induction ol generalizing i with
 | nil=>simp at h'
 | cons x r ih =>
  cases i with
  | zero=>simpa [ur] using h'
  | succ i=>exact ih i (by simpa using h')
section
variable {P:Program} {ops:Array Oper} {S:Nat->Prop} {Q:nr} {l:List Value} {w:World} {r:List (Oper × Bool)} {d:Option Tmp} {op:Op} {ty:TypeId} {pos:String} {af:Array Edge}
end
def Nj:IntKind->IntKind->Bool
 | .i8,.i8 | .i16,.i16 | .i32,.i32 | .i64,.i64 | .u8,.u8 | .u16,.u16 | .u32,.u32 | .u64,.u64=>true
 | _,_=>false
theorem Te {a b:IntKind} (h:Nj a b=true):a=b:=by cases a <;> cases b <;> first | rfl | cases h
def Mt (op:BinOp) (a b:Int):Option Value :=
 match op with
 | .eql=>some (.bool (a==b))
 | .neq=>some (.bool (a != b))
 | .lss=>some (.bool (decide (a < b)))
 | .leq=>some (.bool (decide (a<=b)))
 | .gtr=>some (.bool (decide (b < a)))
 | .geq=>some (.bool (decide (b<=a)))
 | _=>none
def Ms (op:BinOp):Value->Value->Option Value
 | .int k a,.int k' b=>match Nj k k' with
  | true=>Mt op a b
  | false=>none
 | _,_=>none
def ym (c:Op) (x:Value):Option Value :=
 match c with
 | .nilCheck _=>match x with
  | .pointer (some a)=>some (.pointer (some a))
  | _=>none
 | .unOp .not _ _=>match x with
  | .bool b=>some (.bool (!b))
  | _=>none
 | .extract _ i=>match x with
  | .tuple vs=>vs[i]?
  | _=>none
 | _=>none
def go (ρ:Operand->Value) (o:Op):Option Value :=
 match o with
 | .move x=>some (ρ x)
 | .assign x=>some (ρ x)
 | .makeFunc fn f c=>some (.func fn (f.map ρ) (c.map ρ))
 | .binOp op _ x y _=>Ms op (ρ x) (ρ y)
 | .nilCheck x=>ym o (ρ x)
 | .unOp _ _ x=>ym o (ρ x)
 | .extract x _=>ym o (ρ x)
 | _=>none
section
variable {P:Program} {l:List Value} {w:World}
theorem VD {o:Op} {v:Value} (h:go (ev l) o=some v):fx P l w o v:=by
 unfold go at h;split at h
 ·cases h;exact R.mv
 ·cases h;exact R.xb
 ·cases h;exact R.Ew
 ·rename_i op t x y t';unfold Ms at h;split at h
  ·rename_i k a k' b hx hy;split at h
   ·rename_i hk;have:=Te hk;subst this;unfold Mt at h
    split at h <;> first | (cases h;done) | skip
    ·cases h;exact R.eq hx hy
    ·cases h;exact R.ne hx hy
    ·cases h;exact R.lt hx hy
    ·cases h;exact R.le hx hy
    ·cases h;exact R.gt' hx hy
    ·cases h;exact R.ge hx hy
   ·cases h
  ·cases h
 ·unfold ym at h;simp only at h;split at h
  ·rename_i a hx;cases h;exact R.M4 hx
  ·cases h
 ·rename_i op t x;unfold ym at h
  cases op <;> simp only at h <;> first | (cases h;done) | skip
  split at h
  ·rename_i b hx;cases h;exact R.not hx
  ·cases h
 ·unfold ym at h;simp only at h;split at h
  ·rename_i vs hx;exact R.extract hx h
  ·cases h
 ·cases h
theorem R.ff {x y:Operand} {t t':TypeId} {a b:Nat} (hx:ev l x=ii a) (hy:ev l y=ii b) (hb:a+b<=9223372036854775807):fx P l w (.binOp .add t x y t') (ii ((a+b:Nat):Int)):=R.add hx hy zfO zfO
theorem R.zq {x y:Operand} {t t':TypeId} {a:Nat} (hx:ev l x=ii a) (hy:ev l y=ii 1) (hb:a+1<=9223372036854775807):fx P l w (.binOp .add t x y t') (ii ((a+1:Nat):Int)):=R.add hx hy zfO zfO
theorem R.UQ {c a b:Operand} {t:Bool} (hc:ev l c=.bool t) (ht:t=true):fx P l w (.pick c a b) (ev l a):=by
 subst ht;exact R.pick hc
theorem R.UP {c a b:Operand} {t:Bool} (hc:ev l c=.bool t) (ht:t=false):fx P l w (.pick c a b) (ev l b):=by
 subst ht;exact R.pick hc
end
section
variable {P:Program} {Q:nr} {l:List Value} {w:World} {ops:Array Oper} {rest:List Oper} {d:Option Tmp} {op:Op} {ty:TypeId} {pos:String} {af:Array Edge} {v:Value} {S:Nat->Prop} {r:List (Oper × Bool)}
end
def wP (ops:List Oper) (l:List Value):Option (Nat × Bool)->Bool
 | none=>true
 | some (j,b)=>match (ur ops j).dst with
  | some t=>match nth l t with
   | .bool c=>c==b
   | _=>false
  | none=>false
def jG {α:Type}:List α->Nat->Bool
 | [],_=>false
 | _::_,0=>true
 | _::r,n+1=>jG r n
theorem Dr {α:Type}:∀ {l:List α} {n:Nat},jG l n=true->n < l.length
 | [],_,h=>by cases h
 | _::_,0,_=>by simp
 | _::r,n+1,h=>by have:=Dr (l:=r) (n:=n) h;simp;omega
def FE:Option (Nat × Bool)->List Oper->List Value->Bool
 | some (j,_),ops,l=>jG ops j&&(match (ur ops j).dst with
  | some t=>jG l t&&(match nth l t with | .bool _=>true | .tuple _=>true | _=>false)
  | none=>false)
 | none,_,_=>true
theorem Ln (ol:List Oper) (j:Nat) (h:j < ol.length):ol.toArray[j]?=some (ur ol j):=by
 obtain ⟨o,ho⟩:∃ o,ol.toArray[j]?=some o:=⟨ol[j],by simp [h]⟩;rw [ho,V2 ol j o ho]
theorem YL (l:List Value) (t:Nat) (h:t < l.length):l[t]?=some (nth l t):=by
 induction l generalizing t with
 | nil=>simp at h
 | cons x l ih=>cases t with
  | zero=>rfl
  | succ t=>simpa [nth] using ih t zfP
theorem x7 {ops:Array Oper} {d:Option Tmp} {op:Op} {ty:TypeId} {pos:String} {af:Array Edge} {gd:Option (Nat × Bool)} {l:List Value} (hb:FE gd ops.toList l=true) :
  Region.wanted ⟨d,op,ty,pos,af,gd⟩ (yielded ops (act l).tmps)=wP ops.toList l gd:=by
 cases gd with
 | none=>rfl
 | some x =>
  obtain ⟨j,b⟩:=x;simp only [FE,aH] at hb;obtain ⟨I,M⟩:=hb;have hj:=Ln ops.toList j (Dr I);simp only [Array.toArray_toList] at hj;simp only [Region.wanted,wP,yielded,hj,Option.bind_some]
  cases hd:(ur ops.toList j).dst with
  | none=>rw [hd] at M;cases M
  | some t =>
   rw [hd] at M;simp only [aH] at M;have ht:=YL l t (Dr M.1);simp only [Option.bind_some,act]
   have HO:l.toArray[t]?=some (nth l t):=by simpa using ht
   rw [HO]
   cases hv:nth l t <;> rw [hv] at M <;> simp_all
def gv (ops:List Oper) (l:List Value) (gd:Nat × Bool):Option Bool :=
 match (ur ops gd.1).dst with
 | some t=>match nth l t with
  | .bool c=>some c
  | _=>none
 | none=>none
theorem Q9 {ops:List Oper} {l:List Value} {gd:Nat × Bool} {c:Bool} (hv:gv ops l gd=some c) (hc:c=gd.2):wP ops l (some gd)=true:=by
 obtain ⟨j,b⟩:=gd;unfold gv at hv;unfold wP;simp only at hv hc |-;split at hv
 ·rename_i t ht;split at hv
  ·rename_i c' eg;cases hv;simp [hc]
  ·cases hv
 ·cases hv
theorem Q8 {ops:List Oper} {l:List Value} {gd:Nat × Bool} {c:Bool} (hv:gv ops l gd=some c) (hc:c=!gd.2):wP ops l (some gd)=false:=by
 obtain ⟨j,b⟩:=gd;unfold gv at hv;unfold wP;simp only at hv hc |-;split at hv
 ·rename_i t ht;split at hv
  ·rename_i c' eg;cases hv;cases b <;> simp_all
  ·cases hv
 ·cases hv
theorem Ra {ops:List Oper} {l:List Value} {gd:Nat × Bool} (hv:gv ops l gd=none):wP ops l (some gd)=false:=by
 obtain ⟨j,b⟩:=gd;unfold gv at hv;unfold wP;simp only at hv |-;split at hv
 ·rename_i t ht;split at hv
  ·cases hv
  ·first | rfl | (split <;> simp_all)
 ·rfl
section
variable {P:Program} {Q:nr} {l:List Value} {w:World} {ops:Array Oper} {rest:List Oper} {d:Option Tmp} {op:Op} {ty:TypeId} {pos:String} {af:Array Edge} {v:Value} {S:Nat->Prop} {r:List (Oper × Bool)} {gd:Nat × Bool}
theorem GT {c:Bool} (hb:FE (some gd) ops.toList l=true) (hv:gv ops.toList l gd=some c) (hc:c=gd.2) (h:WL P ops Q (⟨d,op,ty,pos,af,none⟩::rest) l w):WL P ops Q (⟨d,op,ty,pos,af,some gd⟩::rest) l w:=WL.gt ((x7 hb).trans (Q9 hv hc)) h
theorem GF {c:Bool} (hb:FE (some gd) ops.toList l=true) (hv:gv ops.toList l gd=some c) (hc:c=!gd.2) (h:WL P ops Q rest (put l d undef) w):WL P ops Q (⟨d,op,ty,pos,af,some gd⟩::rest) l w:=WL.gf ((x7 hb).trans (Q8 hv hc)) h
theorem GU (hb:FE (some gd) ops.toList l=true) (hv:gv ops.toList l gd=none) (h:WL P ops Q rest (put l d undef) w):WL P ops Q (⟨d,op,ty,pos,af,some gd⟩::rest) l w:=WL.gf ((x7 hb).trans (Ra hv)) h
end
def M7:Value->Bool
 | .agg _=>false
 | .tuple _=>false
 | _=>true
theorem yL {v:Value} (h:M7 v=true):v.cells=#[v]/\v.oneCell'=true:=by
 cases v <;> first | exact ⟨rfl,rfl⟩ | cases h
end Go.Xw
namespace Go.Xg
open Go.RowKit Go.Xw
inductive GV where
 | v (x:Value)
 | U
 | agg (cs:List GV)
 | tup (cs:List GV)
 | sl (k:Nat) (rows:List (List GV))
 | box (cs:List GV) (o:Nat)
 | loc (i o:Nat)
 | vec (i n:Nat)
 | vp (i n k idx off:Nat)
 | arr (i o n:Nat)
 | fn (f:Fn) (first cap:List GV)
open GV (U)
abbrev Fz:=Nat->Nat->Option GV
inductive Bk where
 | no
 | fix (b:Nat)
 | gr (h:Value) (m:Nat)
def Bk.blk:Bk->Option Nat
 | .no=>none
 | .fix b=>some b
 | .gr h _=>h.ownBlock
abbrev Bt:=Nat->Bk
def cV (K K':Fz):Prop:=∀ b o g,K b o=some g->K' b o=some g
def sM:Bk->Bk->Prop
 | .no,_=>True
 | .fix b,x=>x=.fix b
 | .gr h m,x=>∃ h' m',x=.gr h' m'/\m<=m'/\(m'=m->h'=h)
def dF (β bX:Bt):Prop:=∀ i,sM (β i) (bX i)
theorem cV.refl (K:Fz):cV K K:=fun _ _ _ h=>h
theorem cV.trans {a b c:Fz} (h:cV a b) (k:cV b c):cV a c:=fun x y z hz=>k x y z (h x y z hz)
theorem sM.refl (x:Bk):sM x x:=by cases x with | no=>trivial | fix b=>rfl | gr h m=>exact ⟨h,m,rfl,aD _,fun _=>rfl⟩
theorem sM.trans {a b c:Bk} (h:sM a b) (k:sM b c):sM a c:=by
 cases a with
 | no=>trivial
 | fix x=>cases h;exact k
 | gr x m =>
  obtain ⟨x',m',rfl,I,M⟩:=h;obtain ⟨x2,m2,rfl,h3,h4⟩:=k
  exact ⟨x2,m2,rfl,jO I h3,fun he=>by
   have:m'=m:=by omega
   rw [h4 zfO,M this]⟩
theorem dF.refl (β:Bt):dF β β:=fun i=>sM.refl _
theorem dF.trans {a b c:Bt} (h:dF a b) (k:dF b c):dF a c:=fun i=>(h i).trans (k i)
inductive Rel (K:Fz) (β:Bt):Value->GV->Prop
 | v (x:Value):Rel K β x (.v x)
 | U (x:Value):Rel K β x .U
 | agg (vs:List Value) (cs:List GV) (hl:vs.length=cs.length) (h:∀ (i:Nat) v g,vs[i]?=some v->cs[i]?=some g->Rel K β v g):Rel K β (.agg vs.toArray) (.agg cs)
 | tup (vs:List Value) (cs:List GV) (hl:vs.length=cs.length) (h:∀ (i:Nat) v g,vs[i]?=some v->cs[i]?=some g->Rel K β v g):Rel K β (.tuple vs.toArray) (.tup cs)
 | sl0 (a:Option Addr) (c k:Nat):Rel K β (.slice a 0 c) (.sl k [])
 | sl (b o c k:Nat) (rows:List (List GV)) (h:∀ (i:Nat) r,rows[i]?=some r->r.length=k/\∀ (j:Nat) g,r[j]?=some g->K b (o+i * k+j)=some g) (hc:rows.length<=c):Rel K β (.slice (some ⟨b,o,none⟩) rows.length c) (.sl k rows)
 | box (b o' o:Nat) (cs:List GV) (h:∀ (j:Nat) g,cs[j]?=some g->K b (o'+j)=some g):Rel K β (.pointer (some ⟨b,o'+o,none⟩)) (.box cs o)
 | loc (i o b:Nat) (h:β i=.fix b):Rel K β (.pointer (some ⟨b,o,none⟩)) (.loc i o)
 | vec (i n:Nat) (a:Option Addr) (c:Nat) (h:∃ h m,β i=.gr h m/\n<=m/\(m=n->.slice a n c=h)):Rel K β (.slice a n c) (.vec i n)
 | vp (i n k idx off:Nat) (x:Value) (h:∃ h m,β i=.gr h m/\n<=m/\(m=n->∃ b,h.ownBlock=some b/\x=.pointer (some ⟨b,idx * k+off,none⟩))):Rel K β x (.vp i n k idx off)
 | arr (i o n b c:Nat) (h:β i=.fix b):Rel K β (.slice (some ⟨b,o,none⟩) n c) (.arr i o n)
 | fn (f:Fn) (xs ys:List Value) (first cap:List GV) (hl:xs.length=first.length) (kY:ys.length=cap.length) (h:∀ (i:Nat) v g,xs[i]?=some v->first[i]?=some g->Rel K β v g)
   (h':∀ (i:Nat) v g,ys[i]?=some v->cap[i]?=some g->Rel K β v g):Rel K β (.func f xs.toArray ys.toArray) (.fn f first cap)
theorem Rel.mono {K K':Fz} {β bX:Bt} {x:Value} {g:GV} (h:Rel K β x g) (hk:cV K K') (hb:dF β bX):Rel K' bX x g:=by
 induction h with
 | v x=>exact .v x
 | U x=>exact .U x
 | agg vs cs hl h ih=>exact .agg vs cs hl ih
 | tup vs cs hl h ih=>exact .tup vs cs hl ih
 | sl0 a c k=>exact .sl0 a c k
 | sl b o c k rows h hc=>exact .sl b o c k rows (fun i r hr=>⟨(h i r hr).1,fun j g hg=>hk _ _ _ ((h i r hr).2 j g hg)⟩) hc
 | box b o' o cs h=>exact .box b o' o cs fun j g hg=>hk _ _ _ (h j g hg)
 | loc i o b h=>exact .loc i o b zgP
 | vec i n a c h =>
  obtain ⟨h0,m,I,M,h3⟩:=h;have h4:=hb i;rw [I] at h4;obtain ⟨h',m',h5,h6,h7⟩:=h4;exact .vec i n a c ⟨h',m',h5,by omega,fun he=>by rw [h7 zfO];exact h3 zfO⟩
 | vp i n k idx off x h =>
  obtain ⟨h0,m,I,M,h3⟩:=h;have h4:=hb i;rw [I] at h4;obtain ⟨h',m',h5,h6,h7⟩:=h4;exact .vp i n k idx off x ⟨h',m',h5,by omega,fun he=>by rw [h7 zfO];exact h3 zfO⟩
 | arr i o n b c h=>exact .arr i o n b c zgP
 | fn f xs ys first cap hl kY h h' ih ih'=>exact .fn f xs ys first cap hl kY ih ih'
def GV.pc:GV->Bool
 | .v _=>true
 | .sl _ _=>true
 | .box _ _=>true
 | _=>false
theorem Rel.pc {K:Fz} {β bX:Bt} {x:Value} {g:GV} (h:Rel K β x g) (hp:g.pc=true):Rel K bX x g:=by
 cases h <;> first | (cases hp;done) | skip
 ·exact .v _
 ·exact .sl0 _ _ _
 ·rename_i h hc;exact .sl _ _ _ _ _ h hc
 ·rename_i h;exact .box _ _ _ _ h
def GV.one:GV->Bool
 | .v x=>M7 x
 | .U=>false
 | .agg _=>false
 | .tup _=>false
 | .vp _ _ _ _ _=>false
 | _=>true
theorem Rel.one {K:Fz} {β:Bt} {x:Value} {g:GV} (h:Rel K β x g) (ho:g.one=true):M7 x=true:=by
 cases h <;> first | exact ho | rfl | (cases ho;done)
abbrev bm (K:Fz) (β:Bt) (vs:List Value) (gs:List GV):Prop:=vs.length=gs.length/\∀ (i:Nat) v g,vs[i]?=some v->gs[i]?=some g->Rel K β v g
theorem bm.mono {K K':Fz} {β bX:Bt} {vs:List Value} {gs:List GV} (h:bm K β vs gs) (hk:cV K K') (hb:dF β bX):bm K' bX vs gs:=⟨h.1,fun i v g I M=>(h.2 i v g I M).mono hk hb⟩
theorem bm.nil {K:Fz} {β:Bt}:bm K β [] []:=⟨rfl,fun i v g h=>by simp at h⟩
theorem bm.cons {K:Fz} {β:Bt} {v:Value} {g:GV} {vs:List Value} {gs:List GV} (h:Rel K β v g) (hs:bm K β vs gs):bm K β (v::vs) (g::gs):=by
 refine ⟨by simp [hs.1],fun i x y I M=>?_⟩
 cases i with
 | zero=>cases I;cases M;exact h
 | succ i=>exact hs.2 i x y I M
theorem bm.pL {K:Fz} {β:Bt} {v:Value} {g:GV} {vs:List Value} {gs:List GV} (h:bm K β (v::vs) (g::gs)):Rel K β v g/\bm K β vs gs :=
 ⟨h.2 0 v g rfl rfl,by simpa using h.1,fun i x y I M=>h.2 (i+1) x y I M⟩
theorem bm.app {K:Fz} {β:Bt} {vs us:List Value} {gs hs:List GV} (h:bm K β vs gs) (k:bm K β us hs):bm K β (vs++us) (gs++hs):=by
 induction vs generalizing gs with
 | nil =>
  have:gs=[]:=by have:=h.1;simp at this;exact gC this.symm
  subst this;exact k
 | cons v vs ih =>
  cases gs with
  | nil=>have:=h.1;simp at this
  | cons g gs=>obtain ⟨I,M⟩:=h.pL;exact .cons I (ih M)
theorem bm.at {K:Fz} {β:Bt} {vs:List Value} {gs:List GV} (h:bm K β vs gs) {i:Nat} {g:GV} (hg:gs[i]?=some g):∃ v,vs[i]?=some v/\Rel K β v g:=by
 have hi:i < vs.length:=by rw [h.1];exact (bq hg).1
 exact ⟨vs[i],by simp [hi],h.2 i _ g zgu hg⟩
theorem bm.take {K:Fz} {β:Bt} {vs:List Value} {gs:List GV} (h:bm K β vs gs) (n:Nat):bm K β (vs.take n) (gs.take n):=by
 refine ⟨by simp [h.1],fun i x y I M=>?_⟩;rw [getElem?_take] at I M;split at I
 ·rename_i hi;rw [ab hi] at M;exact h.2 i x y I M
 ·cases I
theorem bm.drop {K:Fz} {β:Bt} {vs:List Value} {gs:List GV} (h:bm K β vs gs) (n:Nat):bm K β (vs.drop n) (gs.drop n):=by
 refine ⟨by simp [h.1],fun i x y I M=>?_⟩;rw [getElem?_drop] at I M;exact h.2 _ x y I M
def cK:List GV->Nat->GV
 | [],_=>.U
 | g::_,0=>g
 | _::l,n+1=>cK l n
def bp:List GV->Nat->GV->List GV
 | [],_,_=>[]
 | _::l,0,g=>g::l
 | x::l,n+1,g=>x::bp l n g
def be (l:List GV):Operand->GV
 | .tmp t=>cK l t
 | .const v=>.v v
 | .global g=>.v (.pointer (some ⟨g,0,none⟩))
 | .func f=>.v (.func (.func f) #[] #[])
def bC (l:List GV) (d:Option Tmp) (g:GV):List GV:=match d with | some d=>bp l d g | none=>l
inductive FR (K:Fz) (β:Bt):List GV->List Value->Prop
 | nil:FR K β [] []
 | cons {g:GV} {v:Value} {gs:List GV} {vs:List Value} (h:Rel K β v g) (t:FR K β gs vs):FR K β (g::gs) (v::vs)
theorem FR.mono {K K':Fz} {β bX:Bt} {gs:List GV} {vs:List Value} (h:FR K β gs vs) (hk:cV K K') (hb:dF β bX):FR K' bX gs vs:=by
 induction h with
 | nil=>exact .nil
 | cons h t ih=>exact .cons (h.mono hk hb) ih
theorem FR.nth {K:Fz} {β:Bt} {gs:List GV} {vs:List Value} (h:FR K β gs vs) (t:Nat):Rel K β (nth vs t) (cK gs t):=by
 induction h generalizing t with
 | nil=>exact .U _
 | cons h _ ih=>cases t with | zero=>exact h | succ t=>exact ih t
theorem FR.ev {K:Fz} {β:Bt} {gs:List GV} {vs:List Value} (h:FR K β gs vs) (x:Operand):Rel K β (ev vs x) (be gs x):=by
 cases x with
 | tmp t=>exact h.nth t
 | const v=>exact .v _
 | global g=>exact .v _
 | func f=>exact .v _
theorem FR.fS {K:Fz} {β:Bt} {gs:List GV} {vs:List Value} (h:FR K β gs vs) (t:Nat) {v:Value} {g:GV} (hv:Rel K β v g):FR K β (bp gs t g) (fS vs t v):=by
 induction h generalizing t with
 | nil=>exact .nil
 | cons h ht ih=>cases t with | zero=>exact .cons hv ht | succ t=>exact .cons h (ih t)
theorem FR.put {K:Fz} {β:Bt} {gs:List GV} {vs:List Value} (h:FR K β gs vs) (d:Option Tmp) {v:Value} {g:GV} (hv:Rel K β v g):FR K β (bC gs d g) (put vs d v):=by
 cases d with | none=>exact h | some d=>exact h.fS d hv
theorem FR.args {K:Fz} {β:Bt} {gs:List GV} {vs:List Value} (h:FR K β gs vs) (xs:List Operand):bm K β (xs.map (Xw.ev vs)) (xs.map (be gs)):=by
 induction xs with
 | nil=>exact .nil
 | cons x xs ih=>exact .cons (h.ev x) ih
inductive Ob where
 | gone
 | box (E:TypeId) (cs:List GV)
 | vec (E:TypeId) (k fz:Nat) (rows:List (List GV))
 | vech (E:TypeId) (k:Nat) (rows:List (List GV)) (x:Value)
 | lost
 | blk (b:Nat) (p:Obj->Prop)
def mK (K:Fz) (w:World):Prop:=∀ b o g,K b o=some g->g.pc=true/\∃ v,ig w.heap b o=some v/\Rel K (fun _=>.no) v g
def gX (k:Nat) (rows:List (List GV)):Prop:=∀ r∈rows,r.length=k/\∀ g∈r,g.pc=true
def lZ (K:Fz) (β:Bt) (w:World) (i:Nat):Ob->Prop
 | .gone=>β i=.no
 | .box E cs=>∃ b vs,β i=.fix b/\w.heap[b]?=some (.cells vs.toArray E (0,0))/\bm K β vs cs/\∀ o,K b o=none
 | .vec E k fz rows=>∃ h xs,β i=.gr h rows.length/\jg w 0 E k h rows.length xs/\bm K β xs rows.flatten/\gX k rows /\
   (∀ b,h.ownBlock=some b->(∀ o,fz * k<=o->K b o=none)/\∀ o g,o < fz * k->rows.flatten[o]?=some g->K b o=some g)/\fz<=rows.length
 | .vech E k rows x=>∃ xs,β i=.gr x rows.length/\jg w 0 E k x rows.length xs/\bm K β xs rows.flatten/\gX k rows/\∀ b,x.ownBlock=some b->∀ o,K b o=none
 | .lost=>∀ b,(β i).blk=some b->b < w.heap.size
 | .blk b p=>β i=.fix b/\(∃ o,w.heap[b]?=some o/\p o)/\∀ o,K b o=none
def xP:List Int:=(List.range 20).map fun i=>((10 ^ i:Nat):Int)
def xU:List Int:=(List.range 256).map fun i=>if i=9\/i=10\/i=11\/i=12\/i=13\/i=32 then 1 else 0
def zn (m:Int):Fz:=fun b o =>
 if b=0 then (match o with | 0=>some (.v (.int .i64 m)) | _=>none)
 else if b=3 then xP[o]?.map fun z=>.v (.int .u64 z)
 else if b=1 then xU[o]?.map fun z=>.v (.int .u8 z)
 else none
def va (w:World) (b n:Nat):Prop:=∃ cs E z,w.heap[b]?=some (.cells cs E z)/\cs.size=n
theorem va.lt {w:World} {b n:Nat} (h:va w b n):b < w.heap.size:=by obtain ⟨cs,E,z,h,_⟩:=h;exact ua h
structure kL (K:Fz) (β:Bt) (w:World):Prop where
 le:∃ m,cV (zn m) K
 pow:va w 3 20
 spc:va w 1 256
 free:∀ i b,(β i).blk=some b->b≠3/\b≠1
theorem kL.step {S:Nat->Prop} {K K':Fz} {β bX:Bt} {w w':World} (h:kL K β w) (hx:Ext S w w') (hS:∀ b,S b->∃ i,(β i).blk=some b) (hk:cV K K') (sK:∀ i b,(bX i).blk=some b->(∃ j,(β j).blk=some b)\/w.heap.size<=b):kL K' bX w':=by
 obtain ⟨⟨m,I⟩,M,h3,h4⟩:=h
 have key:∀ {b n:Nat},va w b n->¬ S b->va w' b n:=fun ⟨cs,E,z,a,e⟩ hn=>⟨cs,E,z,hx.blk a hn,e⟩
 refine ⟨⟨m,I.trans hk⟩,key M (fun hs=>?_),key h3 (fun hs=>?_),fun i b hb=>?_⟩
 ·obtain ⟨i,hi⟩:=hS _ hs;exact (h4 i _ hi).1 rfl
 ·obtain ⟨i,hi⟩:=hS _ hs;exact (h4 i _ hi).2 rfl
 ·rcases sK i b hb with ⟨j,hj⟩ | hs
  ·exact h4 j b hj
  ·have:=M.lt;have:=h3.lt;exact ⟨by omega,by omega⟩
structure Bs where
 w0:World
 foot:Nat->Prop
 K0:Fz
 β0:Bt
 m:Nat
structure Inv (B:Bs) (K:Fz) (β:Bt) (Γ:List Ob) (w:World):Prop where
 ext:Ext B.foot B.w0 w
 kle:cV B.K0 K
 ble:dF B.β0 β
 loc:∀ i,B.m<=i->B.β0 i=.no
 fz:mK K w
 ob:∀ i x,Γ[i]?=some x->lZ K β w i x
 out:∀ i,Γ.length<=i->β i=.no
 dis:∀ i j b,(β i).blk=some b->(β j).blk=some b->i=j
 own:∀ i b,(β i).blk=some b->B.foot b\/B.w0.heap.size<=b
 kn:∀ b o g,K b o=some g->B.K0 b o=some g\/B.foot b\/B.w0.heap.size<=b
 tab:kL K β w
section
variable {B:Bs} {K:Fz} {β:Bt} {Γ:List Ob} {w:World}
theorem lZ.lt {i:Nat} {x:Ob} (h:lZ K β w i x) {b:Nat} (hb:(β i).blk=some b):b < w.heap.size:=by
 cases x with
 | gone=>simp only [lZ] at h;rw [h] at hb;cases hb
 | box E cs =>
  obtain ⟨b',vs,I,M,_⟩:=h;rw [I] at hb;cases hb;exact ua M
 | vec E k fz rows =>
  obtain ⟨h',xs,I,M,_⟩:=h;rw [I] at hb;exact (M.lt hb).2
 | vech E k rows x =>
  obtain ⟨xs,I,M,_⟩:=h;rw [I] at hb;exact (M.lt hb).2
 | lost=>exact h b hb
 | blk b' p =>
  obtain ⟨I,⟨o,M,_⟩,_⟩:=h;rw [I] at hb;cases hb;exact (Array.getElem?_eq_some_iff.1 M).1
theorem Inv.lt (h:Inv B K β Γ w) {i b:Nat} (hb:(β i).blk=some b):b < w.heap.size:=by
 by_cases hi:i < Γ.length
 ·exact (h.ob i Γ[i] zgu).lt hb
 ·rw [h.out i zfO] at hb;cases hb
theorem mK.lt (h:mK K w) {b o:Nat} {g:GV} (hg:K b o=some g):b < w.heap.size:=by
 obtain ⟨_,v,hv,_⟩:=h b o g hg;exact GY hv
def blocks (β:Bt):Nat->Prop:=fun b=>∃ i,(β i).blk=some b
def cur (K:Fz) (β:Bt) (Γ:List Ob) (w:World):Bs:=⟨w,blocks β,K,β,Γ.length⟩
theorem Inv.here (h:Inv B K β Γ w):Inv (cur K β Γ w) K β Γ w :=
 ⟨Ext.refl w,cV.refl K,dF.refl β,h.out,h.fz,h.ob,h.out,h.dis,fun i b hb=>.inl ⟨i,hb⟩,fun _ _ _ h=>.inl h,h.tab⟩
theorem Inv.Qw {K':Fz} {bX:Bt} {aR Γ0:List Ob} {w':World} (h:Inv B K β Γ w) (k:Inv (cur K β Γ0 w) K' bX aR w'):Inv B K' bX aR w' :=
 ⟨h.ext.step k.ext (fun j hj=>by obtain ⟨i,hi⟩:=hj;exact (h.own i j hi).symm),h.kle.trans k.kle,h.ble.trans k.ble,h.loc,k.fz,k.ob,k.out,k.dis,
  fun i b hb=>by
   rcases k.own i b hb with I | I
   ·obtain ⟨j,hj⟩:=I;exact h.own j b hj
   ·exact .inr (jO h.ext.size I),
  fun b o g hg=>by
   rcases k.kn b o g hg with I | ⟨j,hj⟩ | I
   ·exact h.kn b o g I
   ·exact .inr (h.own j b hj)
   ·exact .inr (.inr (jO h.ext.size I)),k.tab⟩
theorem lZ.ext {S:Nat->Prop} {K':Fz} {bX:Bt} {w':World} {i:Nat} {x:Ob} (h:lZ K β w i x) (hx:Ext S w w') (hs:∀ b,(β i).blk=some b->¬ S b) (hk:cV K K') (hb:dF β bX)
  (he:bX i=β i) (hn:∀ b o,(β i).blk=some b->K b o=none->K' b o=none):lZ K' bX w' i x:=by
 cases x with
 | gone=>simp only [lZ] at h |-;rw [he,h]
 | box E cs =>
  obtain ⟨b,vs,I,M,h3,h4⟩:=h
  have eT:(β i).blk=some b:=by rw [I];rfl
  exact ⟨b,vs,he.trans I,hx.blk M (hs b eT),h3.mono hk hb,fun o=>hn b o eT (h4 o)⟩
 | vec E k fz rows =>
  obtain ⟨h',xs,I,M,h3,h4,h5,h6⟩:=h
  have eT:∀ b,h'.ownBlock=some b->(β i).blk=some b:=fun b hb=>by rw [I];exact hb
  exact ⟨h',xs,he.trans I,M.ext hx (fun b bA=>hs b (eT b bA)),h3.mono hk hb,h4,fun b bA=>⟨fun o ho=>hn b o (eT b bA) ((h5 b bA).1 o ho),fun o g ho hg=>hk _ _ _ ((h5 b bA).2 o g ho hg)⟩,h6⟩
 | vech E k rows x =>
  obtain ⟨xs,I,M,h3,h4,h5⟩:=h
  have eT:∀ b,x.ownBlock=some b->(β i).blk=some b:=fun b hb=>by rw [I];exact hb
  exact ⟨xs,he.trans I,M.ext hx (fun b bA=>hs b (eT b bA)),h3.mono hk hb,h4,fun b bA o=>hn b o (eT b bA) (h5 b bA o)⟩
 | lost=>exact fun b bA=>y5 (h b (by rw [<-he];exact bA)) hx.size
 | blk b p =>
  obtain ⟨I,⟨o,M,h3⟩,h4⟩:=h
  have eT:(β i).blk=some b:=by rw [I];rfl
  exact ⟨he.trans I,⟨o,hx.blk M (hs b eT),h3⟩,fun o=>hn b o eT (h4 o)⟩
theorem mK.ext {S:Nat->Prop} {w':World} (h:mK K w) (hx:Ext S w w') (hs:∀ b o g,K b o=some g->¬ S b):mK K w':=fun b o g hg=>by
 obtain ⟨I,v,hv,hr⟩:=h b o g hg;exact ⟨I,v,hx.c hv (hs b o g hg),hr⟩
theorem Inv.same {w':World} (h:Inv B K β Γ w) (hx:Ext iD w w'):Inv B K β Γ w' :=
 ⟨h.ext.step hx (fun j hj=>hj.elim),h.kle,h.ble,h.loc,h.fz.ext hx (fun _ _ _ _ h=>h),fun i x hi=>(h.ob i x hi).ext hx (fun _ _ h=>h) (cV.refl K) (dF.refl β) rfl (fun _ _ _ h=>h),h.out,h.dis,h.own,h.kn,h.tab.step hx (fun _ h=>h.elim) (cV.refl K) (fun i b h=>.inl ⟨i,h⟩)⟩
def gi (p:Nat->Bool) (β:Bt):Bt:=fun i=>match p i with
 | true=>β i
 | false=>.no
theorem im {p:Nat->Bool} {β:Bt} {i:Nat} (h:p i=true):gi p β i=β i:=by simp [gi,h]
theorem tg {p:Nat->Bool} {β:Bt} {i:Nat} (h:p i=false):gi p β i=.no:=by simp [gi,h]
end
section
variable {B:Bs} {K:Fz} {β:Bt} {Γ:List Ob} {w:World}
def gk (β:Bt) (i:Nat) (x:Bk):Bt:=fun j=>if j=i then x else β j
theorem bG {i:Nat} {x:Bk}:gk β i x i=x:=by simp [gk]
theorem b9 {i j:Nat} {x:Bk} (h:j≠i):gk β i x j=β j:=by simp [gk,h]
theorem nS {i j b:Nat} {x:Bk} (h:(gk β i x j).blk=some b):x.blk=some b\/(β j).blk=some b:=by
 by_cases hj:j=i
 ·subst hj;rw [bG] at h;exact .inl h
 ·rw [b9 hj] at h;exact .inr h
theorem jr {i:Nat} {x:Bk} (h:sM (β i) x):dF β (gk β i x):=fun j=>by
 by_cases hj:j=i
 ·subst hj;rw [bG];exact h
 ·rw [b9 hj];exact sM.refl _
theorem bm.self {vs:List Value}:bm K β vs (vs.map .v):=⟨by simp,fun i v g I M=>by
 rw [aS,I] at M;cases M;exact .v _⟩
theorem Inv.add {w':World} {b:Nat} {vs:List Value} {cs:List GV} {E:TypeId} (h:Inv B K β Γ w) (hn:vV w w' b (.cells vs.toArray E)) (hr:bm K β vs cs) :
  Inv B K (gk β Γ.length (.fix b)) (Γ++[.box E cs]) w':=by
 have cZ:β Γ.length=.no:=h.out _ (aD _);have hle:dF β (gk β Γ.length (.fix b)):=jr zgg
 have aj:∀ i b',(β i).blk=some b'->b'≠b:=fun i b' bA=>by have:=h.lt bA;have:=hn.fresh;omega
 have hK:∀ o,K b o=none:=fun o=>by
  cases hk:K b o with
  | none=>rfl
  | some g=>have:=h.fz.lt hk;have:=hn.fresh;omega
 refine ⟨h.ext.step hn.ext (fun j hj=>hj.elim),h.kle,h.ble.trans hle,h.loc,h.fz.ext hn.ext (fun _ _ _ _ h=>h),fun i x hi=>?_,fun i hi=>?_,fun i j b' hi hj=>?_,fun i b' hi=>?_,h.kn,h.tab.step hn.ext (fun _ h=>h.elim) (cV.refl K) (fun i b2 hi=>by rcases nS hi with I | I;(· cases I;exact .inr (by have:=hn.fresh;omega));exact .inl ⟨i,I⟩)⟩
 ·by_cases sG:i < Γ.length
  ·rw [eR sG] at hi
   have cn:i≠Γ.length:=by omega
   exact (h.ob i x hi).ext hn.ext (fun _ _ h=>h) (cV.refl K) hle (b9 cn) (fun _ _ _ h=>h)
  ·have:i=Γ.length:=by have:=(bq hi).1;simp at this;omega
   subst this;simp at hi;subst hi;exact ⟨b,vs,bG,hn.blk,hr.mono (cV.refl K) hle,hK⟩
 ·simp at hi;rw [b9 zfO];exact h.out i zfO
 ·by_cases I:i=Γ.length <;> by_cases M:j=Γ.length
  ·omega
  ·subst I;rw [bG] at hi;rw [b9 M] at hj;cases hi;exact absurd rfl (aj j _ hj)
  ·subst M;rw [bG] at hj;rw [b9 I] at hi;cases hj;exact absurd rfl (aj i _ hi)
  ·exact zfE
 ·by_cases I:i=Γ.length
  ·subst I;rw [bG] at hi;cases hi;exact .inr zgO
  ·rw [b9 I] at hi;exact h.own i b' hi
theorem Inv.GK {w':World} {E k:Nat} {x:Value} {xs:List Value} {rows:List (List GV)} (h:Inv B K β Γ w) (hx:Ext iD w w') (ho:jg w' 0 E k x rows.length xs) (hf:∀ b,x.ownBlock=some b->w.heap.size<=b)
  (hr:bm K β xs rows.flatten) (hk:gX k rows):Inv B K (gk β Γ.length (.gr x rows.length)) (Γ++[.vec E k 0 rows]) w':=by
 have cZ:β Γ.length=.no:=h.out _ (aD _);have hle:dF β (gk β Γ.length (.gr x rows.length)):=jr zgg
 have aj:∀ i b',(β i).blk=some b'->x.ownBlock≠some b':=fun i b' bA he=>by have:=h.lt bA;have:=hf b' he;omega
 have hK:∀ b,x.ownBlock=some b->∀ o,K b o=none:=fun b hb o=>by
  cases hk:K b o with
  | none=>rfl
  | some g=>have:=h.fz.lt hk;have:=hf b hb;omega
 refine ⟨h.ext.step hx (fun j hj=>hj.elim),h.kle,h.ble.trans hle,h.loc,h.fz.ext hx (fun _ _ _ _ h=>h),fun i y hi=>?_,fun i hi=>?_,fun i j b' hi hj=>?_,fun i b' hi=>?_,h.kn,h.tab.step hx (fun _ h=>h.elim) (cV.refl K) (fun i b2 hi=>by rcases nS hi with I | I;(· exact .inr (hf b2 I));exact .inl ⟨i,I⟩)⟩
 ·by_cases sG:i < Γ.length
  ·rw [eR sG] at hi
   have cn:i≠Γ.length:=by omega
   exact (h.ob i y hi).ext hx (fun _ _ h=>h) (cV.refl K) hle (b9 cn) (fun _ _ _ h=>h)
  ·have:i=Γ.length:=by have:=(bq hi).1;simp at this;omega
   subst this;simp at hi;subst hi;exact ⟨x,xs,bG,ho,hr.mono (cV.refl K) hle,hk,fun b hb=>⟨fun o _=>hK b hb o,fun o g ho _=>by omega⟩,aO _⟩
 ·simp at hi;rw [b9 zfO];exact h.out i zfO
 ·by_cases I:i=Γ.length <;> by_cases M:j=Γ.length
  ·omega
  ·subst I;rw [bG] at hi;rw [b9 M] at hj;exact absurd hi (aj j _ hj)
  ·subst M;rw [bG] at hj;rw [b9 I] at hi;exact absurd hj (aj i _ hi)
  ·exact zfE
 ·by_cases I:i=Γ.length
  ·subst I;rw [bG] at hi;exact .inr (jO h.ext.size (hf b' hi))
  ·rw [b9 I] at hi;exact h.own i b' hi
def l0 (K:Fz) (b:Nat) (cs:List GV):Fz:=fun b' o=>if b'=b then cs[o]? else K b' o
theorem uO {b o:Nat} {cs:List GV} {g:GV} (h:cs[o]?=some g):l0 K b cs b o=some g:=by simp [l0,h]
theorem Inv.tS {w':World} {b:Nat} {vs:List Value} {cs:List GV} {E:TypeId} (h:Inv B K β Γ w) (hn:vV w w' b (.cells vs.toArray E)) (hr:bm K β vs cs) (hp:∀ g∈cs,g.pc=true) :
  cV K (l0 K b cs)/\Inv B (l0 K b cs) β Γ w':=by
 have Xu:∀ o,K b o=none:=fun o=>by
  cases hk:K b o with
  | none=>rfl
  | some g=>have:=h.fz.lt hk;have:=hn.fresh;omega
 have hle:cV K (l0 K b cs):=fun b' o g hg=>by
  by_cases hb:b'=b
  ·subst hb;rw [Xu] at hg;cases hg
  ·simp [l0,hb,hg]
 refine ⟨hle,h.ext.step hn.ext (fun j hj=>hj.elim),h.kle.trans hle,h.ble,h.loc,fun b' o g hg=>?_,fun i x hi=>?_,h.out,h.dis,h.own,fun b' o g hg=>?_,h.tab.step hn.ext (fun _ h=>h.elim) hle (fun i b2 h=>.inl ⟨i,h⟩)⟩
 ·by_cases hb:b'=b
  ·subst hb;simp [l0] at hg;obtain ⟨v,hv,fT⟩:=hr.at hg;have zV:=hp g (br hg);exact ⟨zV,v,yf hn.blk zfZ,(fT.mono hle (dF.refl β)).pc zV⟩
  ·have nw:K b' o=some g:=by simpa [l0,hb] using hg
   obtain ⟨I,v,M,h3⟩:=h.fz b' o g nw;exact ⟨I,v,hn.ext.c M (fun h=>h),h3.mono hle (dF.refl _)⟩
 ·refine (h.ob i x hi).ext hn.ext (fun _ _ h=>h) hle (dF.refl β) rfl (fun b' o hb hk=>?_)
  have:b'≠b:=by have:=h.lt hb;have:=hn.fresh;omega
  simp [l0,this,hk]
 ·by_cases hb:b'=b
  ·exact .inr (.inr zgO)
  ·exact h.kn b' o g (by simpa [l0,hb] using hg)
theorem Inv.store {w':World} {i b:Nat} {E:TypeId} {cs Bn:List GV} {Zk:List Value} (h:Inv B K β Γ w) (hi:Γ[i]?=some (.box E cs)) (hb:β i=.fix b) (hs:vX w w' b Zk.toArray E)
  (hr:bm K β Zk Bn):Inv B K β (Γ.set i (.box E Bn)) w':=by
 obtain ⟨b0,vs,I,M,h3,h4⟩:=h.ob i _ hi;rw [hb] at I;cases I
 have eT:(β i).blk=some b:=by rw [hb];rfl
 refine ⟨h.ext.step hs.ext (fun j hj=>?_),h.kle,h.ble,h.loc,h.fz.ext hs.ext (fun b' o g hg he=>?_),fun j x hj=>?_,fun j hj=>h.out j zf4,h.dis,h.own,h.kn,h.tab.step hs.ext (fun j hj=>⟨i,by subst hj;exact eT⟩) (cV.refl K) (fun i b2 h=>.inl ⟨i,h⟩)⟩
 ·subst hj;exact (h.own i _ eT).symm
 ·subst he;rw [h4] at hg;cases hg
 ·rw [dN] at hj;split at hj
  ·rename_i gJ;split at hj
   ·cases hj;subst gJ
    exact ⟨b,Zk,hb,hs.blk,hr,h4⟩
   ·cases hj
  ·rename_i gJ;refine (h.ob j x hj).ext hs.ext (fun b' bA he=>?_) (cV.refl K) (dF.refl β) rfl (fun _ _ _ h=>h);subst he;exact gJ (h.dis i j _ eT bA)
def C3 (K:Fz) (x:Value) (n:Nat) (fl:List GV):Fz:=fun b o=>if x.ownBlock=some b/\o < n then fl[o]? else K b o
theorem AU {x:Value} {n b o:Nat} {fl:List GV} (I:x.ownBlock=some b) (M:o < n):C3 K x n fl b o=fl[o]?:=by unfold C3;rw [ab ⟨I,M⟩]
theorem yn {x:Value} {n b o:Nat} {fl:List GV} (h:¬ (x.ownBlock=some b/\o < n)):C3 K x n fl b o=K b o:=by unfold C3;rw [F h]
theorem C4 {x:Value} {n b o:Nat} {fl:List GV} {g:GV} (h:C3 K x n fl b o=some g):(x.ownBlock=some b/\o < n/\fl[o]?=some g)\/(¬ (x.ownBlock=some b/\o < n)/\K b o=some g):=by
 by_cases hc:x.ownBlock=some b/\o < n
 ·rw [AU hc.1 hc.2] at h;exact .inl ⟨hc.1,hc.2,h⟩
 ·rw [yn hc] at h;exact .inr ⟨hc,h⟩
theorem Inv.grow {w':World} {i:Nat} {E k fz:Nat} {rows news:List (List GV)} {h0 x:Value} {xs ns:List Value} (h:Inv B K β Γ w) (hi:Γ[i]?=some (.vec E k fz rows)) (hb:β i=.gr h0 rows.length)
  (rv:jg w 0 E k h0 rows.length xs/\bm K β xs rows.flatten) (ho:jg w' 0 E k x (rows.length+news.length) (xs++ns)) (hx:Ext (fun b=>h0.ownBlock=some b) w w') (hf:∀ b,x.ownBlock=some b->h0.ownBlock=some b\/w.heap.size<=b)
  (hr:bm K β ns news.flatten) (hk:gX k news) (cn:news≠[]) (ng:∀ b,h0.ownBlock=some b->∀ o v,o < fz * k->ig w.heap b o=some v->ig w'.heap b o=some v) :
  ∃ K',cV K K'/\dF β (gk β i (.gr x (rows++news).length))/\Inv B K' (gk β i (.gr x (rows++news).length)) (Γ.set i (.vec E k fz (rows++news))) w':=by
 obtain ⟨vl,xs',I,M,h3,h4,h5,h6⟩:=h.ob i _ hi;rw [hb] at I;cases I;clear M h3
 have hlen:news.length≠0:=fun h=>cn (gC h)
 have hle:dF β (gk β i (.gr x (rows++news).length)):=jr (by rw [hb];exact ⟨x,_,rfl,by simp,fun he=>by rw [aM] at he;omega⟩)
 have zK:∀ b,h0.ownBlock=some b->(β i).blk=some b:=fun b bA=>by rw [hb];exact bA
 have Mx:rows.flatten.length=rows.length * k:=by rw [<-rv.2.1];exact rv.1.1
 have aci:fz * k<=rows.flatten.length:=by rw [Mx];exact sD k h6
 have Fp:cV K (C3 K x (fz * k) rows.flatten):=fun b o g hg=>by
  by_cases hc:x.ownBlock=some b/\o < fz * k
  ·rw [AU hc.1 hc.2]
   rcases hf b hc.1 with h7 | h7
   ·have Ut:o < rows.flatten.length:=by omega
    have:=(h5 b h7).2 o rows.flatten[o] hc.2 (by simp [Ut]);rw [this] at hg;cases hg;simp [Ut]
   ·have:=h.fz.lt hg;omega
  ·rw [yn hc];exact hg
 refine ⟨C3 K x (fz * k) rows.flatten,Fp,hle,h.ext.step hx (fun j hj=>(h.own i j (zK j hj)).symm),h.kle.trans Fp,h.ble.trans hle,h.loc,fun b o g hg=>?_,fun j y hj=>?_,fun j hj=>?_,fun j j' b hj nO=>?_,fun j b hj=>?_,fun b o g hg=>?_,h.tab.step hx (fun j hj=>⟨i,zK j hj⟩) Fp (fun j b2 hi=>by rcases nS hi with I | I;(· exact (hf b2 I).imp (fun M=>⟨i,zK b2 M⟩) id);exact .inl ⟨j,I⟩)⟩
 ·rcases C4 hg with ⟨bA,BH,hg⟩ | ⟨hc,hg⟩
  ·have zV:g.pc=true:=by
    exact zej
   obtain ⟨v,hv,fT⟩:=rv.2.at hg;obtain ⟨b2,c,tX,_,_,lC⟩:=ho.cells.2 (by intro h0;have:xs=[]:=(List.append_eq_nil_iff.1 h0).1;rw [this] at hv;simp at hv)
   have fJ:b2=b:=by rw [tX] at bA;cases bA;rfl
   subst fJ;have aj:o < xs.length:=(bq hv).1;refine ⟨zV,v,?_,(fT.mono Fp hle).pc zV⟩;rw [<-gw];exact lC o v (by rw [eR aj];exact hv)
  ·obtain ⟨hp,v,hv,fT⟩:=h.fz b o g hg;refine ⟨hp,v,?_,fT.mono Fp (dF.refl _)⟩
   by_cases h7:h0.ownBlock=some b
   ·by_cases h8:o < fz * k
    ·exact ng b h7 o v h8 hv
    ·rw [(h5 b h7).1 o zfO] at hg;cases hg
   ·exact hx.c hv h7
 ·rw [dN] at hj;split at hj
  ·rename_i gJ;split at hj
   ·cases hj;subst gJ
    refine ⟨x,xs++ns,bG,by simpa using ho,?_,?_,fun b bA=>⟨fun o BH=>?_,fun o g BH hg=>?_⟩,by simp;omega⟩
    ·rw [List.flatten_append];exact (rv.2.mono Fp hle).app (hr.mono Fp hle)
    ·intro r Px
     rcases pQ Px with h7 | h7
     ·exact h4 r h7
     ·exact hk r h7
    ·rw [yn zfO]
     rcases hf b bA with h7 | h7
     ·exact (h5 b h7).1 o BH
     ·cases nz:K b o with
      | none=>rfl
      | some g=>have:=h.fz.lt nz;omega
    ·rw [AU bA BH];rw [List.flatten_append,eR zfO] at hg;exact hg
   ·cases hj
  ·rename_i gJ;refine (h.ob j y hj).ext hx (fun b bA he=>?_) Fp hle (b9 (fun he=>gJ he.symm)) (fun b o bA nz=>?_)
   ·exact gJ (h.dis i j b (zK b he) bA)
   ·rw [yn];exact nz;rintro ⟨h7,_⟩
    rcases hf b h7 with h8 | h8
    ·exact gJ (h.dis i j b (zK b h8) bA)
    ·have:=h.lt bA;omega
 ·have nO:Γ.length<=j:=by simpa using hj
  have:i < Γ.length:=(bq hi).1;rw [b9 zfO];exact h.out j nO
 ·have key:∀ j b,j≠i->(β j).blk=some b->x.ownBlock≠some b:=fun j b HF bA he=>by
   rcases hf b he with h7 | h7
   ·exact HF (h.dis j i b bA (zK b h7))
   ·have:=h.lt bA;omega
  by_cases I:j=i <;> by_cases M:j'=i
  ·omega
  ·subst I;rw [bG] at hj;rw [b9 M] at nO;exact absurd hj (key j' b M nO)
  ·subst M;rw [bG] at nO;rw [b9 I] at hj;exact absurd nO (key j b I hj)
  ·rw [b9 I] at hj;rw [b9 M] at nO;exact h.dis j j' b hj nO
 ·by_cases I:j=i
  ·subst I;rw [bG] at hj
   rcases hf b hj with h7 | h7
   ·exact h.own j b (zK b h7)
   ·exact .inr (jO h.ext.size h7)
  ·rw [b9 I] at hj;exact h.own j b hj
 ·rcases C4 hg with ⟨bA,_,_⟩ | ⟨_,hg⟩
  ·rcases hf b bA with h7 | h7
   ·exact .inr (h.own i b (zK b h7))
   ·exact .inr (.inr (jO h.ext.size h7))
  ·exact h.kn b o g hg
theorem Inv.iy {i E k fz:Nat} {rows:List (List GV)} (h:Inv B K β Γ w) (hi:Γ[i]?=some (.vec E k fz rows)) :
  ∃ K',cV K K'/\(∀ x b,β i=.gr x rows.length->x.ownBlock=some b->∀ (o:Nat) g,rows.flatten[o]?=some g->K' b o=some g)/\Inv B K' β (Γ.set i (.vec E k rows.length rows)) w:=by
 obtain ⟨x,xs,I,M,h3,h4,h5,h6⟩:=h.ob i _ hi
 have Mx:rows.flatten.length=rows.length * k:=by rw [<-h3.1];exact M.1
 have eT:∀ b,x.ownBlock=some b->(β i).blk=some b:=fun b hb=>by rw [I];exact hb
 have hle:cV K (C3 K x (rows.length * k) rows.flatten):=fun b o g hg=>by
  by_cases hc:x.ownBlock=some b/\o < rows.length * k
  ·rw [AU hc.1 hc.2]
   have aj:o < rows.flatten.length:=by omega
   by_cases ho:o < fz * k
   ·have:=(h5 b hc.1).2 o rows.flatten[o] ho (by simp [aj]);rw [this] at hg;cases hg;simp [aj]
   ·rw [(h5 b hc.1).1 o zfO] at hg;cases hg
  ·rw [yn hc];exact hg
 refine ⟨C3 K x (rows.length * k) rows.flatten,hle,fun x' b zZ hb o g hg=>?_,h.ext,h.kle.trans hle,h.ble,h.loc,fun b o g hg=>?_,fun j y hj=>?_,fun j hj=>h.out j zf4,h.dis,h.own,fun b o g hg=>?_,h.tab.step (S:=iD) (Ext.refl w) (fun _ h=>h.elim) hle (fun i b2 h=>.inl ⟨i,h⟩)⟩
 ·rw [I] at zZ;cases zZ;rw [AU hb (by rw [<-Mx];exact (bq hg).1)];exact hg
 ·rcases C4 hg with ⟨bA,BH,hg⟩ | ⟨hc,hg⟩
  ·have zV:g.pc=true:=by
    exact zej
   obtain ⟨v,hv,fT⟩:=h3.at hg;obtain ⟨b2,c,tX,_,_,lC⟩:=M.cells.2 (by intro h0;rw [h0] at hv;simp at hv)
   have fJ:b2=b:=by rw [tX] at bA;cases bA;rfl
   subst fJ;exact ⟨zV,v,by rw [<-gw];exact lC o v hv,(fT.mono hle (dF.refl β)).pc zV⟩
  ·obtain ⟨h7,v,h8,h9⟩:=h.fz b o g hg;exact ⟨h7,v,h8,h9.mono hle (dF.refl _)⟩
 ·rw [dN] at hj;split at hj
  ·rename_i gJ;split at hj
   ·cases hj;subst gJ
    refine ⟨x,xs,I,M,h3.mono hle (dF.refl β),h4,fun b hb=>⟨fun o ho=>?_,fun o g ho hg=>?_⟩,aD _⟩
    ·rw [yn zfO];exact (h5 b hb).1 o (jO (sD k h6) ho)
    ·rw [AU hb ho];exact hg
   ·cases hj
  ·rename_i gJ;refine (h.ob j y hj).ext (Ext.refl w) (fun _ _ h=>h) hle (dF.refl β) rfl (fun b o bA nz=>?_) (S:=iD);rw [yn];exact nz;rintro ⟨h7,_⟩;exact gJ (h.dis i j b (eT b h7) bA)
 ·rcases C4 hg with ⟨bA,_,_⟩ | ⟨_,hg⟩
  ·exact .inr (h.own i b (eT b bA))
  ·exact h.kn b o g hg
end
mutual
def ey (f:Nat->Nat):GV->GV
 | .v x=>.v x
 | .U=>.U
 | .agg cs=>.agg (l7 f cs)
 | .tup cs=>.tup (l7 f cs)
 | .sl k rows=>.sl k rows
 | .box cs o=>.box cs o
 | .loc i o=>.loc (f i) o
 | .vec i n=>.vec (f i) n
 | .vp i n k idx off=>.vp (f i) n k idx off
 | .arr i o n=>.arr (f i) o n
 | .fn g a c=>.fn g (l7 f a) (l7 f c)
def l7 (f:Nat->Nat):List GV->List GV
 | []=>[]
 | g::gs=>ey f g::l7 f gs
end
theorem lL (f:Nat->Nat) (gs:List GV):l7 f gs=gs.map (ey f):=by
 induction gs with
 | nil=>rfl
 | cons g gs ih=>simp [l7,ih]
theorem Rel.DO {K:Fz} {β:Bt} {f:Nat->Nat} {x:Value} {g:GV} (h:Rel K (fun j=>β (f j)) x g):Rel K β x (ey f g):=by
 induction h with
 | v x=>exact .v x
 | U x=>exact .U x
 | agg vs cs hl h ih =>
  rw [ey,lL]
  refine .agg vs _ zfR fun i v g I M=>?_
  rw [aS] at M
  cases hc:cs[i]? with
  | none=>rw [hc] at M;cases M
  | some c=>rw [hc] at M;cases M;exact ih i v c I hc
 | tup vs cs hl h ih =>
  rw [ey,lL]
  refine .tup vs _ zfR fun i v g I M=>?_
  rw [aS] at M
  cases hc:cs[i]? with
  | none=>rw [hc] at M;cases M
  | some c=>rw [hc] at M;cases M;exact ih i v c I hc
 | sl0 a c k=>exact .sl0 a c k
 | sl b o c k rows h hc=>exact .sl b o c k rows h hc
 | box b o' o cs h=>exact .box b o' o cs h
 | loc i o b h=>exact .loc _ o b h
 | vec i n a c h=>exact .vec _ n a c h
 | vp i n k idx off x h=>exact .vp _ n k idx off x h
 | arr i o n b c h=>exact .arr _ o n b c h
 | fn g xs ys first cap hl kY h h' ih ih' =>
  rw [ey,lL,lL];refine .fn g xs ys _ _ zfR (by simpa using kY) (fun i v g I M=>?_) (fun i v g I M=>?_)
  ·rw [aS] at M
   cases hc:first[i]? with
   | none=>rw [hc] at M;cases M
   | some c=>rw [hc] at M;cases M;exact ih i v c I hc
  ·rw [aS] at M
   cases hc:cap[i]? with
   | none=>rw [hc] at M;cases M
   | some c=>rw [hc] at M;cases M;exact ih' i v c I hc
theorem Rel.DE {K:Fz} {β:Bt} {f:Nat->Nat} {x:Value} {g:GV} (h:Rel K β x (ey f g)):Rel K (fun j=>β (f j)) x g:=by
 generalize he:ey f g=g' at h
 induction h generalizing g with
 | v x =>
  cases g <;> simp only [ey] at he <;> first | (cases he;done) | skip
  cases he;exact .v x
 | U x =>
  cases g <;> simp only [ey] at he <;> first | (cases he;done) | skip
  exact .U x
 | agg vs cs hl h ih =>
  cases g <;> simp only [ey] at he <;> first | (cases he;done) | skip
  rename_i ds;rw [lL] at he;cases he
  exact .agg vs ds zfR fun i v g I M=>ih i v (ey f g) I zgD rfl
 | tup vs cs hl h ih =>
  cases g <;> simp only [ey] at he <;> first | (cases he;done) | skip
  rename_i ds;rw [lL] at he;cases he
  exact .tup vs ds zfR fun i v g I M=>ih i v (ey f g) I zgD rfl
 | sl0 a c k =>
  cases g <;> simp only [ey] at he <;> first | (cases he;done) | skip
  cases he;exact .sl0 a c _
 | sl b o c k rows h hc =>
  cases g <;> simp only [ey] at he <;> first | (cases he;done) | skip
  cases he;exact .sl b o c k rows h hc
 | box b o' o cs h =>
  cases g <;> simp only [ey] at he <;> first | (cases he;done) | skip
  cases he;exact .box b o' o cs h
 | loc i o b h =>
  cases g <;> simp only [ey] at he <;> first | (cases he;done) | skip
  cases he;exact .loc _ o b h
 | vec i n a c h =>
  cases g <;> simp only [ey] at he <;> first | (cases he;done) | skip
  cases he;exact .vec _ n a c h
 | vp i n k idx off x h =>
  cases g <;> simp only [ey] at he <;> first | (cases he;done) | skip
  cases he;exact .vp _ n k idx off x h
 | arr i o n b c h =>
  cases g <;> simp only [ey] at he <;> first | (cases he;done) | skip
  cases he;exact .arr _ o n b c h
 | fn g' xs ys first cap hl kY h h' ih ih' =>
  cases g <;> simp only [ey] at he <;> first | (cases he;done) | skip
  rename_i f' ds es;rw [lL,lL] at he;cases he;exact .fn _ xs ys ds es zfR (by simpa using kY) (fun i v g I M=>ih i v (ey f g) I zgD rfl)
   (fun i v g I M=>ih' i v (ey f g) I zgD rfl)
mutual
def GV.ok (p:Nat->Bool):GV->Bool
 | .loc i _=>p i
 | .vec i _=>p i
 | .vp i _ _ _ _=>p i
 | .arr i _ _=>p i
 | .agg cs=>FP p cs
 | .tup cs=>FP p cs
 | .fn _ a c=>FP p a&&FP p c
 | .v _=>true
 | .U=>true
 | .sl _ _=>true
 | .box _ _=>true
def FP (p:Nat->Bool):List GV->Bool
 | []=>true
 | g::gs=>GV.ok p g&&FP p gs
end
def below (n:Nat):Nat->Bool:=fun i=>Nat.blt i n
def other (n:Nat):Nat->Bool:=fun i=>!Nat.beq i n
abbrev GV.lt (n:Nat) (g:GV):Bool:=g.ok (below n)
theorem xL {p:Nat->Bool} {gs:List GV} (h:FP p gs=true) {g:GV} (hg:g∈gs):g.ok p=true:=by
 induction gs with
 | nil=>cases hg
 | cons x gs ih =>
  simp only [FP,aH] at h
  rcases dw hg with rfl | hg
  ·exact h.1
  ·exact ih h.2 hg
theorem Rel.res {K:Fz} {β:Bt} {p:Nat->Bool} {x:Value} {g:GV} (h:Rel K β x g) (hl:g.ok p=true):Rel K (gi p β) x g:=by
 induction h with
 | v x=>exact .v x
 | U x=>exact .U x
 | agg vs cs nB h ih=>simp only [GV.ok] at hl;exact .agg vs cs nB fun i v g I M=>ih i v g I M (xL hl (br M))
 | tup vs cs nB h ih=>simp only [GV.ok] at hl;exact .tup vs cs nB fun i v g I M=>ih i v g I M (xL hl (br M))
 | sl0 a c k=>exact .sl0 a c k
 | sl b o c k rows h hc=>exact .sl b o c k rows h hc
 | box b o' o cs h=>exact .box b o' o cs h
 | loc i o b h=>simp only [GV.ok] at hl;exact .loc _ o b (by rw [im hl,h])
 | vec i m a c h=>simp only [GV.ok] at hl;exact .vec _ m a c (by rw [im hl];exact h)
 | vp i m k idx off x h=>simp only [GV.ok] at hl;exact .vp _ m k idx off x (by rw [im hl];exact h)
 | arr i o m b c h=>simp only [GV.ok] at hl;exact .arr _ o m b c (by rw [im hl,h])
 | fn g' xs ys first cap nB kY h h' ih ih' =>
  simp only [GV.ok,aH] at hl
  exact .fn _ xs ys first cap nB kY (fun i v g I M=>ih i v g I M (xL hl.1 (br M))) (fun i v g I M=>ih' i v g I M (xL hl.2 (br M)))
def Ob.ok (p:Nat->Bool):Ob->Bool
 | .box _ cs=>FP p cs
 | _=>true
def Ob.ey (f:Nat->Nat):Ob->Ob
 | .box E cs=>.box E (l7 f cs)
 | x=>x
def sL (p:Nat->Bool):List Ob->Bool
 | []=>true
 | x::r=>Ob.ok p x&&sL p r
abbrev xK (n:Nat) (Γ:List Ob):Bool:=sL (below n) Γ
theorem Lq {p:Nat->Bool} {gs:List Ob} (h:sL p gs=true) {g:Ob} (hg:g∈gs):g.ok p=true:=by
 induction gs with
 | nil=>cases hg
 | cons x gs ih =>
  simp only [sL,aH] at h
  rcases dw hg with rfl | hg
  ·exact h.1
  ·exact ih h.2 hg
def Nh (p:Nat->Bool):List GV->List GV
 | []=>[]
 | g::gs=>(match GV.ok p g with | true=>g | false=>.U)::Nh p gs
abbrev G2 (n:Nat) (fr:List GV):List GV:=Nh (below n) fr
theorem FR.res {K:Fz} {β:Bt} {p:Nat->Bool} {fr:List GV} {l:List Value} (h:FR K β fr l):FR K (gi p β) (Nh p fr) l:=by
 induction h with
 | nil=>exact .nil
 | cons h t ih =>
  rw [Nh];split
  ·rename_i hl;exact .cons (h.res hl) ih
  ·exact .cons (.U _) ih
theorem lZ.res {K:Fz} {β:Bt} {w:World} {p:Nat->Bool} {i:Nat} {x:Ob} (h:lZ K β w i x) (hi:p i=true) (hx:x.ok p=true):lZ K (gi p β) w i x:=by
 cases x with
 | gone=>simp only [lZ] at h |-;rw [im hi,h]
 | box E cs =>
  obtain ⟨b,vs,I,M,h3,h4⟩:=h;exact ⟨b,vs,by rw [im hi,I],M,⟨h3.1,fun i v g h5 h6=>(h3.2 i v g h5 h6).res (xL hx (br h6))⟩,h4⟩
 | vec E k fz rows =>
  obtain ⟨h0,xs,I,M,h3,h4,h5⟩:=h;refine ⟨h0,xs,by rw [im hi,I],M,⟨h3.1,fun i v g h6 h7=>(h3.2 i v g h6 h7).pc ?_⟩,h4,h5⟩;exact zaB
 | vech E k rows x =>
  obtain ⟨xs,I,M,h3,h4,h5⟩:=h;refine ⟨xs,by rw [im hi,I],M,⟨h3.1,fun i v g h6 h7=>(h3.2 i v g h6 h7).pc ?_⟩,h4,h5⟩;exact zaB
 | lost=>exact fun b hb=>h b (by rw [im hi] at hb;exact hb)
 | blk b q=>exact ⟨by rw [im hi,h.1],h.2⟩
section
variable {B:Bs} {K:Fz} {β:Bt} {Γ:List Ob} {w:World}
theorem uP {n i:Nat} (h:i < n):below n i=true:=by simpa [below] using h
theorem xc {n i:Nat} (h:n<=i):below n i=false:=by
 cases hb:below n i with
 | false=>rfl
 | true=>simp [below] at hb;omega
theorem Inv.cut {n:Nat} (h:Inv B K β Γ w) (hm:B.m<=n) (hl:xK n (Γ.take n)=true):Inv B K (gi (below n) β) (Γ.take n) w:=by
 have dY:∀ i b,(gi (below n) β i).blk=some b->(β i).blk=some b:=fun i b hi=>by
  simp only [gi] at hi;split at hi
  ·exact hi
  ·cases hi
 refine ⟨h.ext,h.kle,fun i=>?_,h.loc,h.fz,fun i x hi=>?_,fun i hi=>?_,fun i j b hi hj=>h.dis i j b (dY i b hi) (dY j b hj),fun i b hi=>h.own i b (dY i b hi),h.kn,h.tab.step (S:=iD) (Ext.refl w) (fun _ h=>h.elim) (cV.refl K) (fun i b2 M=>.inl ⟨i,dY i b2 M⟩)⟩
 ·by_cases eZ:i < n
  ·rw [im (uP eZ)];exact h.ble i
  ·rw [h.loc i zfO];trivial
 ·have aj:=Lq hl (br hi);rw [getElem?_take] at hi;split at hi
  ·rename_i eZ;exact (h.ob i x hi).res (uP eZ) aj
  ·cases hi
 ·by_cases eZ:i < n
  ·rw [im (uP eZ)];exact h.out i (by simp at hi;omega)
  ·exact tg (xc zfO)
theorem Ls {i:Nat}:other i i=false:=by simp [other]
theorem xM {i j:Nat} (h:j≠i):other i j=true:=by
 cases hb:Nat.beq j i with
 | false=>simp [other,hb]
 | true=>exact absurd (Nat.eq_of_beq_eq_true hb) h
theorem Inv.freeze {i:Nat} {E:TypeId} {cs:List GV} (h:Inv B K β Γ w) (hi:Γ[i]?=some (.box E cs)) (hp:∀ g∈cs,g.pc=true) (cZ:sL (other i) (Γ.set i .gone)=true) (hm:B.m<=i) :
  ∃ K',cV K K'/\(∀ b,β i=.fix b->∀ (j:Nat) g,cs[j]?=some g->K' b j=some g)/\Inv B K' (gi (other i) β) (Γ.set i .gone) w:=by
 obtain ⟨b,vs,I,M,h3,h4⟩:=h.ob i _ hi
 have eT:(β i).blk=some b:=by rw [I];rfl
 have hle:cV K (l0 K b cs):=fun b' o g hg=>by
  by_cases hb:b'=b
  ·subst hb;rw [h4] at hg;cases hg
  ·simp [l0,hb,hg]
 have dY:∀ j b',(gi (other i) β j).blk=some b'->j≠i/\(β j).blk=some b':=fun j b' hj=>by
  by_cases qg:j=i
  ·subst qg;rw [tg Ls] at hj;cases hj
  ·rw [im (xM qg)] at hj;exact ⟨qg,hj⟩
 refine ⟨l0 K b cs,hle,fun b' bA j g hg=>?_,h.ext,h.kle.trans hle,fun j=>?_,h.loc,fun b' o g hg=>?_,fun j x hj=>?_,fun j hj=>?_,fun j j' b' hj nO=>?_,fun j b' hj=>?_,fun b' o g hg=>?_,h.tab.step (S:=iD) (Ext.refl w) (fun _ h=>h.elim) hle (fun i b2 M=>.inl ⟨i,(dY i b2 M).2⟩)⟩
 ·rw [I] at bA;cases bA;exact uO hg
 ·by_cases qg:j=i
  ·subst qg;rw [h.loc j hm];trivial
  ·rw [im (xM qg)];exact h.ble j
 ·by_cases hb:b'=b
  ·subst hb;simp [l0] at hg;obtain ⟨v,hv,fT⟩:=h3.at hg;have zV:=hp g (br hg);exact ⟨zV,v,yf M zfZ,(fT.mono hle (dF.refl β)).pc zV⟩
  ·have nw:K b' o=some g:=by simpa [l0,hb] using hg
   obtain ⟨h5,v,h6,h7⟩:=h.fz b' o g nw;exact ⟨h5,v,h6,h7.mono hle (dF.refl _)⟩
 ·have fo:=Lq cZ (br hj);rw [dN] at hj;split at hj
  ·rename_i gJ;split at hj
   ·cases hj;subst gJ;exact tg Ls
   ·cases hj
  ·rename_i gJ;refine lZ.res ?_ (xM (fun he=>gJ he.symm)) fo;refine (h.ob j x hj).ext (Ext.refl w) (fun _ _ h=>h) hle (dF.refl β) rfl (fun b' o bA hk=>?_) (S:=iD)
   have:b'≠b:=fun he=>by subst he;exact gJ (h.dis i j _ eT bA)
   simp [l0,this,hk]
 ·have:i < Γ.length:=(bq hi).1
  have nO:Γ.length<=j:=by simpa using hj
  rw [im (xM zfO)];exact h.out j nO
 ·exact h.dis j j' b' (dY j b' hj).2 (dY j' b' nO).2
 ·exact h.own j b' (dY j b' hj).2
 ·by_cases hb:b'=b
  ·subst hb;exact .inr (h.own i _ eT)
  ·exact h.kn b' o g (by simpa [l0,hb] using hg)
end
abbrev dG:=Exit->List GV->List Ob->Prop
def gl (B:Bs) (Q:dG):nr:=fun e l w=>∃ K β fr Γ,Inv B K β Γ w/\FR K β fr l/\Q e fr Γ
def GW (P:Program) (m:Nat) (c:Code) (Q:dG) (fr:List GV) (Γ:List Ob):Prop :=
 ∀ B K β w l,B.m=m->Inv B K β Γ w->FR K β fr l->W P c (gl B Q) l w
def GL (P:Program) (m:Nat) (ops:Array Oper) (Q:dG) (rest:List Oper) (fr:List GV) (Γ:List Ob):Prop :=
 ∀ B K β w l,B.m=m->Inv B K β Γ w->FR K β fr l->WL P ops (gl B Q) rest l w
def aW (next:List GV->List Ob->Prop) (Q:dG):dG
 | .normal,fr,Γ=>next fr Γ
 | e,fr,Γ=>Q e fr Γ
def aZ (id:Nat) (Q:dG):dG
 | .exit Dq,fr,Γ=>if Dq=id then Q .normal fr Γ else Q (.exit Dq) fr Γ
 | e,fr,Γ=>Q e fr Γ
def Wk (m:Nat) (fr:List GV) (Γ:List Ob) (cy:List GV) (aR:List Ob):Prop :=
 ∀ B K β w l,B.m=m->Inv B K β Γ w->FR K β fr l->∃ K' bX,Inv B K' bX aR w/\FR K' bX cy l
section
variable {P:Program} {m:Nat} {Q:dG} {fr:List GV} {Γ:List Ob} {ops:Array Oper} {rest:List Oper}
theorem Wk.trans {cy OT:List GV} {aR Gb:List Ob} (h:Wk m fr Γ cy aR) (k:Wk m cy aR OT Gb):Wk m fr Γ OT Gb:=fun B K β w l hm hI hF=>by
 exact zbZ
theorem GW.wk {c:Code} {cy:List GV} {aR:List Ob} (h:Wk m fr Γ cy aR) (k:GW P m c Q cy aR):GW P m c Q fr Γ:=fun B K β w l hm hI hF=>by
 exact zbZ
theorem GL.wk {cy:List GV} {aR:List Ob} (h:Wk m fr Γ cy aR) (k:GL P m ops Q rest cy aR):GL P m ops Q rest fr Γ:=fun B K β w l hm hI hF=>by
 exact zbZ
theorem Wk.cut {n:Nat} (hm:m<=n) (hl:xK n (Γ.take n)=true):Wk m fr Γ (G2 n fr) (Γ.take n):=fun B K β w l hB hI hF =>
 ⟨K,gi (below n) β,hI.cut zfO hl,hF.res⟩
inductive vb:List GV->List GV->Prop
 | nil:vb [] []
 | U {f:GV} {fs gs:List GV} (h:vb fs gs):vb (f::fs) (.U::gs)
 | eq {f g:GV} {fs gs:List GV} (he:f=g) (h:vb fs gs):vb (f::fs) (g::gs)
theorem FR.ab6 {K:Fz} {β:Bt} {l:List Value} {fr cy:List GV} (h:vb fr cy) (k:FR K β fr l):FR K β cy l:=by
 induction h generalizing l with
 | nil=>exact k
 | U h ih=>cases k with | cons k1 k2=>exact .cons (.U _) (ih k2)
 | eq he h ih=>subst he;cases k with | cons k1 k2=>exact .cons k1 (ih k2)
theorem Wk.aC {cy:List GV} (h:vb fr cy):Wk m fr Γ cy Γ:=fun B K β w l _ hI hF=>⟨K,β,hI,hF.ab6 h⟩
theorem GW.seq {x y:Code} (h:GW P m x (aW (GW P m y Q) Q) fr Γ):GW P m (.seq x y) Q fr Γ:=fun B K β w l hm hI hF=>by
 refine W.seq (W.mono (h B K β w l hm hI hF) ?_);rintro e l w ⟨K,β,fr,Γ,hI,hF,hq⟩
 cases e with
 | normal=>exact hq B K β w l hm hI hF
 | _=>exact zc3
theorem GW.skip (h:Q .normal fr Γ):GW P m .skip Q fr Γ:=fun B K β w l hm hI hF=>W.skip ⟨K,β,fr,Γ,hI,hF,h⟩
theorem GW.exit {n:Nat} (h:Q (.exit n) fr Γ):GW P m (.exit n) Q fr Γ:=fun B K β w l hm hI hF=>W.exit ⟨K,β,fr,Γ,hI,hF,h⟩
theorem GW.ret (h:Q .ret fr Γ):GW P m .ret Q fr Γ:=fun B K β w l hm hI hF=>W.ret ⟨K,β,fr,Γ,hI,hF,h⟩
theorem GW.block {id:Nat} {c:Code} (h:GW P m c (aZ id Q) fr Γ):GW P m (.block id c) Q fr Γ:=fun B K β w l hm hI hF=>by
 refine W.block (W.mono (h B K β w l hm hI hF) ?_);rintro e l w ⟨K,β,fr,Γ,hI,hF,hq⟩
 cases e with
 | exit Dq =>
  simp only [aZ] at hq;simp only [Yr];split <;> rename_i hh
  ·rw [ab hh] at hq;exact zc3
  ·rw [F hh] at hq;exact zc3
 | _=>exact zc3
theorem Rel.fF {K:Fz} {β:Bt} {x a:Value} (h:Rel K β x (.v a)):x=a:=by cases h;rfl
theorem FR.kq {K:Fz} {β:Bt} {l:List Value} {x:Operand} {a:Value} (h:FR K β fr l) (hx:be fr x=.v a):Xw.ev l x=a:=Rel.fF (by rw [<-hx];exact h.ev x)
theorem GW.cond {c:Operand} {x y:Code} {t:Bool} (hc:be fr c=.v (.bool t)) (ht:t=true->GW P m x Q fr Γ) (hf:t=false->GW P m y Q fr Γ):GW P m (.cond c x y) Q fr Γ:=fun B K β w l hm hI hF =>
 W.cond (hF.kq hc) (fun h=>ht h B K β w l hm hI hF) (fun h=>hf h B K β w l hm hI hF)
theorem NT {c:Operand} {x y:Code} {t:Bool} (hc:be fr c=.v (.bool t)) (ht:t=true) (h:GW P m x Q fr Γ):GW P m (.cond c x y) Q fr Γ:=GW.cond hc (fun _=>h) (fun M=>by rw [ht] at M;cases M)
theorem NS {c:Operand} {x y:Code} {t:Bool} (hc:be fr c=.v (.bool t)) (ht:t=false) (h:GW P m y Q fr Γ):GW P m (.cond c x y) Q fr Γ:=GW.cond hc (fun M=>by rw [ht] at M;cases M) (fun _=>h)
theorem GW.mono {c:Code} {Q':dG} (h:GW P m c Q fr Γ) (hq:∀ e fr Γ,Q e fr Γ->Q' e fr Γ):GW P m c Q' fr Γ:=fun B K β w l hm hI hF =>
 W.mono (h B K β w l hm hI hF) fun e l w ⟨K,β,fr,Γ,hI,hF,q⟩=>⟨K,β,fr,Γ,hI,hF,hq _ _ _ q⟩
def Bi (m:Nat) (K:List GV->List Ob->Prop) (fr:List GV) (Γ:List Ob):Prop:=∃ cy aR,Wk m fr Γ cy aR/\K cy aR
theorem GW.loop {c:Code} {α:Type} (μ:α->Nat) (acK:α->List GV->List Ob->Prop) (x:α) (h0:Bi m (acK x) fr Γ)
  (round:∀ x fr Γ,acK x fr Γ->GW P m c (aW (fun cy aR=>∃ y,Bi m (acK y) cy aR/\μ y < μ x) Q) fr Γ):GW P m (.loop c) Q fr Γ:=fun B K β w l hm hI hF=>by
 obtain ⟨cy,aR,hw,h0⟩:=h0;obtain ⟨K',bX,bz,xm⟩:=hw B K β w l hm hI hF;refine W.loop μ (fun x l w=>∃ K β fr Γ,Inv B K β Γ w/\FR K β fr l/\acK x fr Γ) x ⟨K',bX,cy,aR,bz,xm,h0⟩ ?_;rintro x l w ⟨K,β,fr,Γ,hI,hF,hi⟩;refine W.mono (round x fr Γ hi B K β w l hm hI hF) ?_;rintro e l w ⟨K,β,fr,Γ,hI,hF,hq⟩
 cases e with
 | normal =>
  obtain ⟨y,⟨cy,aR,hw,hy⟩,aj⟩:=hq;obtain ⟨K',bX,bz,xm⟩:=hw B K β w l hm hI hF;exact ⟨y,⟨K',bX,cy,aR,bz,xm,hy⟩,aj⟩
 | _=>exact zc3
theorem GW.region {id:Nat} {ol:List Oper} (h:GL P m ol.toArray Q ol fr Γ):GW P m (.region id ol.toArray false) Q fr Γ:=fun B K β w l hm hI hF=>W.region (h B K β w l hm hI hF)
theorem GL.nil (h:Q .normal fr Γ):GL P m ops Q [] fr Γ:=fun B K β w l hm hI hF=>WL.nil ⟨K,β,fr,Γ,hI,hF,h⟩
end
section
variable {next:List GV->List Ob->Prop} {Q:dG} {fr:List GV} {Γ:List Ob} {id Dq:Nat}
theorem aY (h:next fr Γ):aW next Q .normal fr Γ:=h
theorem Hl (h:Q (.exit id) fr Γ):aW next Q (.exit id) fr Γ:=h
theorem ml (h:Q .ret fr Γ):aW next Q .ret fr Γ:=h
theorem iQ (h:Q .normal fr Γ):aZ id Q .normal fr Γ:=h
theorem mj (h:Q .ret fr Γ):aZ id Q .ret fr Γ:=h
theorem Kx (h:Q .normal fr Γ):aZ id Q (.exit id) fr Γ:=by simpa [aZ] using h
end
def GC (P:Program) (f:FuncId) (gs:List GV) (Γ:List Ob) (R:GV->List Ob->Prop):Prop :=
 ∀ B K β w vs,B.m=Γ.length->Inv B K β Γ w->bm K β vs gs->om P f vs w fun v w'=>∃ K' bX g aR,Inv B K' bX aR w'/\Rel K' bX v g/\R g aR
abbrev GF (P:Program) (f:FuncId) (gs:List GV) (Γ:List Ob) (g:GV) (aR:List Ob):Prop:=GC P f gs Γ fun x Δ=>x=g/\Δ=aR
theorem GC.mono {P:Program} {f:FuncId} {gs:List GV} {Γ:List Ob} {R R':GV->List Ob->Prop} (h:GC P f gs Γ R) (hr:∀ g Γ,R g Γ->R' g Γ):GC P f gs Γ R':=fun B K β w vs hm hI hF =>
 (h B K β w vs hm hI hF).mono fun v w' ⟨K',bX,g,aR,I,M,h3⟩=>⟨K',bX,g,aR,I,M,hr _ _ h3⟩
def Hk:Nat->List GV
 | 0=>[]
 | n+1=>.v undef::Hk n
def zF:List GV->Nat->List GV
 | [],n=>Hk n
 | a::r,n=>a::zF r (n - 1)
theorem FR.Iw {K:Fz} {β:Bt} (n:Nat):FR K β (Hk n) (Iw n):=by
 induction n with
 | zero=>exact .nil
 | succ n ih=>exact .cons (.v _) ih
theorem FR.frame {K:Fz} {β:Bt} {vs:List Value} {gs:List GV} (h:bm K β vs gs) (n:Nat):FR K β (zF gs n) (frame vs n):=by
 induction gs generalizing vs n with
 | nil =>
  have:vs=[]:=gC h.1;subst this;exact FR.Iw n
 | cons g gs ih =>
  cases vs with
  | nil=>have:=h.1;simp at this
  | cons v vs=>obtain ⟨I,M⟩:=h.pL;exact .cons I (ih M _)
def rQ (P:Program) (fn:Func) (m:Nat) (R:GV->List Ob->Prop):dG:=fun e fr Γ =>
 (e=.normal\/e=.ret)/\∀ B K β w l,B.m=m->Inv B K β Γ w->FR K β fr l->∃ v K' bX g aR,(results fn l.toArray).run P w=.ok v w/\Inv B K' bX aR w/\Rel K' bX v g/\R g aR
theorem GC.enter {P:Program} {f:FuncId} {fn:Func} {c:Code} {gs:List GV} {Γ:List Ob} {R:GV->List Ob->Prop} {n:Nat} {fr:List GV}
  (hf:P.funcs[f]?=some fn) (hn:fn.ntmps=n) (hb:fn.body=some c) (hl:zF gs n=fr) (h:GW P Γ.length c (rQ P fn Γ.length R) fr Γ):GC P f gs Γ R:=fun B K β w vs hm hI hF=>by
 subst hl;refine om.enter hf hn hb rfl (W.mono (h B K β w _ hm hI (FR.frame hF n)) ?_);rintro e l w ⟨K,β,fr,Γ,hI,hF,he,hq⟩;obtain ⟨v,K',bX,g,aR,I,M,h3,h4⟩:=hq B K β w l hm hI hF
 rcases he with rfl | rfl
 ·exact ⟨v,I,K',bX,g,aR,M,h3,h4⟩
 ·exact ⟨v,I,K',bX,g,aR,M,h3,h4⟩
section
variable {P:Program} {fn:Func} {m:Nat} {R:GV->List Ob->Prop} {fr:List GV} {Γ:List Ob} {e:Exit}
theorem Xe {n:Nat} (hr:fn.results=#[]) (he:e=.normal\/e=.ret) (hm:m<=n) (hl:xK n (Γ.take n)=true) (h:R (.tup []) (Γ.take n)):rQ P fn m R e fr Γ :=
 ⟨he,fun B K β w l hB hI hF=>⟨.tuple #[],K,gi (below n) β,.tup [],Γ.take n,by rw [results_none hr],hI.cut zfO hl,.tup [] [] rfl (fun i v g h=>by simp at h),h⟩⟩
theorem rR {n:Nat} {t:Tmp} {g:GV} (hr:fn.results=#[.tmp t]) (he:e=.normal\/e=.ret) (hg:cK fr t=g) (hm:m<=n) (hl:xK n (Γ.take n)=true) (mq:g.lt n=true) (h:R g (Γ.take n)):rQ P fn m R e fr Γ :=
 ⟨he,fun B K β w l hB hI hF=>⟨nth l t,K,gi (below n) β,g,Γ.take n,by rw [results_tmp hr,ku],hI.cut zfO hl,by rw [<-hg] at mq |-;exact (hF.nth t).res mq,h⟩⟩
theorem Xf {n:Nat} {t u:Tmp} {g g':GV} (hr:fn.results=#[.tmp t,.tmp u]) (he:e=.normal\/e=.ret) (hg:cK fr t=g) (nw:cK fr u=g') (hm:m<=n) (hl:xK n (Γ.take n)=true) (mq:(GV.tup [g,g']).lt n=true) (h:R (.tup [g,g']) (Γ.take n)):rQ P fn m R e fr Γ :=
 ⟨he,fun B K β w l hB hI hF=>⟨.tuple #[nth l t,nth l u],K,gi (below n) β,.tup [g,g'],Γ.take n,by rw [results_tmp2 hr,ku,ku],hI.cut zfO hl,by
  refine Rel.res ?_ mq;subst hg nw;have hc:bm K β [nth l t,nth l u] [cK fr t,cK fr u]:=.cons (hF.nth t) (.cons (hF.nth u) .nil)
  exact .tup [nth l t,nth l u] _ hc.1 hc.2,h⟩⟩
theorem Xh {n:Nat} {t u s:Tmp} {g g' g2:GV} (hr:fn.results=#[.tmp t,.tmp u,.tmp s]) (he:e=.normal\/e=.ret) (hg:cK fr t=g) (nw:cK fr u=g') (fR:cK fr s=g2) (hm:m<=n) (hl:xK n (Γ.take n)=true) (mq:(GV.tup [g,g',g2]).lt n=true)
  (h:R (.tup [g,g',g2]) (Γ.take n)):rQ P fn m R e fr Γ :=
 ⟨he,fun B K β w l hB hI hF=>⟨.tuple #[nth l t,nth l u,nth l s],K,gi (below n) β,.tup [g,g',g2],Γ.take n,by
   rw [<-ku l t,<-ku l u,<-ku l s];simp [results,hr],hI.cut zfO hl,by
  refine Rel.res ?_ mq;subst hg nw fR;have hc:bm K β [nth l t,nth l u,nth l s] [cK fr t,cK fr u,cK fr s]:=.cons (hF.nth t) (.cons (hF.nth u) (.cons (hF.nth s) .nil))
  exact .tup [nth l t,nth l u,nth l s] _ hc.1 hc.2,h⟩⟩
theorem R5 {n:Nat} {t:Tmp} {T:TypeId} {k:Nat} [hT:Ty P T true k] {i:Nat} {E:TypeId} {cs:List GV} (hr:fn.results=#[.cell t T]) (he:e=.normal\/e=.ret) (hg:cK fr t=.loc i 0) (bJ:Γ[i]?=some (.box E cs)) (hk:cs.length=k)
  (hm:m<=n) (hl:xK n (Γ.take n)=true) (mq:(GV.agg cs).lt n=true) (h:R (.agg cs) (Γ.take n)):rQ P fn m R e fr Γ :=
 ⟨he,fun B K β w l hB hI hF=>by
  obtain ⟨b,vs,I,M,h3,h4⟩:=hI.ob i _ bJ
  have hp:nth l t=.pointer (some ⟨b,0,none⟩):=by
   have:=hF.nth t;rw [hg] at this;generalize nth l t=v at this
   cases this with
   | loc _ _ b' bA=>rw [I] at bA;cases bA;rfl
  have lX:l.toArray.getD t undef=.pointer (some ⟨b,0,none⟩):=by rw [ku,hp]
  have Df:=nH (P:=P) (w:=w) (t:=T) (b:=b) (o:=0) (vs:=vs) (k:=k) zgt (fun j v hj=>by
   rw [cL,cell_of_row w b j _ E (0,0) M];simpa using hj)
  have yt:l[t]?.getD undef=.pointer (some ⟨b,0,none⟩):=by simpa using lX
  exact ⟨.agg vs.toArray,K,gi (below n) β,.agg cs,Γ.take n,by simp [results,hr,yt,asAddr,Df],hI.cut zfO hl,Rel.res (.agg vs cs h3.1 h3.2) mq,h⟩⟩
end
def YG (P:Program) (op:Op) (fr:List GV) (Γ:List Ob) (g:GV):Prop :=
 ∀ B K β w l,Inv B K β Γ w->FR K β fr l->∃ v,fx P l w op v/\Rel K β v g
section
variable {P:Program} {m:Nat} {Q:dG} {fr:List GV} {Γ:List Ob} {ops:Array Oper} {rest:List Oper} {d:Option Tmp} {op:Op} {ty:TypeId} {pos:String} {af:Array Edge}
theorem GL.q {g:GV} (hy:YG P op fr Γ g) (h:GL P m ops Q rest (bC fr d g) Γ):GL P m ops Q (⟨d,op,ty,pos,af,none⟩::rest) fr Γ:=fun B K β w l hm hI hF=>by
 obtain ⟨v,hr,hv⟩:=hy B K β w l hI hF;exact WL.v hr (h B K β w _ hm hI (hF.put d hv))
theorem uw {cy:List GV} {aR:List Ob} (I:fr=cy) (M:Γ=aR) (h:GL P m ops Q rest cy aR):GL P m ops Q rest fr Γ:=by subst I;subst M;exact h
theorem GN {cy:List GV} (I:fr=cy) (h:GL P m ops Q rest cy Γ):GL P m ops Q rest fr Γ:=by subst I;exact h
theorem YG.v1 {x:Operand} {a v:Value} (hx:be fr x=.v a) (h:∀ l w,ev l x=a->fx P l w op v):YG P op fr Γ (.v v):=fun B K β w l hI hF=>⟨v,h l w (hF.kq hx),.v v⟩
theorem YG.v2 {x y:Operand} {a b v:Value} (hx:be fr x=.v a) (hy:be fr y=.v b) (h:∀ l w,ev l x=a->ev l y=b->fx P l w op v):YG P op fr Γ (.v v):=fun B K β w l hI hF=>⟨v,h l w (hF.kq hx) (hF.kq hy),.v v⟩
theorem YG.mv {x:Operand}:YG P (.move x) fr Γ (be fr x):=fun B K β w l hI hF=>⟨_,R.mv,hF.ev x⟩
theorem YG.xb {x:Operand}:YG P (.assign x) fr Γ (be fr x):=fun B K β w l hI hF=>⟨_,R.xb,hF.ev x⟩
theorem YG.Ew {fn:Fn} {first cap:List Operand}:YG P (.makeFunc fn first.toArray cap.toArray) fr Γ (.fn fn (first.map (be fr)) (cap.map (be fr))):=fun B K β w l hI hF =>
 ⟨_,R.Ew,by
  have I:=hF.args first
  have M:=hF.args cap
  simpa using Rel.fn fn _ _ _ _ I.1 M.1 I.2 M.2⟩
def Eh:GV->Value
 | .v x=>x
 | _=>.nilFunc
def Xk (ρ:Operand->Value) (op:Op):Option Value :=
 match op with
 | .binOp _ _ _ _ _=>go ρ op
 | .unOp _ _ _=>go ρ op
 | _=>none
theorem VG {K:Fz} {β:Bt} {x:Value} {g:GV} (h:Rel K β x g):Eh g=x\/Eh g=.nilFunc:=by
 cases h <;> first | exact .inl rfl | exact .inr rfl
theorem YG.go {v:Value} (h:Xk (fun x=>Eh (be fr x)) op=some v):YG P op fr Γ (.v v):=fun B K β w l hI hF=>by
 refine ⟨v,VD ?_,.v v⟩
 have key:∀ x,Eh (be fr x)=ev l x\/Eh (be fr x)=.nilFunc:=fun x=>VG (hF.ev x)
 unfold Xk at h;split at h
 ·rename_i o t x y t';simp only [Xw.go] at h |-
  rcases key x with hx | hx <;> rcases key y with hy | hy <;> rw [hx,hy] at h
  ·exact h
  ·cases hv:ev l x <;> rw [hv] at h <;> cases h
  ·cases h
  ·cases h
 ·rename_i o t x;simp only [Xw.go,ym] at h |-
  rcases key x with hx | hx <;> rw [hx] at h
  ·exact h
  ·cases o <;> simp only at h <;> cases h
 ·cases h
theorem YG.UQ {c a b:Operand} {t:Bool} (hc:be fr c=.v (.bool t)) (ht:t=true):YG P (.pick c a b) fr Γ (be fr a):=fun B K β w l hI hF=>⟨_,R.UQ (hF.kq hc) ht,hF.ev a⟩
theorem YG.UP {c a b:Operand} {t:Bool} (hc:be fr c=.v (.bool t)) (ht:t=false):YG P (.pick c a b) fr Γ (be fr b):=fun B K β w l hI hF=>⟨_,R.UP (hF.kq hc) ht,hF.ev b⟩
theorem YG.abZ {x:Operand} {i o:Nat} (hx:be fr x=.loc i o):YG P (.nilCheck x) fr Γ (.loc i o):=fun B K β w l hI hF=>by
 have h:=hF.ev x;rw [hx] at h;generalize hv:ev l x=v at h
 cases h with | loc _ _ b hb=>exact ⟨_,R.M4 hv,.loc i o b hb⟩
theorem YG.abY {x:Operand} {cs:List GV} {o:Nat} (hx:be fr x=.box cs o):YG P (.nilCheck x) fr Γ (.box cs o):=fun B K β w l hI hF=>by
 have h:=hF.ev x;rw [hx] at h;generalize hv:ev l x=v at h
 cases h with | box b o' _ _ hb=>exact ⟨_,R.M4 hv,.box b o' o cs hb⟩
theorem YG.SM {x:Operand} {t:TypeId} [hT:rK P t] {s:ae} (hx:be fr x=.v (sv s)):YG P (.call ⟨.builtin .len,#[x],#[t]⟩) fr Γ (.v (ii s.length)):=YG.v1 hx fun l w h=>R.SM h
theorem YG.Z2 {x:Operand} {t e:TypeId} {k:Nat} [hT:oP P t e k] {k':Nat} {rows:List (List GV)} (hx:be fr x=.sl k' rows):YG P (.call ⟨.builtin .len,#[x],#[t]⟩) fr Γ (.v (ii rows.length)):=fun B K β w l hI hF=>by
 have h:=hF.ev x;rw [hx] at h;generalize hv:ev l x=v at h
 cases h with
 | sl0 a c=>exact ⟨_,R.MW hv,.v _⟩
 | sl b o c _ _ h _=>exact ⟨_,R.MW hv,.v _⟩
theorem YG.abV {x:Operand} {t e:TypeId} {k:Nat} [hT:oP P t e k] {i n:Nat} (hx:be fr x=.vec i n):YG P (.call ⟨.builtin .len,#[x],#[t]⟩) fr Γ (.v (ii n)):=fun B K β w l hI hF=>by
 have h:=hF.ev x;rw [hx] at h;generalize hv:ev l x=v at h
 cases h with | vec _ _ a c h=>exact ⟨_,R.MW hv,.v _⟩
theorem YG.abU {x:Operand} {t e:TypeId} {k:Nat} [hT:oP P t e k] {a:Option Addr} {n c:Nat} (hx:be fr x=.v (.slice a n c)):YG P (.call ⟨.builtin .len,#[x],#[t]⟩) fr Γ (.v (ii n)):=YG.v1 hx fun l w h=>R.MW h
theorem YG.G5 {x y:Operand} {t t':TypeId} {a b:ae} (hx:be fr x=.v (sv a)) (hy:be fr y=.v (sv b)):YG P (.binOp .eql t x y t') fr Γ (.v (.bool (a==b))):=YG.v2 hx hy fun l w h k=>R.G5 h k
theorem YG.Ij {x y:Operand} {t t':TypeId} {a b:ae} (hx:be fr x=.v (sv a)) (hy:be fr y=.v (sv b)):YG P (.binOp .neq t x y t') fr Γ (.v (.bool (!(a==b)))):=YG.v2 hx hy fun l w h k=>R.Ij h k
theorem YG.vA {x y:Operand} {t:TypeId} [hT:rK P t] {s:ae} {k:IntKind} {i:Nat} {c:UInt8} (hx:be fr x=.v (sv s)) (hy:be fr y=.v (.int k i)) (hc:s[i]?=some c):YG P (.index t x y) fr Γ (.v (.int .u8 c.toNat)):=YG.v2 hx hy fun l w h k=>R.vA h k hc
theorem YG.add {x y:Operand} {t t':TypeId} {a b:Int} (hx:be fr x=.v (ii a)) (hy:be fr y=.v (ii b)) (hb : -9223372036854775808<=a+b/\a+b<=9223372036854775807):YG P (.binOp .add t x y t') fr Γ (.v (ii (a+b))):=YG.v2 hx hy fun l w h k=>R.add h k hb.1 hb.2
theorem YG.ff {x y:Operand} {t t':TypeId} {a b:Nat} (hx:be fr x=.v (ii a)) (hy:be fr y=.v (ii b)) (hb:a+b<=9223372036854775807):YG P (.binOp .add t x y t') fr Γ (.v (ii ((a+b:Nat):Int))):=YG.v2 hx hy fun l w h k=>R.ff h k hb
theorem YG.zq {x y:Operand} {t t':TypeId} {a:Nat} (hx:be fr x=.v (ii a)) (hy:be fr y=.v (ii 1)) (hb:a+1<=9223372036854775807):YG P (.binOp .add t x y t') fr Γ (.v (ii ((a+1:Nat):Int))):=YG.v2 hx hy fun l w h k=>R.zq h k hb
theorem YG.sub {x y:Operand} {t t':TypeId} {a b:Int} (hx:be fr x=.v (ii a)) (hy:be fr y=.v (ii b)) (hb : -9223372036854775808<=a - b/\a - b<=9223372036854775807):YG P (.binOp .sub t x y t') fr Γ (.v (ii (a - b))):=YG.v2 hx hy fun l w h k=>R.sub h k hb.1 hb.2
theorem YG.mul {x y:Operand} {t t':TypeId} {a b:Int} (hx:be fr x=.v (ii a)) (hy:be fr y=.v (ii b)) (hb : -9223372036854775808<=a * b/\a * b<=9223372036854775807):YG P (.binOp .mul t x y t') fr Γ (.v (ii (a * b))):=YG.v2 hx hy fun l w h k=>R.mul h k hb.1 hb.2
theorem YG.cat {x y:Operand} {t t':TypeId} {a b:ae} (hx:be fr x=.v (sv a)) (hy:be fr y=.v (sv b)) (hb:a.length+b.length<=9223372036854775807):YG P (.binOp .add t x y t') fr Γ (.v (sv (a++b))):=YG.v2 hx hy fun l w h k=>R.cat h k hb
theorem YG.IV {x:Operand} {t:TypeId} [hT:rK P t] {s:ae} {lo hi:Operand} {k k':IntKind} {i j:Nat} (hx:be fr x=.v (sv s)) (iR:be fr lo=.v (.int k i)) (ow:be fr hi=.v (.int k' j)) (hb:i<=j/\j<=s.length):YG P (.slice t x (some lo) (some hi) none) fr Γ (.v (sv ((s.take j).drop i))) :=
 fun B K β w l hI hF=>⟨_,R.Tn (hF.kq hx) ⟨k,hF.kq iR⟩ ⟨k',hF.kq ow⟩ hb.1 hb.2,.v _⟩
theorem YG.IU {x:Operand} {t:TypeId} [hT:rK P t] {s:ae} {lo:Operand} {k:IntKind} {i:Nat} (hx:be fr x=.v (sv s)) (iR:be fr lo=.v (.int k i)) (hb:i<=s.length):YG P (.slice t x (some lo) none none) fr Γ (.v (sv (s.drop i))) :=
 fun B K β w l hI hF=>⟨_,by
  have:=R.Tn (P:=P) (w:=w) (l:=l) (t:=t) (lo:=some lo) (hi:=none) (i:=i) (j:=s.length) (hF.kq hx) ⟨k,hF.kq iR⟩ rfl hb (aD _);rw [bH] at this
  exact this,.v _⟩
theorem YG.IQ {x:Operand} {t:TypeId} [hT:rK P t] {s:ae} {hi:Operand} {k:IntKind} {j:Nat} (hx:be fr x=.v (sv s)) (ow:be fr hi=.v (.int k j)) (hb:j<=s.length):YG P (.slice t x none (some hi) none) fr Γ (.v (sv (s.take j))) :=
 fun B K β w l hI hF=>⟨_,R.Tn (P:=P) (w:=w) (l:=l) (t:=t) (lo:=none) (hi:=some hi) (i:=0) (j:=j) (hF.kq hx) rfl ⟨k,hF.kq ow⟩ (aO _) hb,.v _⟩
theorem YG.ext {x:Operand} {i:Nat} {cs:List GV} {g:GV} (hx:be fr x=.tup cs) (hg:cs[i]?=some g):YG P (.extract x i) fr Γ g:=fun B K β w l hI hF=>by
 have h:=hF.ev x;rw [hx] at h;generalize hv:ev l x=v at h
 cases h with
 | tup vs _ hl h =>
  have hi:i < vs.length:=by rw [hl];exact (bq hg).1
  exact ⟨vs[i],R.extract hv zgu,h i _ g zgu hg⟩
theorem YG.yu {x y:Operand} {t e:TypeId} {k:Nat} [hT:oP P t e k] {rows:List (List GV)} {kk:IntKind} {i:Nat} {r:List GV} (hx:be fr x=.sl k rows) (hy:be fr y=.v (.int kk i)) (hr:rows[i]?=some r):YG P (.indexAddr t x y) fr Γ (.box r 0):=fun B K β w l hI hF=>by
 have h:=hF.ev x;rw [hx] at h;have hi:=(bq hr).1;generalize hv:ev l x=v at h
 cases h with
 | sl0 a c=>simp at hi
 | sl b o c _ _ h _=>exact ⟨_,R.z6 hv (hF.kq hy) hi,.box b (o+i * k) 0 r (h i r hr).2⟩
theorem YG.W9 {x:Operand} {s:TypeId} {f off k:Nat} {agg:Bool} [hT:ef P s f off k agg] {i o:Nat} (hx:be fr x=.loc i o):YG P (.fieldAddr s x f) fr Γ (.loc i (o+off)):=fun B K β w l hI hF=>by
 have h:=hF.ev x;rw [hx] at h;generalize hv:ev l x=v at h
 cases h with | loc _ _ b hb=>exact ⟨_,R.RW hv,.loc i _ b hb⟩
theorem YG.W7 {x:Operand} {s:TypeId} {f off k:Nat} {agg:Bool} [hT:ef P s f off k agg] {cs:List GV} {o:Nat} (hx:be fr x=.box cs o):YG P (.fieldAddr s x f) fr Γ (.box cs (o+off)):=fun B K β w l hI hF=>by
 have h:=hF.ev x;rw [hx] at h;generalize hv:ev l x=v at h
 cases h with | box b o' _ _ hb=>exact ⟨_,R.RW hv,by rw [gn];exact .box b o' _ cs hb⟩
theorem YG.ldL {x:Operand} {t:TypeId} [hT:Ty P t false 1] {i o:Nat} {E:TypeId} {cs:List GV} {g:GV} (hx:be fr x=.loc i o) (bJ:Γ[i]?=some (.box E cs)) (hg:cs[o]?=some g):YG P (.load t x) fr Γ g:=fun B K β w l hI hF=>by
 have h:=hF.ev x;rw [hx] at h;generalize hv:ev l x=v at h
 cases h with
 | loc _ _ b hb =>
  obtain ⟨b',vs,I,M,h3,h4⟩:=hI.ob i _ bJ;rw [hb] at I;cases I;obtain ⟨u,hu,hr⟩:=h3.at hg;exact ⟨u,R.ld hv (yf M (by simpa using hu)),hr⟩
theorem YG.ldB {x:Operand} {t:TypeId} [hT:Ty P t false 1] {cs:List GV} {o:Nat} {g:GV} (hx:be fr x=.box cs o) (hg:cs[o]?=some g):YG P (.load t x) fr Γ g:=fun B K β w l hI hF=>by
 have h:=hF.ev x;rw [hx] at h;generalize hv:ev l x=v at h
 cases h with
 | box b o' _ _ hb =>
  obtain ⟨hp,u,hu,hr⟩:=hI.fz _ _ _ (hb o g hg);exact ⟨u,R.ld hv hu,hr.pc hp⟩
theorem vI {k:Nat} {rows:List (List GV)} (hk:gX k rows) {i j:Nat} {r:List GV} {g:GV} (hr:rows[i]?=some r) (hg:r[j]?=some g):rows.flatten[i * k+j]?=some g:=by
 induction rows generalizing i with
 | nil=>simp at hr
 | cons a rows ih =>
  have ha:a.length=k:=(hk a (mem_cons_self)).1
  cases i with
  | zero =>
   cases hr;have hj:=(bq hg).1;rw [Nat.zero_mul,cL,flatten_cons,eR hj];exact hg
  | succ i =>
   rw [flatten_cons,fw (by rw [ha,Nat.succ_mul];omega),ha];rw [show (i+1) * k+j - k=i * k+j by rw [Nat.succ_mul];omega];exact ih (fun r hr=>hk r (cU _ hr)) (by simpa using hr)
theorem YG.Yx {x:Operand} {t:TypeId} {k:Nat} [hT:Ty P t true k] {i o:Nat} {E:TypeId} {cs gs:List GV} (hx:be fr x=.loc i o) (bJ:Γ[i]?=some (.box E cs)) (hg:(cs.drop o).take k=gs) (hk:gs.length=k):YG P (.load t x) fr Γ (.agg gs):=fun B K β w l hI hF=>by
 have h:=hF.ev x;rw [hx] at h;generalize hv:ev l x=v at h
 cases h with
 | loc _ _ b hb =>
  obtain ⟨b',vs,I,M,h3,h4⟩:=hI.ob i _ bJ;rw [hb] at I;cases I;have h5:=(h3.drop o).take k;rw [hg] at h5;refine ⟨.agg ((vs.drop o).take k).toArray,R.ldS hv (by rw [h5.1,hk]) (fun j v hj=>?_),.agg _ _ h5.1 h5.2⟩;rw [getElem?_take] at hj;split at hj
  ·rw [getElem?_drop] at hj;exact yf M zf4
  ·cases hj
theorem yh {K:Fz} {β:Bt} {H:Array Obj} {b:Nat}:∀ (gs:List GV) (o:Nat),(∀ (j:Nat) g,gs[j]?=some g->∃ v,ig H b (o+j)=some v/\Rel K β v g)->∃ vs:List Value,bm K β vs gs/\∀ (j:Nat) v,vs[j]?=some v->ig H b (o+j)=some v
 | [],o,_=>⟨[],.nil,fun j v h=>by simp at h⟩
 | g::gs,o,h=>by
  obtain ⟨v,hv,hr⟩:=h 0 g rfl;obtain ⟨vs,I,M⟩:=yh gs (o+1) (fun j g' hg=>by rw [show o+1+j=o+(j+1) by omega];exact h (j+1) g' hg);refine ⟨v::vs,.cons hr I,fun j u hj=>?_⟩
  cases j with
  | zero=>cases hj;exact hv
  | succ j=>rw [show o+(j+1)=o+1+j by omega];exact M j u hj
theorem YG.Yw {x:Operand} {t:TypeId} {k:Nat} [hT:Ty P t true k] {cs gs:List GV} {o:Nat} (hx:be fr x=.box cs o) (hg:(cs.drop o).take k=gs) (hk:gs.length=k):YG P (.load t x) fr Γ (.agg gs):=fun B K β w l hI hF=>by
 have h:=hF.ev x;rw [hx] at h;generalize hv:ev l x=v at h
 cases h with
 | box b o' _ _ hb =>
  obtain ⟨vs,I,M⟩:=yh (K:=K) (β:=β) (H:=w.heap) (b:=b) gs (o'+o) (fun j g hj=>by
   have nO:cs[o+j]?=some g:=by
    rw [<-hg,getElem?_take] at hj;split at hj
    ·rw [getElem?_drop] at hj;exact hj
    ·cases hj
   obtain ⟨hp,u,hu,hr⟩:=hI.fz _ _ _ (hb (o+j) g nO)
   exact ⟨u,by rw [gn];exact hu,hr.pc hp⟩)
  exact ⟨.agg vs.toArray,R.ldS hv (by rw [I.1,hk]) M,.agg _ _ I.1 I.2⟩
def nu:GV->Option (List GV)
 | .v x=>match M7 x with
  | true=>some [.v x]
  | false=>none
 | .agg cs=>some cs
 | .U=>none
 | .tup _=>none
 | .vp _ _ _ _ _=>none
 | .sl k rows=>some [.sl k rows]
 | .box cs o=>some [.box cs o]
 | .loc i o=>some [.loc i o]
 | .vec i n=>some [.vec i n]
 | .arr i o n=>some [.arr i o n]
 | .fn f a c=>some [.fn f a c]
def pX:List GV->Nat->List GV->List GV
 | cs,_,[]=>cs
 | cs,o,v::r=>pX (bp cs o v) (o+1) r
def AR (pl:Nat->Option (Nat × Nat)):List GV->List (Nat × GV)->Option (List GV)
 | cs,[]=>some cs
 | cs,(i,g)::r=>match pl i with
  | none=>none
  | some (o,k)=>match nu g with
   | none=>none
   | some gs=>if gs.length≠k || decide (o+gs.length > cs.length) then none else AR pl (pX cs o gs) r
theorem Rel.cells {K:Fz} {β:Bt} {x:Value} {g:GV} {gs:List GV} (h:Rel K β x g) (hg:nu g=some gs):∃ vs:List Value,x.cells=vs.toArray/\bm K β vs gs:=by
 have one:∀ {x:Value} {g:GV},Rel K β x g->x.cells=#[x]->∃ vs:List Value,x.cells=vs.toArray/\bm K β vs [g]:=fun hr hc=>⟨[_],hc,.cons hr .nil⟩
 cases h with
 | v x =>
  simp only [nu] at hg;split at hg
  ·rename_i ho;cases hg;exact one (.v _) (yL ho).1
  ·cases hg
 | U x=>cases hg
 | agg vs cs hl h=>cases hg;exact ⟨vs,rfl,hl,h⟩
 | tup vs cs hl h=>cases hg
 | sl0 a c k=>cases hg;exact one (.sl0 a c k) rfl
 | sl b o c k rows h hc=>cases hg;exact one (.sl b o c k rows h hc) rfl
 | box b o' o cs h=>cases hg;exact one (.box b o' o cs h) rfl
 | loc i o b h=>cases hg;exact one (.loc i o b h) rfl
 | vec i n a c h=>cases hg;exact one (.vec i n a c h) rfl
 | vp i n k idx off x h=>cases hg
 | arr i o n b c h=>cases hg;exact one (.arr i o n b c h) rfl
 | fn f xs ys first cap hl kY h h'=>cases hg;exact one (.fn f xs ys first cap hl kY h h') rfl
def np:List GV->Bool
 | []=>true
 | g::gs=>g.one&&np gs
def pE:List GV->Bool
 | []=>true
 | g::gs=>g.pc&&pE gs
theorem mc {gs:List GV} (h:pE gs=true):∀ g∈gs,g.pc=true:=by
 induction gs with
 | nil=>intro g hg;cases hg
 | cons x gs ih =>
  simp only [pE,aH] at h;intro g hg
  rcases dw hg with rfl | hg
  ·exact h.1
  ·exact ih h.2 g hg
theorem bm.mV {K:Fz} {β:Bt} {vs:List Value} {gs:List GV} (h:bm K β vs gs) (ho:np gs=true):mV vs=true:=by
 induction gs generalizing vs with
 | nil=>have:vs=[]:=gC h.1;subst this;rfl
 | cons g gs ih =>
  cases vs with
  | nil=>have:=h.1;simp at this
  | cons v vs =>
   simp only [np,aH] at ho;obtain ⟨I,M⟩:=h.pL;have h3:=(yL (I.one ho.1)).2;have h4:=ih M ho.2;simp only [Xw.mV,all_cons,aH] at h4 |-;exact ⟨h3,h4⟩
end
theorem bm.jq {K:Fz} {β:Bt} {us:List Value} {hs:List GV} (k:bm K β us hs):∀ {vs:List Value} {gs:List GV} (o:Nat),bm K β vs gs->bm K β (jq vs o us) (pX gs o hs):=by
 have hu:∀ {vs:List Value} {gs:List GV} (o:Nat) {v:Value} {g:GV},Rel K β v g->bm K β vs gs->bm K β (fS vs o v) (bp gs o g):=by
  intro vs
  induction vs with
  | nil =>
   intro gs o v g hv h;have:gs=[]:=gC h.1.symm;subst this;exact .nil
  | cons x vs ih =>
   intro gs o v g hv h
   cases gs with
   | nil=>have:=h.1;simp at this
   | cons y gs =>
    obtain ⟨I,M⟩:=h.pL
    cases o with
    | zero=>exact .cons hv M
    | succ o=>exact .cons I (ih o hv M)
 induction us generalizing hs with
 | nil =>
  intro vs gs o h;have:hs=[]:=gC k.1.symm;subst this;exact h
 | cons u us ih =>
  intro vs gs o h
  cases hs with
  | nil=>have:=k.1;simp at this
  | cons g hs =>
   obtain ⟨I,M⟩:=k.pL;exact ih M (o+1) (hu o I h)
theorem yl {K:Fz} {β:Bt} {pl:Nat->Option (Nat × Nat)} {l:List Value} {fr:List GV} (hF:FR K β fr l):∀ (parts:List (Nat × Operand)) (vs:List Value) (gs cs:List GV),bm K β vs gs ->
  AR pl gs (parts.map fun x=>(x.1,be fr x.2))=some cs->∃ us,rP pl vs (parts.map fun x=>(x.1,ev l x.2))=some us/\bm K β us cs
 | [],vs,gs,cs,h,hf=>by cases hf;exact ⟨vs,rfl,h⟩
 | (i,x)::r,vs,gs,cs,h,hf=>by
  simp only [List.map_cons,AR] at hf;simp only [List.map_cons,rP]
  cases hp:pl i with
  | none=>rw [hp] at hf;cases hf
  | some y =>
   obtain ⟨o,k⟩:=y;rw [hp] at hf;simp only at hf |-
   cases hg:nu (be fr x) with
   | none=>rw [hg] at hf;cases hf
   | some hs =>
    rw [hg] at hf;simp only at hf;obtain ⟨us,kA,kZ⟩:=(hF.ev x).cells hg
    have cX:(ev l x).cells.size=hs.length:=by rw [kA];simpa using kZ.1
    rw [cX,h.1];split at hf
    ·cases hf
    ·rename_i hc;rw [F hc]
     have gM:(ev l x).cells.toList=us:=by rw [kA]
     rw [gM];exact yl hF r _ _ cs (kZ.jq o h) hf
section
variable {P:Program} {m:Nat} {Q:dG} {fr:List GV} {Γ:List Ob} {ops:Array Oper} {rest:List Oper} {d:Option Tmp} {op:Op} {ty:TypeId} {pos:String} {af:Array Edge}
def mH (z:List Value):List GV:=z.map .v
theorem YG.build {t:TypeId} {pl:List (Nat × Nat)} {z:List Value} [hT:vW P t pl z] {parts:List (Nat × Operand)} {cs:List GV} (hf:AR (fun i=>pl[i]?) (mH z) (parts.map fun x=>(x.1,be fr x.2))=some cs) :
  YG P (.build t parts.toArray) fr Γ (.agg cs):=fun B K β w l hI hF=>by
 obtain ⟨us,I,M⟩:=yl hF parts z _ cs bm.self hf;exact ⟨_,R.build I,.agg us cs M.1 M.2⟩
theorem nC {K:Fz} {β:Bt} {l:List Value} {t:Nat} (h:FR K β fr l) (ht:jG fr t=true):jG l t=true:=by
 induction h generalizing t with
 | nil=>cases ht
 | cons _ _ ih=>cases t with | zero=>rfl | succ t=>exact ih ht
theorem td {l:List Value} {t:Nat} (h:jG l t=true) (u:Value):nth (fS l t u) t=u:=by
 induction l generalizing t with
 | nil=>cases h
 | cons x l ih=>cases t with | zero=>rfl | succ t=>exact ih h
theorem ki {l:List Value} {t t':Nat} (h:t'≠t) (u:Value):nth (fS l t u) t'=nth l t':=by
 induction l generalizing t t' with
 | nil=>rfl
 | cons x l ih=>cases t with
  | zero=>cases t' with | zero=>exact absurd rfl h | succ t'=>rfl
  | succ t=>exact zex
theorem GL.alloc {t:TypeId} {z:Value} {cs:List GV} [hT:rL P t z] (hz:mH z.cells.toList=cs) (h:GL P m ops Q rest (bC fr d (.loc Γ.length 0)) (Γ++[.box t cs])):GL P m ops Q (⟨d,.alloc t,ty,pos,af,none⟩::rest) fr Γ:=fun B K β w l hm hI hF=>by
 refine WL.alloc (z:=z) fun b w' hn=>?_
 have bz:=hI.add (vs:=z.cells.toList) (cs:=cs) (E:=t) zgA (by rw [<-hz];exact bm.self);exact zcI
theorem GL.box {t:TypeId} {x:Operand} {cs:List GV} (hx:nu (be fr x)=some cs) (h:GL P m ops Q rest (bC fr d (.loc Γ.length 0)) (Γ++[.box t cs])):GL P m ops Q (⟨d,.box t x,ty,pos,af,none⟩::rest) fr Γ:=fun B K β w l hm hI hF=>by
 obtain ⟨vs,I,M⟩:=(hF.ev x).cells hx
 refine WL.box rfl fun b w' hn=>?_
 rw [I] at hn;have bz:=hI.add hn M;exact zcI
def oset:List Ob->Nat->Ob->List Ob
 | [],_,_=>[]
 | _::l,0,x=>x::l
 | y::l,n+1,x=>y::oset l n x
theorem bg (l:List Ob) (i:Nat) (x:Ob):oset l i x=l.set i x:=by
 induction l generalizing i with
 | nil=>rfl
 | cons y l ih=>cases i with | zero=>rfl | succ i=>simp [oset,ih]
theorem uc:∀ (us:List Value) (vs:List Value) (o:Nat),vL vs.toArray o us=(jq vs o us).toArray
 | [],vs,o=>rfl
 | u::us,vs,o=>by rw [vL,jq,AB];exact uc us _ _
theorem GL.st {x y:Operand} {t:TypeId} {agg:Bool} {k:Nat} [hT:Ty P t agg k] {i o:Nat} {E:TypeId} {cs gs:List GV} (hx:be fr x=.loc i o) (bJ:Γ[i]?=some (.box E cs)) (hy:nu (be fr y)=some gs) (hk:gs.length=k) (I:np gs=true)
  (hl:Nat.ble (o+k) cs.length=true) (h:GL P m ops Q rest (bC fr d (.v undef)) (oset Γ i (.box E (pX cs o gs)))):GL P m ops Q (⟨d,.store t x y,ty,pos,af,none⟩::rest) fr Γ:=fun B K β w l hm hI hF=>by
 have hr:=hF.ev x;rw [hx] at hr;generalize hv:ev l x=v at hr
 cases hr with
 | loc _ _ b hb =>
  obtain ⟨b',vs,M,h3,h4,h5⟩:=hI.ob i _ bJ;rw [hb] at M;cases M;obtain ⟨us,kA,kZ⟩:=(hF.ev y).cells hy
  have kY:o+k<=cs.length:=by simpa using hl
  refine WL.st (t:=t) hv rfl h3 (by rw [kA];simpa [hk] using kZ.1) (by rw [size_toArray,h4.1];exact kY) zge fun w' hs=>?_
  rw [kA,List.toList_toArray,uc] at hs;have bz:=hI.store bJ hb hs (kZ.jq o h4);rw [<-bg] at bz;exact zdT
def chunk:Nat->Nat->List GV->List (List GV)
 | 0,_,_=>[]
 | n+1,k,gs=>gs.take k::chunk n k (gs.drop k)
theorem yi {k:Nat}:∀ (n:Nat) (gs:List GV),gs.length=n * k->(chunk n k gs).flatten=gs/\(chunk n k gs).length=n/\∀ r∈chunk n k gs,r.length=k/\∀ g∈r,g∈gs
 | 0,gs,h=>by
  have:gs=[]:=gC zfP;subst this;exact ⟨rfl,rfl,fun r hr=>by cases hr⟩
 | n+1,gs,h=>by
  have hk:k<=gs.length:=by rw [h,Nat.succ_mul];omega
  obtain ⟨I,M,h3⟩:=yi (k:=k) n (gs.drop k) (by rw [jy,h,Nat.succ_mul];omega);refine ⟨by rw [chunk,flatten_cons,I,List.take_append_drop],by rw [chunk,length_cons,M],fun r hr=>?_⟩;rw [chunk] at hr
  rcases dw hr with rfl | hr
  ·exact ⟨by simp [hk],fun g hg=>List.mem_of_mem_take hg⟩
  ·obtain ⟨h4,h5⟩:=h3 r hr;exact ⟨h4,fun g hg=>List.mem_of_mem_drop (h5 g hg)⟩
def zs:Nat->List Value->List GV
 | 0,_=>[]
 | n+1,z=>mH z++zs n z
theorem Jf {K:Fz} {β:Bt} {n k:Nat} {z:List Value} (hz:z.length=k) (hk:0 < k):bm K β ((List.range (n * k)).map fun j=>z.getD (j % k) undef) (zs n z):=by
 induction n with
 | zero=>simpa [zs] using bm.nil
 | succ n ih =>
  have he:(List.range ((n+1) * k)).map (fun j=>z.getD (j % k) undef)=(List.range k).map (fun j=>z.getD (j % k) undef)++(List.range (n * k)).map fun j=>z.getD (j % k) undef:=by
   rw [Nat.succ_mul,Nat.add_comm,List.range_add,kK,List.map_map]
   congr 1
   apply List.map_congr_left;intro j _;simp
  rw [he,zs];refine bm.app ?_ ih
  have:(List.range k).map (fun j=>z.getD (j % k) undef)=z:=by
   apply List.ext_getElem
   ·simp [hz]
   ·intro j I M;simp at I;simp [Nat.mod_eq_of_lt I,dq M]
  rw [this];exact bm.self
theorem GL.mkF {t e:TypeId} {k:Nat} {z:List Value} [hT:rJ P t e k z] {n:Nat} {parts:List (Nat × Operand)} {cs:List GV} (hn:Nat.ble (n * k) 16777216=true) (hf:AR (fun i=>some (i * k,k)) (zs n z) (parts.map fun x=>(x.1,be fr x.2))=some cs)
  (hl:Nat.beq cs.length (n * k)=true) (hp:pE cs=true) (h:GL P m ops Q rest (bC fr d (.sl k (chunk n k cs))) Γ):GL P m ops Q (⟨d,.buildSlice t n parts.toArray,ty,pos,af,none⟩::rest) fr Γ:=fun B K β w l hm hI hF=>by
 obtain ⟨us,I,M⟩:=yl hF parts _ _ cs (Jf (n:=n) hT.zl hT.pos) hf
 have kY:cs.length=n * k:=by simpa using hl
 refine WL.Ex zgA I fun b w' uC=>?_
 obtain ⟨hle,bz⟩:=hI.tS uC M (mc hp);obtain ⟨c1,c2,c3⟩:=yi n cs kY;refine h B _ β w' _ hm bz ((hF.mono hle (dF.refl β)).put d ?_)
 have ni:gX k (chunk n k cs):=fun r hr=>⟨(c3 r hr).1,fun g hg=>mc hp g ((c3 r hr).2 g hg)⟩
 have:=Rel.sl (K:=l0 K b cs) (β:=β) b 0 n k (chunk n k cs) (fun i r hr=>⟨(ni r (br hr)).1,fun j g hg=>by
  rw [cL];exact uO (by have:=vI ni hr hg;rw [c1] at this;exact this)⟩) (by rw [c2];exact aD _)
 rw [c2] at this;exact this
theorem GL.UH {t e:TypeId} {k:Nat} {z:List Value} [hT:rJ P t e k z] {n:Nat} {parts:List (Nat × Operand)} {cs:List GV} (hn:Nat.ble (n * k) 16777216=true) (hf:AR (fun i=>some (i * k,k)) (zs n z) (parts.map fun x=>(x.1,be fr x.2))=some cs)
  (hl:Nat.beq cs.length (n * k)=true) (hp:pE cs=true) (h:GL P m ops Q rest (bC fr d (.vec Γ.length n)) (Γ++[.vec e k 0 (chunk n k cs)])):GL P m ops Q (⟨d,.buildSlice t n parts.toArray,ty,pos,af,none⟩::rest) fr Γ:=fun B K β w l hm hI hF=>by
 obtain ⟨us,I,M⟩:=yl hF parts _ _ cs (Jf (n:=n) hT.zl hT.pos) hf
 have kY:cs.length=n * k:=by simpa using hl
 have Dg:n * k<=16777216:=by simpa using hn
 have b8:n<=16777216:=jO (Nat.le_mul_of_pos_right n hT.pos) Dg
 refine WL.Ex Dg I fun b w' uC=>?_
 obtain ⟨c1,c2,c3⟩:=yi n cs kY
 have ni:gX k (chunk n k cs):=fun r hr=>⟨(c3 r hr).1,fun g hg=>mc hp g ((c3 r hr).2 g hg)⟩
 have how:=jg.YM uC (n:=n) (k:=k) (by rw [M.1,kY]) (by simp only [maxLen];omega);have bz:=hI.GK (x:=.slice (some ⟨b,0,none⟩) n n) (xs:=us) (rows:=chunk n k cs) uC.ext (by rw [c2];exact how.base (aO _)) (fun b' bA=>by cases bA;rw [uC.fresh];exact aD _) (by rw [c1];exact M) ni;refine h B K _ w' _ hm bz ((hF.mono (cV.refl K) (jr (by rw [hI.out _ (aD _)];trivial))).put d ?_);exact .vec _ n _ n ⟨_,_,bG,by rw [c2];exact aD _,fun _=>rfl⟩
def Tf (x:Operand) (t:Tmp):Bool :=
 match x with
 | .tmp t'=>!Nat.beq t' t
 | _=>true
theorem W2 {l:List Value} {x:Operand} {t:Tmp} (h:Tf x t=true) (u:Value):ev (put l (some t) u) x=ev l x:=by
 cases x with
 | tmp t'=>exact ki (fun e=>by subst e;simp [Tf] at h) u
 | _=>rfl
theorem GL.push {x s:Operand} {t e k iP:Nat} {z:List Value} [hT:qd P t e k iP] [hZ:rJ P t e k z] {d1:Tmp} {QZ:TypeId} {Iu:String} {N0:Array Edge} {i n fz:Nat} {rows:List (List GV)} {gs:List GV}
  (hx:nu (be fr x)=some gs) (hk:Nat.beq gs.length k=true) (I:np gs=true) (hp:pE gs=true) (hs:be fr s=.vec i n) (Yi:Tf s d1=true) (hd:jG fr d1=true) (bJ:Γ[i]?=some (.vec e k fz rows)) (hn:rows.length=n)
  (hb:(n+1<=9223372036854775807/\(n+1) * iP<=140737488355328)/\k<=16777216)
  (h:GL P m ops Q rest (bC (bC fr (some d1) U) d (.vec i (n+1))) (oset Γ i (.vec e k fz (rows++[gs])))) :
  GL P m ops Q (⟨some d1,.buildSlice t 1 #[(0,x)],QZ,Iu,N0,none⟩::⟨d,.call ⟨.builtin .append,#[s,.tmp d1],#[t,t]⟩,ty,pos,af,none⟩::rest) fr Γ:=fun B K β w l hm hI hF=>by
 subst hn;obtain ⟨us,kA,kZ⟩:=(hF.ev x).cells hx;obtain ⟨h0,xs,o1,o2,o3,o4,o5,o6⟩:=hI.ob i _ bJ;have vw:=hF.ev s;rw [hs] at vw
 have sJ:ev l s=h0:=by
  generalize hv:ev l s=v at vw
  cases vw with
  | vec _ _ a c hh =>
   obtain ⟨h',m',e1,e2,e3⟩:=hh;rw [o1] at e1;cases e1;exact e3 rfl
 have Pf:=nC hF hd
 have nz:gs.length=k:=by simpa using hk
 refine WL.push (base:=0) (v:=h0) (vs:=us) (val:=ev l x) (xs:=xs) (n:=rows.length) rfl (fun u=>by rw [W2 Yi];exact sJ) (fun u=>td Pf u) kA (by rw [kZ.1,nz]) (kZ.mV I) o2 hb.1.1 hb.1.2 hb.2 (aO _) ?_;intro u v' w' how ji wo xt
 obtain ⟨K',hK,sK,bz⟩:=hI.grow bJ o1 ⟨o2,o3⟩ (news:=[gs]) (ns:=us) how ji wo (by simpa using kZ) (fun r hr=>by simp at hr;subst hr;exact ⟨nz,mc hp⟩) zfL (fun b bA o v ho hv=>by
  rcases xt with h7 | h7
  ·exact h7.c hv (fun h=>h)
  ·have iR:o < xs.length:=by rw [o2.1];exact y5 ho (sD k o6)
   obtain ⟨b2,c2,rm,_,_,lC⟩:=o2.cells.2 (by intro h0;rw [h0] at iR;simp at iR)
   have fJ:b2=b:=by rw [rm] at bA;cases bA;rfl
   subst fJ;have FC:=lC o xs[o] (by simp [iR]);rw [gw,hv] at FC;cases FC;obtain ⟨b3,c3,Ph,_,_,Pd⟩:=how.cells.2 (by intro h0;have:xs=[]:=(List.append_eq_nil_iff.1 h0).1;rw [this] at iR;simp at iR)
   have zJ:b3=b2:=by rw [Ph,bA] at h7;cases h7;rfl
   subst zJ
   rw [<-gw];exact Pd o _ zgG)
 rw [<-bg] at bz;refine h B K' _ w' _ hm bz (((hF.mono hK sK).put (some d1) (.U u)).put d ?_);obtain ⟨a,c,rfl⟩:=how.shape;exact .vec i _ a c ⟨_,_,bG,by simp,fun _=>rfl⟩
theorem Wk.w6 {t:Nat} {a:Option Addr} {c:Nat} (E k:Nat) (ht:cK fr t=.v (.slice none 0 0)):Wk m fr Γ (bp fr t (.vec Γ.length 0)) (Γ++[.vec E k 0 []]):=fun B K β w l hm hI hF=>by
 have cZ:β Γ.length=.no:=hI.out _ (aD _);have bz:=hI.GK (w':=w) (E:=E) (k:=k) (x:=.slice none 0 0) (xs:=[]) (rows:=[]) (Ext.refl w) (jg.nil w 0 E k) (fun b hb=>by cases hb) bm.nil (fun r hr=>by cases hr);refine ⟨K,_,bz,?_⟩;have xm:=hF.mono (cV.refl K) (jr (i:=Γ.length) (x:=.gr (.slice none 0 0) ([]:List (List GV)).length) zgg);have hv:nth l t=.slice none 0 0:=Rel.fF (by rw [<-ht];exact hF.nth t)
 have hu:∀ (l:List Value) (t:Nat) (v:Value),nth l t=v->(∃ a n c,v=.slice a n c)->fS l t v=l:=by
  intro l
  induction l with
  | nil=>intro t v _ _;rfl
  | cons x l ih =>
   intro t v I M
   cases t with
   | zero=>simp only [nth] at I;subst I;rfl
   | succ t=>simp only [nth] at I;simp only [fS];rw [ih t v I M]
 have:=xm.fS t (v:=.slice none 0 0) (g:=.vec Γ.length 0) (.vec _ 0 none 0 ⟨_,_,bG,aD _,fun _=>rfl⟩);rw [hu l t _ hv ⟨_,_,_,rfl⟩] at this;exact this
theorem CP {l:List Value} {t:Nat} (h:jG l t=true):fS l t (nth l t)=l:=by
 induction l generalizing t with
 | nil=>cases h
 | cons x l ih=>cases t with | zero=>rfl | succ t=>simp only [fS,nth];rw [ih h]
theorem Wk.iy {t i n E k fz:Nat} {rows:List (List GV)} (ht:cK fr t=.vec i n) (eZ:jG fr t=true) (bJ:Γ[i]?=some (.vec E k fz rows)) (hn:rows.length=n):Wk m fr Γ (bp fr t (.sl k rows)) (oset Γ i (.vec E k n rows)):=fun B K β w l hm hI hF=>by
 subst hn;obtain ⟨h0,xs,o1,o2,o3,o4,o5,o6⟩:=hI.ob i _ bJ;obtain ⟨K',hK,Fu,bz⟩:=hI.iy bJ;rw [<-bg] at bz;refine ⟨K',β,bz,?_⟩;have hr:=hF.nth t;rw [ht] at hr
 have fT:Rel K' β (nth l t) (.sl k rows):=by
  generalize nth l t=v at hr
  cases hr with
  | vec _ _ a c hh =>
   obtain ⟨h',m',e1,e2,e3⟩:=hh;rw [o1] at e1;cases e1;have e4:=e3 rfl
   rcases o2.2 with ⟨e5,e6⟩ | ⟨g,cap,cu,e5,_,_,qB,_⟩
   ·have:rows=[]:=gC e6;subst this;exact .sl0 _ _ _
   ·rw [e5] at e4;cases e4;exact zb4
 have:=(hF.mono hK (dF.refl β)).fS t fT;rw [CP (nC hF eZ)] at this;exact this
def oH (i:Nat) (cs:List GV):GV->GV
 | .loc j o=>match Nat.beq j i with
  | true=>.box cs o
  | false=>.loc j o
 | g=>match g.ok (other i) with
  | true=>g
  | false=>.U
theorem Rel.frz {K K':Fz} {β:Bt} {i b:Nat} {cs:List GV} {x:Value} {g:GV} (h:Rel K β x g) (hk:cV K K') (hb:β i=.fix b) (hc:∀ (j:Nat) g,cs[j]?=some g->K' b j=some g):Rel K' (gi (other i) β) x (oH i cs g):=by
 have gen:∀ {g:GV},Rel K β x g->Rel K' (gi (other i) β) x (match g.ok (other i) with | true=>g | false=>.U):=by
  intro g h;split
  ·rename_i ho;exact (h.mono hk (dF.refl β)).res ho
  ·exact .U _
 cases g with
 | loc j o =>
  simp only [oH];split
  ·rename_i hj
   have hj:j=i:=by simpa using hj
   subst hj
   cases h with
   | loc _ _ b' bA =>
    rw [hb] at bA;cases bA;have:=Rel.box (K:=K') (β:=gi (other j) β) b 0 o cs (fun q g hg=>by rw [cL];exact hc q g hg);rw [cL] at this;exact this
  ·rename_i hj
   have hj:j≠i:=by intro e;subst e;simp at hj
   exact (h.mono hk (dF.refl β)).res (xM hj)
 | _=>exact gen h
def pg (i:Nat) (cs:List GV):List GV->List GV
 | []=>[]
 | g::gs=>oH i cs g::pg i cs gs
theorem Wk.freeze {i:Nat} {E:TypeId} {cs:List GV} (bJ:Γ[i]?=some (.box E cs)) (hp:pE cs=true) (cZ:sL (other i) (oset Γ i .gone)=true) (hm:m<=i):Wk m fr Γ (pg i cs fr) (oset Γ i .gone):=fun B K β w l hB hI hF=>by
 rw [bg] at cZ |-;obtain ⟨b,vs,I,M,h3,h4⟩:=hI.ob i _ bJ;obtain ⟨K',hK,Fu,bz⟩:=hI.freeze bJ (mc hp) cZ zfO;refine ⟨K',_,bz,?_⟩;clear hI bz cZ bJ
 induction hF with
 | nil=>exact .nil
 | cons h t ih=>exact .cons (h.frz hK I (Fu b I)) ih
end
def cB:List Nat->Nat->Nat->Nat
 | [],n,j=>n+j
 | i::_,_,0=>i
 | _::r,n,j+1=>cB r n j
def eA:List Ob->List Nat->List Ob->List Ob
 | Γ,[],xs=>Γ++xs
 | Γ,_::_,[]=>Γ
 | Γ,i::r,x::xs=>eA (oset Γ i x) r xs
def jM:List Nat->Nat->Bool
 | [],_=>true
 | i::r,n=>Nat.blt i n&&!(r.contains i)&&jM r n
theorem EJ {aw:List Nat} {n j:Nat} (h:aw.length<=j):cB aw n j=n+(j - aw.length):=by
 induction aw generalizing j with
 | nil=>simp [cB]
 | cons i r ih =>
  cases j with
  | zero=>simp at h
  | succ j=>rw [cB,ih zfP];simp
theorem Wf {aw:List Nat} {n j:Nat} (h:j < aw.length):∃ i∈aw,cB aw n j=i:=by
 induction aw generalizing j with
 | nil=>simp at h
 | cons i r ih =>
  cases j with
  | zero=>exact ⟨i,by simp,rfl⟩
  | succ j=>obtain ⟨x,I,M⟩:=ih (j:=j) zfP;exact ⟨x,by simp [I],M⟩
theorem Io {aw:List Nat} {n:Nat} (h:jM aw n=true):∀ i∈aw,i < n:=by
 induction aw with
 | nil=>intro i hi;cases hi
 | cons x r ih =>
  simp only [jM,aH] at h;intro i hi
  rcases dw hi with rfl | hi
  ·simpa using h.1.1
  ·exact ih h.2 i hi
theorem CL {aw:List Nat} {n:Nat} (h:jM aw n=true):∀ {j j':Nat},cB aw n j=cB aw n j'->j=j':=by
 induction aw with
 | nil=>intro j j' he;simp only [cB] at he;omega
 | cons x r ih =>
  have aj:=Io h;simp only [jM,aH,Bool.not_eq_true'] at h
  have hx:∀ j,cB r n j≠x:=fun j he=>by
   by_cases hj:j < r.length
   ·obtain ⟨i,hi,M⟩:=Wf (n:=n) hj;rw [he] at M;subst M;have:=h.1.2;rw [il.2 hi] at this;cases this
   ·have:=EJ (n:=n) (Nat.le_of_not_lt hj);have:=aj x zfL;omega
  intro j j' he
  cases j with
  | zero=>cases j' with
   | zero=>rfl
   | succ j'=>exact absurd he.symm (hx j')
  | succ j=>cases j' with
   | zero=>exact absurd he (hx j)
   | succ j'=>rw [ih h.2 he]
theorem JR {aw:List Nat} {n:Nat}:∀ {Γ xs:List Ob},Γ.length=n->jM aw n=true->aw.length<=xs.length ->
  (∀ j,(eA Γ aw xs)[cB aw n j]?=xs[j]?)/\(∀ i,(∀ j,cB aw n j≠i)->(eA Γ aw xs)[i]?=Γ[i]?)/\(eA Γ aw xs).length=n+(xs.length - aw.length):=by
 induction aw with
 | nil =>
  intro Γ xs hn _ _;refine ⟨fun j=>?_,fun i hi=>?_,by simp [eA,hn]⟩
  ·simp only [eA,cB];rw [fw zfO];congr 1;omega
  ·simp only [eA,cB] at hi |-
   by_cases aj:i < n
   ·rw [eR zfO]
   ·exact absurd zfO (hi (i - n))
 | cons x r ih =>
  intro Γ xs hn fo hl;have HB:=@CL (x::r) n fo;have aj:=Io fo x zfL
  cases xs with
  | nil=>simp at hl
  | cons y ys =>
   simp only [jM,aH,Bool.not_eq_true'] at fo;obtain ⟨I,M,h3⟩:=ih (Γ:=oset Γ x y) (xs:=ys) (by rw [bg];simpa using hn) fo.2 zfR
   have hx:∀ j,cB r n j≠x:=fun j he=>by
    have:=@HB (j+1) 0 he;omega
   refine ⟨fun j=>?_,fun i hi=>?_,by simp only [eA,h3,length_cons];omega⟩
   ·cases j with
    | zero =>
     simp only [eA,cB];rw [M x hx,bg,dN];simp [hn,aj]
    | succ j=>simp only [eA,cB];exact I j
   ·simp only [eA];rw [M i (fun j=>hi (j+1)),bg,dN];rw [F (by intro e;exact hi 0 e)]
theorem lZ.DE {K:Fz} {β:Bt} {w:World} {f:Nat->Nat} {j:Nat} {x:Ob} (h:lZ K β w (f j) (x.ey f)):lZ K (fun j=>β (f j)) w j x:=by
 cases x with
 | gone=>exact h
 | box E cs =>
  obtain ⟨b,vs,I,M,h3,h4⟩:=h;rw [lL] at h3;exact ⟨b,vs,I,M,⟨by simpa using h3.1,fun i v g h5 h6=>(h3.2 i v (ey f g) h5 (by rw [aS,h6];rfl)).DE⟩,h4⟩
 | vec E k fz rows =>
  exact zch
 | vech E k rows x =>
  exact zco
 | lost=>exact h
 | blk b q=>exact h
theorem lZ.DO {K:Fz} {β:Bt} {w:World} {f:Nat->Nat} {j:Nat} {x:Ob} (h:lZ K (fun j=>β (f j)) w j x):lZ K β w (f j) (x.ey f):=by
 cases x with
 | gone=>exact h
 | box E cs =>
  obtain ⟨b,vs,I,M,h3,h4⟩:=h;refine ⟨b,vs,I,M,?_,h4⟩;rw [lL];refine ⟨by simpa using h3.1,fun i v g h5 h6=>?_⟩;rw [aS] at h6
  cases hc:cs[i]? with
  | none=>rw [hc] at h6;cases h6
  | some c=>rw [hc] at h6;cases h6;exact (h3.2 i v c h5 hc).DO
 | vec E k fz rows =>
  exact zch
 | vech E k rows x =>
  exact zco
 | lost=>exact h
 | blk b q=>exact h
section
variable {K:Fz} {β:Bt} {Γ:List Ob} {w:World} {B:Bs}
theorem Inv.enter {aw:List Nat} {jz:List Ob} (h:Inv B K β Γ w) (fo:jM aw Γ.length=true) (hl:jz.length=aw.length) (bJ:∀ j x,jz[j]?=some x->Γ[cB aw Γ.length j]?=some (x.ey (cB aw Γ.length))) :
  Inv (cur K (fun j=>β (cB aw Γ.length j)) jz w) K (fun j=>β (cB aw Γ.length j)) jz w:=by
 have cZ:∀ i,jz.length<=i->β (cB aw Γ.length i)=.no:=fun i hi=>by
  rw [EJ zfO];exact h.out _ zfO
 exact ⟨Ext.refl w,cV.refl K,dF.refl _,cZ,h.fz,fun i x hi=>(h.ob _ _ (bJ i x hi)).DE,cZ,fun i j b hi hj=>CL fo (h.dis _ _ b hi hj),fun i b hb=>.inl ⟨i,hb⟩,fun _ _ _ h=>.inl h,h.tab.step (S:=iD) (Ext.refl w) (fun _ h=>h.elim) (cV.refl K) (fun i b2 M=>.inl ⟨_,M⟩)⟩
theorem Inv.leave {aw:List Nat} {jz tB:List Ob} {K':Fz} {CR:Bt} {w':World} (h:Inv B K β Γ w) (fo:jM aw Γ.length=true) (hl:jz.length=aw.length) (kY:aw.length<=tB.length)
  (hI:Inv (cur K (fun j=>β (cB aw Γ.length j)) jz w) K' CR tB w') :
  ∃ bX,cV K K'/\dF β bX/\(∀ j,bX (cB aw Γ.length j)=CR j)/\Inv B K' bX (eA Γ aw (tB.map (Ob.ey (cB aw Γ.length)))) w':=by
 obtain ⟨s1,s2,s3⟩:=JR (aw:=aw) (n:=Γ.length) (Γ:=Γ) (xs:=tB.map (Ob.ey (cB aw Γ.length))) rfl fo (by simpa using kY);rw [bV] at s3;generalize hf:cB aw Γ.length=f at *
 have HB:∀ {j j'},f j=f j'->j=j':=by subst hf;exact CL fo
 have ny:∀ j,aw.length<=j->f j=Γ.length+(j - aw.length):=fun j hj=>by subst hf;exact EJ hj
 have abk:∀ i,Γ.length<=i->f (aw.length+(i - Γ.length))=i:=fun i hi=>by rw [ny _ zfO];omega
 have ⟨bX,hβ1,hβ2⟩:∃ bX:Bt,(∀ j,bX (f j)=CR j)/\∀ i,(∀ j,f j≠i)->bX i=β i:=by
  classical
  refine ⟨fun i=>if h:∃ j,f j=i then CR (Classical.choose h) else β i,fun j=>?_,fun i hi=>?_⟩
  ·have hex:∃ j',f j'=f j:=⟨j,rfl⟩;simp only;rw [dif_pos hex,HB (Classical.choose_spec hex)]
  ·simp only;rw [dif_neg (fun ⟨j,hj⟩=>hi j hj)]
 have Xo:dF β bX:=fun i=>by
  by_cases hi:∃ j,f j=i
  ·obtain ⟨j,rfl⟩:=hi;rw [hβ1];exact hI.ble j
  ·rw [hβ2 i (fun j hj=>hi ⟨j,hj⟩)];exact sM.refl _
 have My:∀ b,blocks (fun j=>β (f j)) b->blocks β b:=fun b ⟨j,hj⟩=>⟨f j,hj⟩
 have gq:∀ i b,(bX i).blk=some b->blocks β b\/w.heap.size<=b:=fun i b hb=>by
  by_cases hi:∃ j,f j=i
  ·obtain ⟨j,rfl⟩:=hi;rw [hβ1] at hb;exact (hI.own j b hb).imp (My b) id
  ·rw [hβ2 i (fun j hj=>hi ⟨j,hj⟩)] at hb;exact .inl ⟨i,hb⟩
 have tV:∀ i b,(∀ j,f j≠i)->(β i).blk=some b->¬ blocks (fun j=>β (f j)) b:=fun i b hi hb ⟨j,hj⟩=>hi j (h.dis _ _ b hj hb)
 refine ⟨bX,hI.kle,Xo,hβ1,h.Qw (Γ0:=Γ) ?_⟩;refine ⟨hI.ext.mono (fun k _ hk=>My k hk),hI.kle,Xo,h.out,hI.fz,fun i x hi=>?_,fun i hi=>?_,fun i i' b hi qy=>?_,gq,fun b o g hg=>?_,⟨hI.tab.le,hI.tab.pow,hI.tab.spc,fun i b hb=>(gq i b hb).elim (fun ⟨j,hj⟩=>h.tab.free j b hj) (fun hs=>⟨by have:=h.tab.pow.lt;have hs:w.heap.size<=b:=hs;omega,by have:=h.tab.spc.lt;have hs:w.heap.size<=b:=hs;omega⟩)⟩⟩
 ·by_cases hj:∃ j,f j=i
  ·obtain ⟨j,rfl⟩:=hj;rw [s1 j,aS] at hi
   cases hc:tB[j]? with
   | none=>rw [hc] at hi;cases hi
   | some c =>
    rw [hc] at hi;cases hi;refine lZ.DO ?_;have:=hI.ob j c hc;rw [show (fun j=>bX (f j))=CR from funext hβ1];exact this
  ·have nO:∀ j,f j≠i:=fun j h=>hj ⟨j,h⟩
   rw [s2 i nO] at hi;refine (h.ob i x hi).ext hI.ext (fun b hb=>tV i b nO hb) hI.kle Xo (hβ2 i nO) (fun b o hb hk=>?_)
   cases nz:K' b o with
   | none=>rfl
   | some g =>
    rcases hI.kn b o g nz with h7 | h7 | h7
    ·have h7:K b o=some g:=h7;rw [hk] at h7;cases h7
    ·exact absurd h7 (tV i b nO hb)
    ·have:=h.lt hb;have h7:w.heap.size<=b:=h7;omega
 ·rw [s3] at hi;have I:=abk i zfO;rw [<-I,hβ1];exact hI.out _ zfO
 ·by_cases I:∃ j,f j=i <;> by_cases M:∃ j,f j=i'
  ·obtain ⟨j,rfl⟩:=I;obtain ⟨j',rfl⟩:=M;rw [hβ1] at hi qy;rw [hI.dis j j' b hi qy]
  ·obtain ⟨j,rfl⟩:=I
   have sF:∀ j,f j≠i':=fun j h=>M ⟨j,h⟩
   rw [hβ1] at hi;rw [hβ2 i' sF] at qy
   rcases hI.own j b hi with h7 | h7
   ·exact absurd h7 (tV i' b sF qy)
   ·have:=h.lt qy;have h7:w.heap.size<=b:=h7;omega
  ·obtain ⟨j,rfl⟩:=M
   have dx:∀ j,f j≠i:=fun j h=>I ⟨j,h⟩
   rw [hβ1] at qy;rw [hβ2 i dx] at hi
   rcases hI.own j b qy with h7 | h7
   ·exact absurd h7 (tV i b dx hi)
   ·have:=h.lt hi;have h7:w.heap.size<=b:=h7;omega
  ·rw [hβ2 i (fun j h=>I ⟨j,h⟩)] at hi;rw [hβ2 i' (fun j h=>M ⟨j,h⟩)] at qy;exact h.dis i i' b hi qy
 ·rcases hI.kn b o g hg with h7 | h7 | h7
  ·exact .inl h7
  ·exact .inr (.inl (My b h7))
  ·exact .inr (.inr h7)
end
section
variable {P:Program} {m:Nat} {Q:dG} {fr:List GV} {Γ:List Ob} {ops:Array Oper} {rest:List Oper} {d:Option Tmp} {op:Op} {ty:TypeId} {pos:String} {af:Array Edge}
def seen (f:Nat->Nat) (Γ:List Ob):List Nat->List Ob->Prop
 | [],[]=>True
 | i::r,x::xs=>Γ[i]?=some (x.ey f)/\seen f Γ r xs
 | _,_=>False
theorem F3 {f:Nat->Nat} {Γ:List Ob} {n:Nat}:∀ {aw:List Nat} {jz:List Ob},seen f Γ aw jz->jz.length=aw.length/\∀ j x,jz[j]?=some x->Γ[cB aw n j]?=some (x.ey f)
 | [],[],_=>⟨rfl,fun j x h=>by simp at h⟩
 | i::r,y::ys,h=>by
  obtain ⟨I,M⟩:=h;obtain ⟨h3,h4⟩:=F3 (n:=n) M;refine ⟨by simp [h3],fun j x hx=>?_⟩
  cases j with
  | zero=>cases hx;exact I
  | succ j=>exact h4 j x hx
 | [],_::_,h=>h.elim
 | _::_,[],h=>h.elim
theorem GL.calls {f:FuncId} {aw:List Nat} {gs:List GV} {jz:List Ob} {R:GV->List Ob->Prop} {vs:List Value->List Value} (hr:∀ K β w l,FR K β fr l->bm K β (vs l) (l7 (cB aw Γ.length) gs)/\(execOp (ev l) ⟨d,op,ty,pos,af,none⟩).run P w=.ok (.enter f (vs l).toArray) w)
  (fo:jM aw Γ.length=true) (bJ:seen (cB aw Γ.length) Γ aw jz) (hc:GC P f gs jz R)
  (h:∀ g aR,R g aR->aw.length<=aR.length/\GL P m ops Q rest (bC fr d (ey (cB aw Γ.length) g)) (eA Γ aw (aR.map (Ob.ey (cB aw Γ.length))))) :
  GL P m ops Q (⟨d,op,ty,pos,af,none⟩::rest) fr Γ:=fun B K β w l hm hI hF=>by
 obtain ⟨hl,hs⟩:=F3 (n:=Γ.length) bJ;obtain ⟨ha,hr⟩:=hr K β w l hF;have hIc:=hI.enter fo hl hs
 have C9:bm K (fun j=>β (cB aw Γ.length j)) (vs l) gs:=by
  rw [lL] at ha;exact ⟨by simpa using ha.1,fun i v g h5 h6=>(ha.2 i v (ey _ g) h5 (by rw [aS,h6];rfl)).DE⟩
 refine WL.calls hr (hc _ K _ w _ rfl hIc C9) ?_;rintro v w' ⟨K',CR,g,aR,bz,fT,hR⟩;obtain ⟨kY,h⟩:=h g aR hR;obtain ⟨bX,hK,hB,sK,rj⟩:=hI.leave fo hl kY bz;refine h B K' bX w' _ hm rj ((hF.mono hK hB).put d (Rel.DO ?_));rw [show (fun j=>bX (cB aw Γ.length j))=CR from funext sK];exact fT
theorem GL.tF {f:FuncId} [hf:aK P f] (aw:List Nat) {x:Operand} {first cap:List GV} {args:List Operand} {mG:Array TypeId} {gs:List GV} {jz:List Ob} {R:GV->List Ob->Prop} (hc:GC P f gs jz R) (hx:be fr x=.fn (.func f) first cap) (ha:first++args.map (be fr)++cap=l7 (cB aw Γ.length) gs) (fo:jM aw Γ.length=true)
  (bJ:seen (cB aw Γ.length) Γ aw jz) (h:∀ g aR,R g aR->aw.length<=aR.length/\GL P m ops Q rest (bC fr d (ey (cB aw Γ.length) g)) (eA Γ aw (aR.map (Ob.ey (cB aw Γ.length))))) :
  GL P m ops Q (⟨d,.call ⟨.value x,args.toArray,mG⟩,ty,pos,af,none⟩::rest) fr Γ :=
 GL.calls (vs:=fun l=>match ev l x with | .func _ a c=>a.toList++args.map (ev l)++c.toList | _=>[]) (fun K β w l hF=>by
  have hr:=hF.ev x;rw [hx] at hr;generalize hv:ev l x=v at hr
  cases hr with
  | fn _ xs ys _ _ I M h3 h4 =>
   refine ⟨?_,?_⟩
   ·rw [<-ha];exact (bm.app (bm.app ⟨I,h3⟩ (hF.args args)) ⟨M,h4⟩)
   ·simp [execOp,resolve,hv,Deferred.ofValue,invoke,nG]) fo bJ hc h
theorem GL.Zy {f:FuncId} [hf:aK P f] (aw:List Nat) {x:Operand} {args:List Operand} {mG:Array TypeId} {gs:List GV} {jz:List Ob} {R:GV->List Ob->Prop} (hc:GC P f gs jz R) (hx:be fr x=.v (.func (.func f) #[] #[])) (ha:args.map (be fr)=l7 (cB aw Γ.length) gs) (fo:jM aw Γ.length=true)
  (bJ:seen (cB aw Γ.length) Γ aw jz) (h:∀ g aR,R g aR->aw.length<=aR.length/\GL P m ops Q rest (bC fr d (ey (cB aw Γ.length) g)) (eA Γ aw (aR.map (Ob.ey (cB aw Γ.length))))) :
  GL P m ops Q (⟨d,.call ⟨.value x,args.toArray,mG⟩,ty,pos,af,none⟩::rest) fr Γ :=
 GL.calls (vs:=fun l=>args.map (ev l)) (fun K β w l hF=>⟨by rw [<-ha];exact hF.args args,by
  have hv:=hF.kq hx
  simp [execOp,resolve,hv,Deferred.ofValue,invoke,nG]⟩) fo bJ hc h
end
def ph (ops:List Oper) (fr:List GV):Nat->Option (Option Bool):=fun j =>
 match jG ops j,(ur ops j).dst with
 | true,some t=>match jG fr t,cK fr t with
  | true,.v (.bool c)=>some (some c)
  | true,.v (.tuple _)=>some none
  | _,_=>none
 | _,_=>none
section
variable {P:Program} {m:Nat} {Q:dG} {fr:List GV} {Γ:List Ob} {ops:Array Oper} {rest:List Oper} {d:Option Tmp} {op:Op} {ty:TypeId} {pos:String} {af:Array Edge}
theorem xl {K:Fz} {β:Bt} {l:List Value} {j:Nat} {b:Bool} {c:Option Bool} (hF:FR K β fr l) (h:ph ops.toList fr j=some c):FE (some (j,b)) ops.toList l=true/\gv ops.toList l (j,b)=c:=by
 unfold ph at h;split at h
 ·rename_i t I M;split at h
  ·rename_i c' h3 h4;cases h;have hv:nth l t=.bool c':=Rel.fF (by rw [<-h4];exact hF.nth t);exact zdo
  ·rename_i vs h3 h4;cases h;have hv:nth l t=.tuple vs:=Rel.fF (by rw [<-h4];exact hF.nth t);exact zdo
  ·cases h
 ·cases h
theorem GL.gt {gd:Nat × Bool} {c:Bool} (hv:ph ops.toList fr gd.1=some (some c)) (hc:c=gd.2) (h:GL P m ops Q (⟨d,op,ty,pos,af,none⟩::rest) fr Γ):GL P m ops Q (⟨d,op,ty,pos,af,some gd⟩::rest) fr Γ:=fun B K β w l hm hI hF=>by
 obtain ⟨I,M⟩:=xl (b:=gd.2) hF hv;exact Xw.GT I M hc (h B K β w l hm hI hF)
theorem GL.gf {gd:Nat × Bool} {c:Bool} (hv:ph ops.toList fr gd.1=some (some c)) (hc:c=!gd.2) (h:GL P m ops Q rest (bC fr d (.v undef)) Γ):GL P m ops Q (⟨d,op,ty,pos,af,some gd⟩::rest) fr Γ:=fun B K β w l hm hI hF=>by
 obtain ⟨I,M⟩:=xl (b:=gd.2) hF hv;exact Xw.GF I M hc (h B K β w _ hm hI (hF.put d (.v _)))
theorem GL.gu {gd:Nat × Bool} (hv:ph ops.toList fr gd.1=some none) (h:GL P m ops Q rest (bC fr d (.v undef)) Γ):GL P m ops Q (⟨d,op,ty,pos,af,some gd⟩::rest) fr Γ:=fun B K β w l hm hI hF=>by
 obtain ⟨I,M⟩:=xl (b:=gd.2) hF hv;exact Xw.GU I M (h B K β w _ hm hI (hF.put d (.v _)))
end
def gG (ops:List Oper) (fr:List GV):Option (Nat × Bool)->Option Bool
 | none=>some true
 | some (j,b)=>match ph ops fr j with
  | some (some c)=>some (c==b)
  | some none=>some false
  | none=>none
theorem Ku {ops:Array Oper} {K:Fz} {β:Bt} {fr:List GV} {l:List Value} {o:Oper} {c:Bool} (hF:FR K β fr l) (h:gG ops.toList fr o.guard=some c):Region.wanted o (yielded ops (act l).tmps)=c:=by
 obtain ⟨d,op,ty,pos,af,gd⟩:=o
 cases gd with
 | none=>simp only [gG] at h;cases h;rfl
 | some gd =>
  obtain ⟨j,b⟩:=gd;simp only [gG] at h;split at h
  ·rename_i c' hc;cases h;obtain ⟨I,M⟩:=xl (b:=b) hF hc;rw [x7 I]
   cases Bx:(c'==b) with
   | true=>exact Q9 M (by simpa using Bx)
   | false=>exact Q8 M (by cases c' <;> cases b <;> simp_all)
  ·rename_i hc;cases h;obtain ⟨I,M⟩:=xl (b:=b) hF hc;rw [x7 I];exact Ra M
  ·cases h
def FT (P:Program) (o:Oper) (e:Operand->Value) (w:World) (Kv:Value->World->Prop):Prop :=
 match (execOp e o).run P w with
 | .ok (.value v) w'=>Kv v w'
 | .ok .skip w'=>Kv undef w'
 | .ok (.enter f args) w'=>Calls P f args w' fun e UZ=>∃ v,e=.returned v/\Kv v UZ
 | .ok (.row row args) w'=>Rows P row args w' Kv
 | _=>False
theorem YN {P:Program} {o:Oper} {a:Act} {w:World} {Kv:Value->World->Prop} {next:Act->World->Prop} {Q:Exit->Act->World->Prop} (h:FT P o a.eval w Kv) (hn:∀ v w',Kv v w'->next (a.put o.dst v) w'):o.wp P a w next Q:=by
 unfold FT at h;unfold Oper.wp;generalize (execOp a.eval o).run P w=r at *
 cases r with
 | ok n w' =>
  cases n <;> simp only [Oper.upon] at h |- <;> first
   | exact hn _ _ h
   | exact Calls.mono h (fun e UZ ⟨v,he,hv⟩=>by subst he;exact hn _ _ hv)
   | exact Rows.mono h (fun _ _ hv=>hn _ _ hv)
   | exact h.elim
 | halt x w'=>exact h.elim
theorem Zm {P:Program} {o:Oper} {a:Act} {w:World} {Kv:Value->World->Prop} {next:Act->World->Prop} {Q:Exit->Act->World->Prop} (h:o.wp P a w next Q) (hQ:∀ c a w,¬ Q (.panic c) a w) (hQ':∀ a w,¬ Q .outgrown a w) (hn:∀ v w',next (a.put o.dst v) w'->Kv v w')
  (hd:∀ d w',¬ next ({ a with defers:=d::a.defers }.put o.dst undef) w'):FT P o a.eval w Kv:=by
 unfold FT;unfold Oper.wp at h;generalize (execOp a.eval o).run P w=r at *
 cases r with
 | ok n w' =>
  cases n <;> simp only [Oper.upon] at h |- <;> first
   | exact hn _ _ h
   | exact Calls.mono h (fun e UZ he=>by
     cases e with
     | returned v=>exact ⟨v,rfl,hn _ _ he⟩
     | panicked c=>exact (hQ _ _ _ he).elim
     | outgrown=>obtain ⟨a0,w0,hf⟩:=he;exact (hQ' _ _ hf).elim)
   | exact Rows.mono h (fun _ _ hv=>hn _ _ hv)
   | exact h.elim
   | exact absurd h (hd _ _)
 | halt x w' =>
  cases x <;> simp only [Oper.upon] at h
  exact (hQ _ _ _ h).elim
def dy (ts:List Nat):Nat->List GV->List GV
 | _,[]=>[]
 | k,g::gs=>(match ts.contains k with | true=>g | false=>.U)::dy ts (k+1) gs
theorem FR.mask {K:Fz} {β:Bt} {ts:List Nat} {fr:List GV} {l:List Value} (h:FR K β fr l):∀ k,FR K β (dy ts k fr) l:=by
 induction h with
 | nil=>intro k;exact .nil
 | cons h t ih =>
  intro k;rw [dy];split
  ·exact .cons h (ih _)
  ·exact .cons (.U _) (ih _)
theorem SV {ts:List Nat} {d:Option Tmp} {g:GV} (hd:∀ t,d=some t->t ∉ ts) (fr:List GV):dy ts 0 (bC fr d g)=dy ts 0 fr:=by
 cases d with
 | none=>rfl
 | some t =>
  have hd:=hd t rfl
  have gen:∀ (fr:List GV) (k t:Nat),k+t ∉ ts->dy ts k (bp fr t g)=dy ts k fr:=by
   intro fr
   induction fr with
   | nil=>intro k t _;rfl
   | cons x fr ih =>
    intro k t h
    cases t with
    | zero =>
     have hc:ts.contains k=false:=by
      cases hb:ts.contains k with
      | false=>rfl
      | true=>exact absurd (il.1 hb) zfP
     simp only [bp,dy,hc]
    | succ t=>simp only [bp,dy];rw [ih (k+1) t zgI]
  exact gen fr 0 t (by simpa using hd)
section
variable {P:Program} {ops:Array Oper}
def YQ (P:Program) (ops:Array Oper) (i:Nat) (g:GV) (fr:List GV) (Γ:List Ob):Prop :=
 ∃ o c,ops[i]?=some o/\gG ops.toList (dy (o.looksAt ops) 0 fr) o.guard=some c/\match c with
  | true=>YG P o.op (dy (o.looksAt ops) 0 fr) Γ g
  | false=>g=.v undef
abbrev mM:=List (Nat × GV × List GV)
def GA (P:Program) (o:Oper) (Kt:GV->List Ob->Prop) (fr:List GV) (Γ:List Ob):Prop :=
 ∀ B K β w l,Inv B K β Γ w->FR K β fr l->FT P o (ev l) w fun v w'=>∃ K' bX g aR,cV K K'/\dF β bX/\Inv B K' bX aR w'/\(∀ fr l,FR K' bX fr l->FR K' bX (bC fr o.dst g) (put l o.dst v))/\Kt g aR
def GI (P:Program) (ops:Array Oper) (i:Nat) (Kt:GV->List Ob->Prop) (fr:List GV) (Γ:List Ob):Prop :=
 ∃ o c,ops[i]?=some o/\gG ops.toList fr o.guard=some c/\match c with
  | true=>GA P o Kt fr Γ
  | false=>Kt (.v undef) Γ
def mO (ops:Array Oper) (i:Nat):Option Tmp:=(ops[i]?).bind (·.dst)
def waits (ops:Array Oper) (i j:Nat):Bool:=match ops[i]? with
 | some o=>o.after.any fun e=>Region.binds .any e&&e.on==j
 | none=>false
def stay (ops:Array Oper) (i:Nat) (bd:mM):mM:=bd.filter fun p=>!waits ops i p.1
def rI (P:Program) (ops:Array Oper) (Q:List GV->List Ob->Prop):Nat->mM->Array Bool->List GV->List Ob->Prop
 | 0,_,listed,fr,Γ=>Region.ready .any ops listed=[]/\Q fr Γ
 | n+1,bd,listed,fr,Γ=>(Region.ready .any ops listed=[]->Q fr Γ) /\
   ∀ i∈Region.ready .any ops listed,GI P ops i (fun g aR=>(∀ p∈stay ops i bd,YQ P ops p.1 p.2.1 p.2.2 aR)/\rI P ops Q n (stay ops i bd) (listed.setIfInBounds i true) (bC fr (mO ops i) g) aR) fr Γ
theorem GA.mono {o:Oper} {Kt GH:GV->List Ob->Prop} {fr:List GV} {Γ:List Ob} (h:GA P o Kt fr Γ) (hk:∀ g aR,Kt g aR->GH g aR):GA P o GH fr Γ:=fun B K β w l hI hF=>by
 have:=h B K β w l hI hF;unfold FT at *;generalize (execOp (ev l) o).run P w=r at *
 have key:∀ v w',(∃ K' bX g aR,cV K K'/\dF β bX/\Inv B K' bX aR w'/\(∀ fr l,FR K' bX fr l->FR K' bX (bC fr o.dst g) (put l o.dst v))/\Kt g aR)->∃ K' bX g aR,cV K K'/\dF β bX/\Inv B K' bX aR w'/\(∀ fr l,FR K' bX fr l->FR K' bX (bC fr o.dst g) (put l o.dst v))/\GH g aR :=
  fun v w' ⟨K',bX,g,aR,I,M,h3,h4,h5⟩=>⟨K',bX,g,aR,I,M,h3,h4,hk _ _ h5⟩
 cases r with
 | ok n w'=>cases n <;> simp only at this |- <;> first
   | exact key _ _ this
   | exact Calls.mono this (fun e UZ ⟨v,he,hv⟩=>⟨v,he,key _ _ hv⟩)
   | exact Rows.mono this (fun _ _ hv=>key _ _ hv)
   | exact this.elim
 | halt x w'=>exact this.elim
theorem GI.mono {i:Nat} {Kt GH:GV->List Ob->Prop} {fr:List GV} {Γ:List Ob} (h:GI P ops i Kt fr Γ) (hk:∀ g aR,Kt g aR->GH g aR):GI P ops i GH fr Γ:=by
 obtain ⟨o,c,I,M,h3⟩:=h;refine ⟨o,c,I,M,?_⟩
 cases c with
 | true=>exact GA.mono h3 hk
 | false=>exact hk _ _ h3
theorem rI.TX {Q:List GV->List Ob->Prop}:∀ (n:Nat) (bd eK:mM) (listed:Array Bool) (fr:List GV) (Γ:List Ob),(∀ p∈eK,p∈bd)->rI P ops Q n bd listed fr Γ->rI P ops Q n eK listed fr Γ
 | 0,_,_,_,_,_,_,h=>h
 | n+1,bd,eK,listed,fr,Γ,hs,h=>⟨h.1,fun i hi=>(h.2 i hi).mono fun g aR ⟨I,M⟩=>by
  have qh:∀ p∈stay ops i eK,p∈stay ops i bd:=fun p hp=>by
   simp only [stay,mem_filter] at hp |-;exact ⟨hs p hp.1,hp.2⟩
  exact ⟨fun p hp=>I p (qh p hp),rI.TX n _ _ _ _ _ qh M⟩⟩
theorem rI.sound {m:Nat} {Q:List GV->List Ob->Prop} {B:Bs} {Q':dG} (hm:B.m=m) (hQ:∀ fr Γ,Q fr Γ->Q' .normal fr Γ):∀ (n:Nat) (bd:mM) (listed:Array Bool) (fr:List GV) (Γ:List Ob) (K:Fz) (β:Bt) (w:World) (l:List Value),
  rI P ops Q n bd listed fr Γ->Inv B K β Γ w->FR K β fr l->wpAny P .any ops (lift (gl B Q')) n listed (act l) w
 | 0,_,_,fr,Γ,K,β,w,l,h,hI,hF=>⟨h.1,l,rfl,K,β,fr,Γ,hI,hF,hQ _ _ h.2⟩
 | n+1,bd,listed,fr,Γ,K,β,w,l,h,hI,hF=>by
  refine ⟨fun h0=>⟨l,rfl,K,β,fr,Γ,hI,hF,hQ _ _ (h.1 h0)⟩,fun i hi=>?_⟩;obtain ⟨o,c,ho,hg,hc⟩:=h.2 i hi;have hw:=Ku hF hg;unfold wpOp;simp only [ho,hw]
  have hd:mO ops i=o.dst:=by simp [mO,ho]
  cases c with
  | true =>
   simp only [if_true];refine .inl (YN (by rw [oZ];exact hc B K β w l hI hF) ?_);rintro v w' ⟨K',bX,g,aR,hK,hB,bz,hf,I,M⟩;rw [rb];rw [hd] at M;exact rI.sound hm hQ n _ _ _ _ K' bX w' _ M bz (hf _ _ (hF.mono hK hB))
  | false =>
   simp only [Bool.false_eq_true,if_false];rw [rb];obtain ⟨I,M⟩:=hc;rw [hd] at M;exact rI.sound hm hQ n _ _ _ _ K β w _ M hI (hF.put o.dst (.v _))
theorem Ju {fr:List GV} {t t':Nat} (h:t'≠t) (g:GV):cK (bp fr t g) t'=cK fr t':=by
 induction fr generalizing t t' with
 | nil=>rfl
 | cons x l ih=>cases t with
  | zero=>cases t' with | zero=>exact absurd rfl h | succ t'=>rfl
  | succ t=>exact zex
theorem KV {fr:List GV} {t t':Nat} {g:GV}:jG (bp fr t g) t'=jG fr t':=by
 induction fr generalizing t t' with
 | nil=>rfl
 | cons x l ih=>cases t with
  | zero=>cases t' <;> rfl
  | succ t=>cases t' with | zero=>rfl | succ t'=>exact ih
theorem Xc {o:Oper} {fr:List GV} {d:Option Tmp} {g:GV} (h:∀ t,d=some t->t ∉ o.looksAt ops):gG ops.toList (bC fr d g) o.guard=gG ops.toList fr o.guard:=by
 cases d with
 | none=>rfl
 | some t =>
  have h:=h t rfl;obtain ⟨d',op,ty,pos,af,gd⟩:=o
  cases gd with
  | none=>rfl
  | some gd =>
   obtain ⟨j,b⟩:=gd
   have cn:∀ t',jG ops.toList j=true->(ur ops.toList j).dst=some t'->t'≠t:=fun t' hj HO he=>by
    subst he;apply h;have nO:=Ln ops.toList j (Dr hj);simp only [Array.toArray_toList] at nO;simp [Oper.looksAt,nO,HO]
   have hv:ph ops.toList (bp fr t g) j=ph ops.toList fr j:=by
    unfold ph
    cases eZ:jG ops.toList j with
    | false=>rfl
    | true =>
     cases hd:(ur ops.toList j).dst with
     | none=>rfl
     | some t' =>
      simp only;rw [KV,Ju (cn t' eZ hd)]
   simp only [gG,bC,hv]
theorem YQ.at {i:Nat} {g:GV} {fr:List GV} {Γ:List Ob} {o:Oper} (h:YQ P ops i g fr Γ) (ho:ops[i]?=some o) {B:Bs} {K:Fz} {β:Bt} {w:World} {l:List Value} (hI:Inv B K β Γ w) (hF:FR K β fr l):∃ v,Rel K β v g/\((Region.wanted o (yielded ops (act l).tmps)=true/\(execOp (ev l) o).run P w=.ok (.value v) w)\/(Region.wanted o (yielded ops (act l).tmps)=false/\v=undef)):=by
 obtain ⟨o',c,I,M,h3⟩:=h;rw [ho] at I;cases I;have hw:=Ku (hF.mask (ts:=o.looksAt ops) 0) M
 cases c with
 | true =>
  obtain ⟨v,hr,hv⟩:=h3 B K β w l hI (hF.mask 0);exact ⟨v,hv,.inl ⟨hw,by obtain ⟨d,op,ty,pos,af,gd⟩:=o;exact hr d ty pos af⟩⟩
 | false=>subst h3;exact ⟨undef,.v _,.inr ⟨hw,rfl⟩⟩
theorem GI.comm {i j:Nat} {g:GV} {oi oj:Oper} {Kt:GV->List Ob->Prop} {fr:List GV} {Γ:List Ob} (hi:ops[i]?=some oi) (hj:ops[j]?=some oj) (Uf:oi.apart ops oj=true) (hsj:∀ cs b,oj.op≠.select cs b) (hy:YQ P ops i g fr Γ)
  (h:GI P ops j Kt (bC fr oi.dst g) Γ):GI P ops j Kt fr Γ:=by
 obtain ⟨a1,a2,a3⟩:=Oper.apart_spec Uf;obtain ⟨o,c,I,M,h3⟩:=h;rw [hj] at I;cases I;rw [Xc a1] at M;refine ⟨oj,c,hj,M,?_⟩
 cases c with
 | false=>exact h3
 | true =>
  intro B K β w l hI hF;obtain ⟨v,hv,_⟩:=hy.at hi hI hF;have:=h3 B K β w (put l oi.dst v) hI (hF.put _ hv)
  have he:execOp (ev (put l oi.dst v)) oj=execOp (ev l) oj:=by
   have:=execOp_put oj hsj (act l) oi.dst v a1;rw [rb,oZ,oZ] at this;exact this
  unfold FT at this |-;rw [he] at this;exact this
theorem rI.first {Q:List GV->List Ob->Prop} {i:Nat} {oi:Oper} {g:GV} {qw:List GV} (hi:ops[i]?=some oi) (Sg:∀ (j:Nat) (o:Oper) cs b,ops[j]?=some o->o.op≠.select cs b) :
  ∀ (n:Nat) (bd:mM) (listed:Array Bool) (fr:List GV) (Γ:List Ob),
   (∀ j oj,ops[j]?=some oj->j≠i->listed.getD j true=false->(∀ e∈oj.after,Region.binds .any e=true->e.on≠i)->oi.apart ops oj=true) ->
   i∈Region.ready .any ops listed->dy (oi.looksAt ops) 0 fr=dy (oi.looksAt ops) 0 qw->YQ P ops i g qw Γ->(∀ p∈bd,YQ P ops p.1 p.2.1 p.2.2 Γ) ->
   rI P ops Q n ((i,g,qw)::bd) (listed.setIfInBounds i true) (bC fr oi.dst g) Γ->rI P ops Q (n+1) bd listed fr Γ:=by
 have hd:mO ops i=oi.dst:=by simp [mO,hi]
 have Zh:∀ {fr:List GV} {Γ:List Ob},dy (oi.looksAt ops) 0 fr=dy (oi.looksAt ops) 0 qw->YQ P ops i g qw Γ->YQ P ops i g fr Γ:=by
  rintro fr Γ hm ⟨o,c,I,M,h3⟩;rw [hi] at I;cases I;exact ⟨oi,c,hi,by rw [hm];exact M,by rw [hm];exact h3⟩
 have self:∀ (n:Nat) (bd:mM) (listed:Array Bool) (fr:List GV) (Γ:List Ob),dy (oi.looksAt ops) 0 fr=dy (oi.looksAt ops) 0 qw->YQ P ops i g qw Γ->(∀ p∈bd,YQ P ops p.1 p.2.1 p.2.2 Γ) ->
   rI P ops Q n ((i,g,qw)::bd) (listed.setIfInBounds i true) (bC fr oi.dst g) Γ ->
   GI P ops i (fun g aR=>(∀ p∈stay ops i bd,YQ P ops p.1 p.2.1 p.2.2 aR)/\rI P ops Q n (stay ops i bd) (listed.setIfInBounds i true) (bC fr (mO ops i) g) aR) fr Γ:=by
  intro n bd listed fr Γ qA hy hp H
  have bW:∀ p∈stay ops i bd,p∈bd:=fun p hp=>by simp only [stay,mem_filter] at hp;exact hp.1
  have H':rI P ops Q n (stay ops i bd) (listed.setIfInBounds i true) (bC fr (mO ops i) g) Γ:=by
   rw [hd];exact rI.TX n _ _ _ _ _ (fun p hp=>cU _ (bW p hp)) H
  obtain ⟨o,c,I,M,h3⟩:=Zh qA hy;rw [hi] at I;cases I
  have sF:gG ops.toList fr oi.guard=some c:=by
   obtain ⟨d',op,ty,pos,af,gd⟩:=oi
   cases gd with
   | none=>exact M
   | some gd =>
    obtain ⟨j,b⟩:=gd;simp only [gG] at M |-
    have hv:∀ x,ph ops.toList (dy (Oper.looksAt ops ⟨d',op,ty,pos,af,some (j,b)⟩) 0 fr) j=some x->ph ops.toList fr j=some x:=by
     intro x hx;unfold ph at hx |-
     cases eZ:jG ops.toList j with
     | false=>rw [eZ] at hx;cases hx
     | true =>
      rw [eZ] at hx
      cases hdt:(ur ops.toList j).dst with
      | none=>rw [hdt] at hx;cases hx
      | some t =>
       rw [hdt] at hx;simp only at hx |-
       have sG:∀ (ts:List Nat) (fr:List GV) (k t:Nat),jG (dy ts k fr) t=jG fr t:=by
        intro ts fr
        induction fr with
        | nil=>intro k t;rfl
        | cons x fr ih=>intro k t;cases t with | zero=>rfl | succ t=>exact ih (k+1) t
       have hgn:∀ (ts:List Nat) (fr:List GV) (k t:Nat) ,cK (dy ts k fr) t=cK fr t\/cK (dy ts k fr) t=.U:=by
        intro ts fr
        induction fr with
        | nil=>intro k t;exact .inl rfl
        | cons x fr ih =>
         intro k t
         cases t with
         | zero=>simp only [dy,cK];split <;> first | exact .inl rfl | exact .inr rfl
         | succ t=>exact ih (k+1) t
       rw [sG] at hx
       rcases hgn (Oper.looksAt ops ⟨d',op,ty,pos,af,some (j,b)⟩) fr 0 t with h | h
       ·rw [h] at hx;exact hx
       ·rw [h] at hx
        split at hx <;> first | (rename_i h5;cases h5;done) | cases hx
    split at M
    ·rename_i c' hc;rw [hv _ hc];exact M
    ·rename_i hc;rw [hv _ hc];exact M
    ·cases M
  refine ⟨oi,c,hi,sF,?_⟩
  have lX:∀ p∈stay ops i bd,YQ P ops p.1 p.2.1 p.2.2 Γ:=fun p hq=>hp p (bW p hq)
  cases c with
  | true =>
   intro B K β w l hI hF;obtain ⟨v,hr,hv⟩:=h3 B K β w l hI (hF.mask 0)
   have oJ:(execOp (ev l) oi).run P w=.ok (.value v) w:=by obtain ⟨d,op,ty,pos,af,gd⟩:=oi;exact hr d ty pos af
   unfold FT;rw [oJ];exact ⟨K,β,g,Γ,cV.refl K,dF.refl β,hI,fun fr l hf=>hf.put _ hv,lX,H'⟩
  | false =>
   simp only at h3;subst h3;exact ⟨lX,H'⟩
 intro n
 induction n with
 | zero =>
  intro bd listed fr Γ _ hr qA hy hp H;refine ⟨fun h=>(by rw [h] at hr;cases hr),fun j hj=>?_⟩
  by_cases qg:j=i
  ·subst qg;exact self 0 bd listed fr Γ qA hy hp H
  ·have:=ready_mono hj qg;rw [H.1] at this;cases this
 | succ n ih =>
  intro bd listed fr Γ Uk hr qA hy hp H;refine ⟨fun h=>(by rw [h] at hr;cases hr),fun j hj=>?_⟩
  by_cases qg:j=i
  ·subst qg;exact self (n+1) bd listed fr Γ qA hy hp H
  ·have I:=H.2 j (ready_mono hj qg);obtain ⟨XU,oj,Pu,ba⟩:=mem_ready.1 hj
   have X7:∀ e∈oj.after,Region.binds .any e=true->e.on≠i:=fun e he hb heq=>by
    have I:=ba e he hb;have h0:=(mem_ready.1 hr).1;rw [heq] at I
    rcases Nat.lt_or_ge i listed.size with h' | h'
    ·simp [h'] at h0 I;rw [h0] at I;cases I
    ·simp [Array.getElem?_eq_none h'] at I
   have Uf:=Uk j oj Pu qg XU X7;obtain ⟨a1,a2,a3⟩:=Oper.apart_spec Uf
   have uC:waits ops j i=false:=by
    simp only [waits,Pu];rw [Array.any_eq_false'];intro e he hb;simp only [aH,beq_iff_eq] at hb;exact X7 e he hb.1 hb.2
   have bW:stay ops j ((i,g,qw)::bd)=(i,g,qw)::stay ops j bd:=by
    simp [stay,List.filter_cons,uC]
   rw [bW] at I;have M:=GI.comm hi Pu Uf (fun cs b=>Sg j oj cs b Pu) (Zh qA hy) I
   have hdj:mO ops j=oj.dst:=by simp [mO,Pu]
   have XR:∀ k ok,ops[k]?=some ok->k≠i->(listed.setIfInBounds j true).getD k true=false ->
     (∀ e∈ok.after,Region.binds .any e=true->e.on≠i)->oi.apart ops ok=true:=fun k ok hk dA hun cZ=>by
    refine Uk k ok hk dA ?_ cZ
    by_cases hjk:j=k
    ·subst hjk;exact XU
    ·rw [getD_set_ne true hjk] at hun;exact hun
   refine M.mono fun gj aR ⟨h3,h4⟩=>⟨fun p hp=>h3 p (cU _ hp),?_⟩
   refine ih (stay ops j bd) (listed.setIfInBounds j true) (bC fr (mO ops j) gj) aR XR (ready_mono hr (Ne.symm qg)) ?_ (h3 (i,g,qw) (mem_cons_self)) (fun p hp=>h3 p (cU _ hp)) ?_
   ·rw [<-qA,hdj];exact SV a3 fr
   ·rw [Array.setIfInBounds_comm _ _ qg]
    have ZM:bC (bC fr (mO ops j) gj) oi.dst g=bC (bC fr oi.dst g) (mO ops j) gj:=by
     rw [hdj]
     cases hdi:oi.dst with
     | none=>rfl
     | some t =>
      cases hdj':oj.dst with
      | none=>rfl
      | some u =>
       have cn:t≠u:=fun e=>a2 t hdi (by rw [hdj',e])
       have gen:∀ (fr:List GV) (t u:Nat),t≠u->bp (bp fr u gj) t g=bp (bp fr t g) u gj:=by
        intro fr
        induction fr with
        | nil=>intro t u _;rfl
        | cons x fr ih =>
         intro t u h
         cases t with
         | zero=>cases u with | zero=>exact absurd rfl h | succ u=>rfl
         | succ t=>cases u with | zero=>rfl | succ u=>simp only [bp];rw [ih t u (fun e=>h (by rw [e]))]
       exact gen fr t u cn
    rw [ZM];exact h4
inductive Ot where
 | nil
 | q (i:Nat) (r:Ot)
 | a (i:Nat) (r:Ot)
 | f (i:Nat) (r:Ot) (j:Nat) (s:Ot)
def Ot.len:Ot->Nat
 | .nil=>0
 | .q _ r=>r.len+1
 | .a _ r=>r.len+1
 | .f _ r _ _=>r.len+1
def vG (ops:Array Oper):Ot->Array Bool->Bool
 | .nil,listed=>(Region.ready .any ops listed).isEmpty
 | .q i r,listed=>(Region.ready .any ops listed).contains i&&Region.free .any ops listed i&&vG ops r (listed.setIfInBounds i true)
 | .a i r,listed=>(Region.ready .any ops listed==[i])&&vG ops r (listed.setIfInBounds i true)
 | .f i r j s,listed=>(Region.ready .any ops listed==[i,j])&&vG ops r (listed.setIfInBounds i true)&&vG ops s (listed.setIfInBounds j true)&&(r.len==s.len)
def GO (P:Program) (ops:Array Oper) (Q:List GV->List Ob->Prop):Ot->mM->List GV->List Ob->Prop
 | .nil,_,fr,Γ=>Q fr Γ
 | .q i r,bd,fr,Γ=>∃ g,YQ P ops i g fr Γ/\GO P ops Q r ((i,g,fr)::bd) (bC fr (mO ops i) g) Γ
 | .a i r,bd,fr,Γ=>GI P ops i (fun g aR=>(∀ p∈stay ops i bd,YQ P ops p.1 p.2.1 p.2.2 aR)/\GO P ops Q r (stay ops i bd) (bC fr (mO ops i) g) aR) fr Γ
 | .f i r j s,bd,fr,Γ=>GI P ops i (fun g aR=>(∀ p∈stay ops i bd,YQ P ops p.1 p.2.1 p.2.2 aR)/\GO P ops Q r (stay ops i bd) (bC fr (mO ops i) g) aR) fr Γ/\GI P ops j (fun g aR=>(∀ p∈stay ops j bd,YQ P ops p.1 p.2.1 p.2.2 aR)/\GO P ops Q s (stay ops j bd) (bC fr (mO ops j) g) aR) fr Γ
theorem GO.fork {ops:Array Oper} {Q:List GV->List Ob->Prop} {i j:Nat} {r s:Ot} {bd:mM} {fr:List GV} {Γ:List Ob} (I:GO P ops Q (.a i r) bd fr Γ) (M:GO P ops Q (.a j s) bd fr Γ):GO P ops Q (.f i r j s) bd fr Γ:=⟨I,M⟩
theorem GO.all {ol:List Oper} {Q:List GV->List Ob->Prop} (hs:Region.noSelect ol.toArray=true):∀ (ord:Ot) (bd:mM) (listed:Array Bool) (fr:List GV) (Γ:List Ob),
  vG ol.toArray ord listed=true->(∀ p∈bd,YQ P ol.toArray p.1 p.2.1 p.2.2 Γ)->GO P ol.toArray Q ord bd fr Γ->rI P ol.toArray Q ord.len bd listed fr Γ
 | .nil,bd,listed,fr,Γ,ho,_,h=>⟨by simpa [vG] using ho,h⟩
 | .q i r,bd,listed,fr,Γ,ho,hp,h=>by
  simp only [vG,aH] at ho;obtain ⟨⟨hr,hf⟩,ho⟩:=ho;obtain ⟨g,hy,h⟩:=h
  have Ek:i∈Region.ready .any ol.toArray listed:=by simpa using hr
  obtain ⟨_,o,hi,_⟩:=mem_ready.1 Ek
  have hd:mO ol.toArray i=o.dst:=by simp only [mO,hi];rfl
  rw [hd] at h
  exact rI.first hi (Region.noSelect_spec hs) _ bd listed fr Γ (Region.free_spec hi hf) Ek rfl hy hp (GO.all hs r _ _ _ _ ho (fun p lX=>by
   rcases dw lX with rfl | lX
   ·exact hy
   ·exact hp p lX) h)
 | .a i r,bd,listed,fr,Γ,ho,hp,h=>by
  simp only [vG,aH,beq_iff_eq] at ho;obtain ⟨hr,ho⟩:=ho;refine ⟨fun h0=>by rw [h0] at hr;simp at hr,fun j hj=>?_⟩;rw [hr,List.mem_singleton] at hj;subst hj
  exact GI.mono h fun g aR ⟨I,M⟩=>⟨I,GO.all hs r _ _ _ _ ho I M⟩
 | .f i r j s,bd,listed,fr,Γ,ho,hp,h=>by
  simp only [vG,aH,beq_iff_eq] at ho;obtain ⟨⟨⟨hr,ho1⟩,ho2⟩,hl⟩:=ho;refine ⟨fun h0=>by rw [h0] at hr;simp at hr,fun k hk=>?_⟩;rw [hr] at hk;simp only [List.mem_cons,List.not_mem_nil,or_false] at hk
  rcases hk with rfl | rfl
  ·exact GI.mono h.1 fun g aR ⟨I,M⟩=>⟨I,GO.all hs r _ _ _ _ ho1 I M⟩
  ·exact GI.mono h.2 fun g aR ⟨I,M⟩=>⟨I,by
    have:=GO.all hs s _ _ _ _ ho2 I M
    rw [<-hl] at this;exact this⟩
theorem GW.draw {m id:Nat} {ol:List Oper} {Q:dG} {fr:List GV} {Γ:List Ob} (ord:Ot) (hm:P.follows .mixedOrders=true)
  (fo:(Region.noSelect ol.toArray&&(ord.len==ol.length)&&vG ol.toArray ord (Array.replicate ol.toArray.size false))=true)
  (h:GO P ol.toArray (Q .normal) ord [] fr Γ):GW P m (.region id ol.toArray true) Q fr Γ:=fun B K β w l hB hI hF=>by
 simp only [aH,beq_iff_eq] at fo;obtain ⟨⟨hs,hl⟩,ho⟩:=fo;refine wp_region_any hm ?_;have I:=GO.all hs ord [] _ fr Γ ho (fun p hp=>by cases hp) h;rw [hl] at I;have M:=rI.sound (Q':=Q) hB (fun fr Γ h=>h) _ _ _ _ _ K β w.drew l I (hI.same (Ext.drew w)) hF;simpa using M
end
def lf:List Oper->Nat->Option Oper
 | [],_=>none
 | o::_,0=>some o
 | _::r,n+1=>lf r n
theorem sU {ol:List Oper} {i:Nat} {o:Oper} (h:lf ol i=some o):ol.toArray[i]?=some o:=by
 have:∀ (ol:List Oper) (i:Nat),lf ol i=ol[i]?:=by
  intro ol
  induction ol with
  | nil=>intro i;rfl
  | cons x ol ih=>intro i;cases i with | zero=>rfl | succ i=>simpa [lf] using ih i
 rw [this] at h;simpa using h
section
variable {P:Program} {Q:List GV->List Ob->Prop} {ol:List Oper} {r:Ot} {bd:mM} {fr:List GV} {Γ:List Ob} {i:Nat} {g:GV} {d:Option Tmp} {op:Op} {ty:TypeId} {pos:String} {af:Array Edge} {gd:Nat × Bool}
theorem xh {o:Oper} (h:lf ol i=some o):mO ol.toArray i=o.dst:=by simp only [mO,sU h];rfl
theorem GO.more {ops:Array Oper}:∀ (r:Ot) (bd eK:mM) (fr:List GV) (Γ:List Ob),(∀ p∈eK,p∈bd\/∀ Γ,YQ P ops p.1 p.2.1 p.2.2 Γ)->GO P ops Q r bd fr Γ->GO P ops Q r eK fr Γ
 | .nil,_,_,_,_,_,h=>h
 | .q i r,bd,eK,fr,Γ,hs,⟨g,I,M⟩=>⟨g,I,GO.more r _ _ _ _ (fun p hp=>by
   rcases dw hp with rfl | hp
   ·exact .inl (mem_cons_self)
   ·exact (hs p hp).imp (cU _) id) M⟩
 | .a i r,bd,eK,fr,Γ,hs,h=>GI.mono h fun g aR ⟨I,M⟩=>by
   have qh:∀ p∈stay ops i eK,p∈stay ops i bd\/∀ Γ,YQ P ops p.1 p.2.1 p.2.2 Γ:=fun p hp=>by
    exact zdE
   exact ⟨fun p hp=>(qh p hp).elim (I p) (fun h=>h aR),GO.more r _ _ _ _ qh M⟩
 | .f i r j s,bd,eK,fr,Γ,hs,h=>by
   have qh:∀ k,∀ p∈stay ops k eK,p∈stay ops k bd\/∀ Γ,YQ P ops p.1 p.2.1 p.2.2 Γ:=fun k p hp=>by
    exact zdE
   exact ⟨GI.mono h.1 fun g aR ⟨I,M⟩=>⟨fun p hp=>(qh i p hp).elim (I p) (fun h=>h aR),GO.more r _ _ _ _ (qh i) M⟩,GI.mono h.2 fun g aR ⟨I,M⟩=>⟨fun p hp=>(qh j p hp).elim (I p) (fun h=>h aR),GO.more s _ _ _ _ (qh j) M⟩⟩
theorem GO.skip {ops:Array Oper} {x:Nat × GV × List GV} (hx:∀ Γ,YQ P ops x.1 x.2.1 x.2.2 Γ) (h:GO P ops Q r bd fr Γ):GO P ops Q r (x::bd) fr Γ:=by
 refine GO.more r bd _ fr Γ (fun p hp=>?_) h
 rcases dw hp with he | hp
 ·subst he;exact .inr hx
 ·exact .inl hp
theorem GO.yq {o:Oper} (hi:lf ol i=some o) (hy:YQ P ol.toArray i g fr Γ) (h:GO P ol.toArray Q r ((i,g,fr)::bd) (bC fr o.dst g) Γ):GO P ol.toArray Q (.q i r) bd fr Γ :=
 ⟨g,hy,by rw [xh hi];exact h⟩
theorem GO.yp {o:Oper} (hi:lf ol i=some o) (hy:∀ Γ,YQ P ol.toArray i g fr Γ) (h:GO P ol.toArray Q r bd (bC fr o.dst g) Γ):GO P ol.toArray Q (.q i r) bd fr Γ :=
 GO.yq hi (hy Γ) (GO.skip hy h)
theorem Eg {c:Bool} {ops:List Oper} (hv:ph ops fr gd.1=some (some c)) (hc:c=gd.2):gG ops fr (some gd)=some true:=by
 exact zeR
theorem Hi {c:Bool} {ops:List Oper} (hv:ph ops fr gd.1=some (some c)) (hc:c=!gd.2):gG ops fr (some gd)=some false:=by
 exact zeR
theorem Xd {ops:List Oper} (hv:ph ops fr gd.1=some none):gG ops fr (some gd)=some false:=by
 obtain ⟨j,b⟩:=gd;simp only at hv;simp only [gG,hv]
theorem YQ.t {o:Oper} (hi:lf ol i=some o) (hg:gG ol (dy (o.looksAt ol.toArray) 0 fr) o.guard=some true) (hy:YG P o.op (dy (o.looksAt ol.toArray) 0 fr) Γ g):YQ P ol.toArray i g fr Γ:=⟨o,true,sU hi,hg,hy⟩
theorem YQ.f {o:Oper} (hi:lf ol i=some o) (hg:gG ol (dy (o.looksAt ol.toArray) 0 fr) o.guard=some false):YQ P ol.toArray i (.v undef) fr Γ:=⟨o,false,sU hi,hg,rfl⟩
theorem OQ (hi:lf ol i=some ⟨d,op,ty,pos,af,none⟩) (hy:YG P op (dy (Oper.looksAt ol.toArray ⟨d,op,ty,pos,af,none⟩) 0 fr) Γ g) (h:GO P ol.toArray Q r ((i,g,fr)::bd) (bC fr d g) Γ):GO P ol.toArray Q (.q i r) bd fr Γ :=
 GO.yq hi (YQ.t hi rfl hy) h
theorem OP (hi:lf ol i=some ⟨d,op,ty,pos,af,none⟩) (hy:∀ Γ,YG P op (dy (Oper.looksAt ol.toArray ⟨d,op,ty,pos,af,none⟩) 0 fr) Γ g) (h:GO P ol.toArray Q r bd (bC fr d g) Γ):GO P ol.toArray Q (.q i r) bd fr Γ :=
 GO.yp hi (fun Γ=>YQ.t hi rfl (hy Γ)) h
theorem OQt {c:Bool} (hi:lf ol i=some ⟨d,op,ty,pos,af,some gd⟩) (hv:ph ol (dy (Oper.looksAt ol.toArray ⟨d,op,ty,pos,af,some gd⟩) 0 fr) gd.1=some (some c)) (hc:c=gd.2) (hy:YG P op (dy (Oper.looksAt ol.toArray ⟨d,op,ty,pos,af,some gd⟩) 0 fr) Γ g)
  (h:GO P ol.toArray Q r ((i,g,fr)::bd) (bC fr d g) Γ):GO P ol.toArray Q (.q i r) bd fr Γ :=
 GO.yq hi (YQ.t hi (Eg hv hc) hy) h
theorem OPt {c:Bool} (hi:lf ol i=some ⟨d,op,ty,pos,af,some gd⟩) (hv:ph ol (dy (Oper.looksAt ol.toArray ⟨d,op,ty,pos,af,some gd⟩) 0 fr) gd.1=some (some c)) (hc:c=gd.2) (hy:∀ Γ,YG P op (dy (Oper.looksAt ol.toArray ⟨d,op,ty,pos,af,some gd⟩) 0 fr) Γ g)
  (h:GO P ol.toArray Q r bd (bC fr d g) Γ):GO P ol.toArray Q (.q i r) bd fr Γ :=
 GO.yp hi (fun Γ=>YQ.t hi (Eg hv hc) (hy Γ)) h
theorem ONf {c:Bool} (hi:lf ol i=some ⟨d,op,ty,pos,af,some gd⟩) (hv:ph ol (dy (Oper.looksAt ol.toArray ⟨d,op,ty,pos,af,some gd⟩) 0 fr) gd.1=some (some c)) (hc:c=!gd.2) (h:GO P ol.toArray Q r bd (bC fr d (.v undef)) Γ):GO P ol.toArray Q (.q i r) bd fr Γ :=
 GO.yp hi (fun Γ=>YQ.f hi (Hi hv hc)) h
theorem ONu (hi:lf ol i=some ⟨d,op,ty,pos,af,some gd⟩) (hv:ph ol (dy (Oper.looksAt ol.toArray ⟨d,op,ty,pos,af,some gd⟩) 0 fr) gd.1=some none) (h:GO P ol.toArray Q r bd (bC fr d (.v undef)) Γ):GO P ol.toArray Q (.q i r) bd fr Γ :=
 GO.yp hi (fun Γ=>YQ.f hi (Xd hv)) h
theorem Lf:∀ (fr:List GV) (ts:List Nat) (k t:Nat),k+t∈ts->cK (dy ts k fr) t=cK fr t
 | [],_,_,_,_=>rfl
 | g::fr,ts,k,0,h=>by
  have hc:ts.contains k=true:=il.2 zfP;simp only [dy,hc,cK]
 | g::fr,ts,k,t+1,h=>by
  simp only [dy,cK];exact Lf fr ts (k+1) t zgI
theorem xE {o:Oper} {ops:Array Oper} {x:Operand} (h:x∈o.op.operands.toList):be (dy (o.looksAt ops) 0 fr) x=be fr x:=by
 cases x with
 | tmp t =>
  refine Lf fr _ 0 t ?_;rw [cL];refine List.mem_append_left _ (List.mem_filterMap.2 ⟨.tmp t,h,rfl⟩)
 | _=>rfl
theorem OPm {x:Operand} (hi:lf ol i=some ⟨d,.move x,ty,pos,af,none⟩) (h:GO P ol.toArray Q r bd (bC fr d (be fr x)) Γ):GO P ol.toArray Q (.q i r) bd fr Γ :=
 OP hi (fun Γ=>by
  have:=YG.mv (P:=P) (x:=x) (Γ:=Γ) (fr:=dy (Oper.looksAt ol.toArray ⟨d,.move x,ty,pos,af,none⟩) 0 fr)
  rw [xE zgi] at this;exact this) h
theorem OPa {x:Operand} (hi:lf ol i=some ⟨d,.assign x,ty,pos,af,none⟩) (h:GO P ol.toArray Q r bd (bC fr d (be fr x)) Γ):GO P ol.toArray Q (.q i r) bd fr Γ :=
 OP hi (fun Γ=>by
  have:=YG.xb (P:=P) (x:=x) (Γ:=Γ) (fr:=dy (Oper.looksAt ol.toArray ⟨d,.assign x,ty,pos,af,none⟩) 0 fr)
  rw [xE zgi] at this;exact this) h
theorem aaE {x:Operand} {c:Bool} (hi:lf ol i=some ⟨d,.move x,ty,pos,af,some gd⟩) (hv:ph ol (dy (Oper.looksAt ol.toArray ⟨d,.move x,ty,pos,af,some gd⟩) 0 fr) gd.1=some (some c)) (hc:c=gd.2) (h:GO P ol.toArray Q r bd (bC fr d (be fr x)) Γ):GO P ol.toArray Q (.q i r) bd fr Γ :=
 OPt hi hv hc (fun Γ=>by
  have:=YG.mv (P:=P) (x:=x) (Γ:=Γ) (fr:=dy (Oper.looksAt ol.toArray ⟨d,.move x,ty,pos,af,some gd⟩) 0 fr)
  rw [xE zgi] at this;exact this) h
theorem aaD {c a b:Operand} {t:Bool} (hi:lf ol i=some ⟨d,.pick c a b,ty,pos,af,none⟩) (hc:be (dy (Oper.looksAt ol.toArray ⟨d,.pick c a b,ty,pos,af,none⟩) 0 fr) c=.v (.bool t)) (ht:t=true) (h:GO P ol.toArray Q r bd (bC fr d (be fr a)) Γ):GO P ol.toArray Q (.q i r) bd fr Γ :=
 OP hi (fun Γ=>by
  have:=YG.UQ (P:=P) (Γ:=Γ) (a:=a) (b:=b) hc ht
  rw [xE zgi] at this;exact this) h
theorem aaC {c a b:Operand} {t:Bool} (hi:lf ol i=some ⟨d,.pick c a b,ty,pos,af,none⟩) (hc:be (dy (Oper.looksAt ol.toArray ⟨d,.pick c a b,ty,pos,af,none⟩) 0 fr) c=.v (.bool t)) (ht:t=false) (h:GO P ol.toArray Q r bd (bC fr d (be fr b)) Γ):GO P ol.toArray Q (.q i r) bd fr Γ :=
 OP hi (fun Γ=>by
  have:=YG.UP (P:=P) (Γ:=Γ) (a:=a) (b:=b) hc ht
  rw [xE zgi] at this;exact this) h
inductive ky (P:Program) (ops:Array Oper) (i:Nat) (aR:List Ob):mM->mM->Prop
 | n:ky P ops i aR [] []
 | w {j:Nat} {g:GV} {qw:List GV} {bd eK:mM} (hw:waits ops i j=true) (h:ky P ops i aR bd eK):ky P ops i aR ((j,g,qw)::bd) eK
 | y {j:Nat} {g:GV} {qw:List GV} {bd eK:mM} (hy:YQ P ops j g qw aR) (h:ky P ops i aR bd eK):ky P ops i aR ((j,g,qw)::bd) ((j,g,qw)::eK)
theorem wL {ops:Array Oper} {q p:Nat × GV × List GV} (h:p∈stay ops i (q::bd)):(p=q/\waits ops i q.1=false)\/p∈stay ops i bd:=by
 simp only [stay,mem_filter] at h |-
 rcases dw h.1 with he | lX
 ·subst he;exact .inl ⟨rfl,by simpa using h.2⟩
 ·exact .inr ⟨lX,h.2⟩
theorem ky.spec {ops:Array Oper} {aR:List Ob} {eK:mM} (h:ky P ops i aR bd eK):(∀ p∈stay ops i bd,YQ P ops p.1 p.2.1 p.2.2 aR)/\∀ p∈stay ops i bd,p∈eK:=by
 induction h with
 | n=>exact ⟨fun p hp=>(by cases hp),fun p hp=>(by cases hp)⟩
 | w hw h ih =>
  refine ⟨fun p hp=>?_,fun p hp=>?_⟩
  ·rcases wL hp with ⟨_,M⟩ | lX
   ·simp only at M;rw [hw] at M;cases M
   ·exact ih.1 p lX
  ·rcases wL hp with ⟨_,M⟩ | lX
   ·simp only at M;rw [hw] at M;cases M
   ·exact ih.2 p lX
 | y hy h ih =>
  refine ⟨fun p hp=>?_,fun p hp=>?_⟩
  ·rcases wL hp with ⟨he,_⟩ | lX
   ·subst he;exact hy
   ·exact ih.1 p lX
  ·rcases wL hp with ⟨he,_⟩ | lX
   ·subst he;exact mem_cons_self
   ·exact cU _ (ih.2 p lX)
def WZ (fr:List GV):Option Tmp->Bool
 | none=>true
 | some t=>jG fr t
def fM (P:Program) (Q:List GV->List Ob->Prop) (ol:List Oper) (i:Nat) (r:Ot) (bd:mM) (fr:List GV) (d:Option Tmp) (cy:List GV) (aR:List Ob):Prop :=
 ∃ g eK,cy=bC fr d g/\ky P ol.toArray i aR bd eK/\GO P ol.toArray Q r eK (bC fr d g) aR
theorem GA.of {o:Oper} {Kt:GV->List Ob->Prop} {R:List GV->List Ob->Prop} {ops:Array Oper} (hg:o.guard=none) (hd:WZ fr o.dst=true) (hR:∀ cy aR,R cy aR->∃ g,cy=bC fr o.dst g/\Kt g aR) (h:GL P Γ.length ops (aW R (fun _ _ _=>False)) [o] fr Γ):GA P o Kt fr Γ:=fun B K β w l hI hF=>by
 have I:=h (cur K β Γ w) K β w l rfl hI.here hF;obtain ⟨d,op,ty,pos,af,gd⟩:=o;simp only at hg;subst hg;simp only at I hd;unfold WL wpList at I;rw [ab (by rfl)] at I
 rcases I with I | ⟨_,a0,w0,hf⟩
 ·rw [<-oZ];refine Zm I (fun c a w' hf=>?_) (fun a w' hf=>?_) ?_ ?_
  ·obtain ⟨l',_,_,_,_,_,_,_,hq⟩:=hf;exact hq
  ·obtain ⟨l',_,_,_,_,_,_,_,hq⟩:=hf;exact hq
  ·rintro v w' ⟨l',hl,K',bX,cy,aR,bz,xm,hq⟩;obtain ⟨g,rfl,hk⟩:=hR cy aR hq;rw [rb] at hl
   have kY:put l d v=l':=by
    have:=congrArg (fun a:Act=>a.tmps.toList) hl;simpa [act] using this
   subst kY;refine ⟨K',bX,g,aR,bz.kle,bz.ble,hI.Qw bz,fun OT l2 M=>?_,hk⟩
   cases d with
   | none=>exact M
   | some t =>
    refine M.fS t ?_;have hv:=xm.nth t;have h3:nth (put l (some t) v) t=v:=td (nC hF hd) v
    have h4:cK (bC fr (some t) g) t=g:=by
     have gen:∀ (fr:List GV) (t:Nat),jG fr t=true->cK (bp fr t g) t=g:=by
      intro fr
      induction fr with
      | nil=>intro t h;cases h
      | cons x fr ih=>intro t h;cases t with | zero=>rfl | succ t=>exact ih t h
     exact gen fr t hd
    rw [h3,h4] at hv;exact hv
  ·rintro d' w' ⟨l',hl,_⟩;have:=congrArg (fun a:Act=>a.defers) hl
   cases d <;> simp [act,Act.put] at this
 ·obtain ⟨l',_,_,_,_,_,_,_,hq⟩:=hf;exact hq.elim
theorem fM.kt {cy:List GV} {aR:List Ob} (h:fM P Q ol i r bd fr d cy aR):∃ g,cy=bC fr d g/\((∀ p∈stay ol.toArray i bd,YQ P ol.toArray p.1 p.2.1 p.2.2 aR)/\GO P ol.toArray Q r (stay ol.toArray i bd) (bC fr d g) aR):=by
 obtain ⟨g,eK,I,M,h3⟩:=h;obtain ⟨h4,h5⟩:=M.spec;exact ⟨g,I,h4,GO.more r _ _ _ _ (fun p hp=>.inl (h5 p hp)) h3⟩
theorem OA (hi:lf ol i=some ⟨d,op,ty,pos,af,none⟩) (hd:WZ fr d=true) (h:GL P Γ.length ol.toArray (aW (fM P Q ol i r bd fr d) (fun _ _ _=>False)) [⟨d,op,ty,pos,af,none⟩] fr Γ):GO P ol.toArray Q (.a i r) bd fr Γ:=by
 refine ⟨_,true,sU hi,rfl,?_⟩
 exact (GA.of (o:=⟨d,op,ty,pos,af,none⟩) rfl hd (fun cy aR hq=>fM.kt hq) h).mono fun g aR ⟨I,M⟩=>⟨I,by rw [xh hi];exact M⟩
theorem TO {c:Bool} (hi:lf ol i=some ⟨d,op,ty,pos,af,some gd⟩) (hd:WZ fr d=true) (hv:ph ol fr gd.1=some (some c)) (hc:c=gd.2) (h:GL P Γ.length ol.toArray (aW (fM P Q ol i r bd fr d) (fun _ _ _=>False)) [⟨d,op,ty,pos,af,none⟩] fr Γ):GO P ol.toArray Q (.a i r) bd fr Γ:=by
 refine ⟨_,true,sU hi,Eg hv hc,?_⟩
 have:=(GA.of (o:=⟨d,op,ty,pos,af,none⟩) rfl hd (fun cy aR hq=>fM.kt hq) h).mono (GH:=fun g aR=>(∀ p∈stay ol.toArray i bd,YQ P ol.toArray p.1 p.2.1 p.2.2 aR)/\GO P ol.toArray Q r (stay ol.toArray i bd) (bC fr (mO ol.toArray i) g) aR) fun g aR ⟨I,M⟩=>⟨I,by rw [xh hi];exact M⟩
 exact this
theorem OAf {c:Bool} {eK:mM} (hi:lf ol i=some ⟨d,op,ty,pos,af,some gd⟩) (hv:ph ol fr gd.1=some (some c)) (hc:c=!gd.2) (hs:ky P ol.toArray i Γ bd eK) (h:GO P ol.toArray Q r eK (bC fr d (.v undef)) Γ):GO P ol.toArray Q (.a i r) bd fr Γ :=
 ⟨_,false,sU hi,Hi hv hc,hs.spec.1,by rw [xh hi];exact GO.more r _ _ _ _ (fun p hp=>.inl (hs.spec.2 p hp)) h⟩
theorem OAu {eK:mM} (hi:lf ol i=some ⟨d,op,ty,pos,af,some gd⟩) (hv:ph ol fr gd.1=some none) (hs:ky P ol.toArray i Γ bd eK) (h:GO P ol.toArray Q r eK (bC fr d (.v undef)) Γ):GO P ol.toArray Q (.a i r) bd fr Γ :=
 ⟨_,false,sU hi,Xd hv,hs.spec.1,by rw [xh hi];exact GO.more r _ _ _ _ (fun p hp=>.inl (hs.spec.2 p hp)) h⟩
theorem GO.nil (h:Q fr Γ):GO P ol.toArray Q .nil bd fr Γ:=h
theorem fM.mk {eK:mM} (hs:ky P ol.toArray i Γ bd eK) {qw:List GV} (h:GO P ol.toArray Q r eK (bC qw d g) Γ):fM P Q ol i r bd qw d (bC qw d g) Γ:=⟨g,eK,rfl,hs,h⟩
theorem qj {ops:Array Oper} {cy:List GV} {aR:List Ob} (I:fr=cy) (M:Γ=aR) (h:GO P ops Q r bd cy aR):GO P ops Q r bd fr Γ:=by subst I;subst M;exact h
theorem GON {ops:Array Oper} {cy:List GV} (I:fr=cy) (h:GO P ops Q r bd cy Γ):GO P ops Q r bd fr Γ:=by subst I;exact h
end
theorem GW.range {P:Program} {m:Nat} {Q:dG} {fr:List GV} {Γ:List Ob} {B C r1 r2:Nat} {body:Code} {tb ti tn ta:Tmp} {T1 T2 T3 T4 T5 T6 T7:TypeId} {p1 p2 p3:String} {a1 a2 a3:Array Edge} (n:Nat) (acK:Nat->List GV->List Ob->Prop)
  (h0:Bi m (acK 0) fr Γ) (hn:n<=1099511627776)
  (hI:∀ k fr Γ,acK k fr Γ->cK fr ti=.v (ii k)/\cK fr tn=.v (ii n)/\jG fr tb=true)
  (ZL:∀ k fr Γ,k < n->acK k fr Γ->GW P m body (aZ C (aW (fun cy aR=>cK cy ti=.v (ii k)/\jG cy ta=true/\Bi m (acK (k+1)) (bp (bp cy ta (.v (ii ((k+1:Nat):Int)))) ti (.v (ii ((k+1:Nat):Int)))) aR) (aZ B Q))) (bp fr tb (.v (.bool true))) Γ)
  (qS:∀ fr Γ,acK n fr Γ->Q .normal (bp fr tb (.v (.bool false))) Γ) :
  GW P m (.loop (.seq (.region r1 [(⟨some tb,.binOp .lss T1 (.tmp ti) (.tmp tn) T2,T3,p1,a1,none⟩:Oper)].toArray false) (.seq (.cond (.tmp tb) .skip (.exit B))
   (.seq (.block C body) (.region r2 [(⟨some ta,.binOp .add T4 (.tmp ti) (.const (.int .i64 1)) T5,T6,p2,a2,none⟩:Oper),⟨some ti,.move (.tmp ta),T7,p3,a3,none⟩].toArray false))))) (aZ B Q) fr Γ:=by
 have BC:∀ (fr:List GV) (t:Nat) (g:GV),jG fr t=true->cK (bp fr t g) t=g:=by
  intro fr
  induction fr with
  | nil=>intro t g h;cases h
  | cons x fr ih=>intro t g h;cases t with | zero=>rfl | succ t=>exact ih t g h
 refine GW.loop (fun k:Nat=>n - k) (fun k fr Γ=>k<=n/\acK k fr Γ) 0 ?_ ?_
 ·obtain ⟨cy,aR,hw,h⟩:=h0;exact ⟨cy,aR,hw,aO _,h⟩
 rintro k fr Γ ⟨hk,hi⟩;obtain ⟨I,M,h3⟩:=hI k fr Γ hi;refine GW.seq (GW.region (GL.q (YG.go (v:=.bool (decide ((k:Int) < (n:Int)))) ?_) (GL.nil (aY ?_))))
 ·simp only [Xk,Xw.go,be,I,M,Eh,Ms,ii,Nj,Mt]
 by_cases aj:k < n
 ·have hd:decide ((k:Int) < (n:Int))=true:=by simpa using aj
  simp only [bC,hd];refine GW.seq (NT (BC fr tb _ h3) rfl (GW.skip (aY (GW.seq (GW.block ?_)))));refine GW.mono (ZL k fr Γ aj hi) ?_;intro e cy aR hq;have key:∀ cy aR,(cK cy ti=.v (ii k)/\jG cy ta=true/\Bi m (acK (k+1)) (bp (bp cy ta (.v (ii ((k+1:Nat):Int)))) ti (.v (ii ((k+1:Nat):Int)))) aR) ->
    GW P m (.region r2 [(⟨some ta,.binOp .add T4 (.tmp ti) (.const (.int .i64 1)) T5,T6,p2,a2,none⟩:Oper),⟨some ti,.move (.tmp ta),T7,p3,a3,none⟩].toArray false) (aW (fun cy aR=>∃ y:Nat,Bi m (fun fr Γ=>y<=n/\acK y fr Γ) cy aR/\n - y < n - k) (aZ B Q)) cy aR:=by
   rintro cy aR ⟨h5,h6,OT,Gb,hw,h7⟩;refine GW.region (GL.q (YG.zq (a:=k) h5 rfl zfO) (GL.q YG.mv (GL.nil (aY ⟨k+1,⟨OT,Gb,?_,aj,h7⟩,by omega⟩))));have h8:be (bp cy ta (.v (ii ((k+1:Nat):Int)))) (.tmp ta)=.v (ii ((k+1:Nat):Int)):=BC cy ta _ h6;simp only [bC,h8];exact hw
  cases e with
  | normal=>exact key cy aR hq
  | exit id =>
   simp only [aZ] at hq |-;split <;> rename_i hh
   ·rw [ab hh] at hq;exact key cy aR hq
   ·rw [F hh] at hq;exact hq
  | goto _=>exact hq
  | ret=>exact hq
  | panic _=>exact hq
  | outgrown=>exact hq
 ·have px:k=n:=by omega
  have hd:decide ((k:Int) < (n:Int))=false:=by simpa using aj
  simp only [bC,hd];refine GW.seq (NS (BC fr tb _ h3) rfl (GW.exit (Hl (Hl (Kx ?_)))));subst px;exact qS fr Γ hi
def oh (g g':GV):Prop:=∀ K β x,Rel K β x g->Rel K β x g'
def ly (gs hs:List GV):Prop:=∀ K β vs,bm K β vs gs->bm K β vs hs
theorem oh.refl {g:GV}:oh g g:=fun _ _ _ h=>h
theorem oh.U {g:GV}:oh g .U:=fun _ _ _ _=>.U _
theorem oh.nil {k:Nat}:oh (.v (.slice none 0 0)) (.sl k []):=fun K β x h=>by
 rw [Rel.fF h];exact .sl0 _ _ _
theorem ly.nil:ly [] []:=fun _ _ _ h=>h
theorem ly.refl {gs:List GV}:ly gs gs:=fun _ _ _ h=>h
theorem ly.cons {g h:GV} {gs hs:List GV} (I:oh g h) (M:ly gs hs):ly (g::gs) (h::hs):=fun K β vs hv=>by
 cases vs with
 | nil=>have:=hv.1;simp at this
 | cons v vs=>obtain ⟨a,b⟩:=hv.pL;exact .cons (I K β v a) (M K β vs b)
theorem oh.agg {gs hs:List GV} (h:ly gs hs):oh (.agg gs) (.agg hs):=fun K β x hx=>by
 cases hx with
 | agg vs _ hl h'=>obtain ⟨a,b⟩:=h K β vs ⟨hl,h'⟩;exact .agg vs hs a b
theorem oh.tup {gs hs:List GV} (h:ly gs hs):oh (.tup gs) (.tup hs):=fun K β x hx=>by
 cases hx with
 | tup vs _ hl h'=>obtain ⟨a,b⟩:=h K β vs ⟨hl,h'⟩;exact .tup vs hs a b
inductive WH:List GV->List GV->Prop
 | nil:WH [] []
 | cons {f g:GV} {fs gs:List GV} (h:oh f g) (t:WH fs gs):WH (f::fs) (g::gs)
section
variable {P:Program} {m:Nat} {Q:dG} {fr:List GV} {Γ:List Ob} {ops:Array Oper} {rest:List Oper} {d:Option Tmp} {op:Op} {ty:TypeId} {pos:String} {af:Array Edge}
theorem Wk.cells (i:Nat) {E:TypeId} {cs ds:List GV} (hi:Γ[i]?=some (.box E cs)) (h:ly cs ds):Wk m fr Γ fr (oset Γ i (.box E ds)):=fun B K β w l _ hI hF=>by
 rw [bg];refine ⟨K,β,⟨hI.ext,hI.kle,hI.ble,hI.loc,hI.fz,fun j x hj=>?_,fun j hj=>hI.out j zf4,hI.dis,hI.own,hI.kn,hI.tab⟩,hF⟩;rw [dN] at hj;split at hj
 ·rename_i gJ;split at hj
  ·cases hj;subst gJ
   obtain ⟨b,vs,I,M,h3,h4⟩:=hI.ob i _ hi;exact ⟨b,vs,I,M,h K β vs h3,h4⟩
  ·cases hj
 ·exact hI.ob j x hj
theorem GL.Gl {f:FuncId} [hf:aK P f] (aw:List Nat) {args:List Operand} {mG:Array TypeId} {gs:List GV} {jz:List Ob} {R:GV->List Ob->Prop} (hc:GC P f gs jz R) (ha:ly (args.map (be fr)) (l7 (cB aw Γ.length) gs)) (fo:jM aw Γ.length=true)
  (bJ:seen (cB aw Γ.length) Γ aw jz) (h:∀ g aR,R g aR->aw.length<=aR.length/\GL P m ops Q rest (bC fr d (ey (cB aw Γ.length) g)) (eA Γ aw (aR.map (Ob.ey (cB aw Γ.length))))) :
  GL P m ops Q (⟨d,.call ⟨.value (.func f),args.toArray,mG⟩,ty,pos,af,none⟩::rest) fr Γ :=
 GL.calls (vs:=fun l=>args.map (ev l)) (fun K β w l hF=>⟨ha K β _ (hF.args args),by simp [execOp,resolve,ev,Deferred.ofValue,invoke,nG]⟩) fo bJ hc h
theorem GL.Mh {f:FuncId} [hf:aK P f] (aw:List Nat) {args:List Operand} {mG:Array TypeId} {gs:List GV} {jz tB:List Ob} {g:GV} (hc:GF P f gs jz g tB) (ha:ly (args.map (be fr)) (l7 (cB aw Γ.length) gs)) (fo:jM aw Γ.length=true)
  (bJ:seen (cB aw Γ.length) Γ aw jz) (hl:Nat.ble aw.length tB.length=true) (h:GL P m ops Q rest (bC fr d (ey (cB aw Γ.length) g)) (eA Γ aw (tB.map (Ob.ey (cB aw Γ.length))))) :
  GL P m ops Q (⟨d,.call ⟨.value (.func f),args.toArray,mG⟩,ty,pos,af,none⟩::rest) fr Γ :=
 GL.Gl aw hc ha fo bJ fun g' aR ⟨I,M⟩=>by subst I;subst M;exact ⟨by simpa using hl,h⟩
end
section
variable {P:Program} {fr:List GV} {Γ:List Ob} {g:GV}
theorem K.bin {o:BinOp} {t t':TypeId} {x y:Operand} (h:YG P (.binOp o t x y t') fr Γ g):YG P (.binOp o t x y t') fr Γ g:=h
theorem K.ld {t:TypeId} {x:Operand} (h:YG P (.load t x) fr Γ g):YG P (.load t x) fr Γ g:=h
theorem K.W6 {t:TypeId} {x:Operand} {i:Nat} (h:YG P (.fieldAddr t x i) fr Γ g):YG P (.fieldAddr t x i) fr Γ g:=h
theorem K.len {t:TypeId} {x:Operand} (h:YG P (.call ⟨.builtin .len,#[x],#[t]⟩) fr Γ g):YG P (.call ⟨.builtin .len,#[x],#[t]⟩) fr Γ g:=h
theorem K.nck {x:Operand} (h:YG P (.nilCheck x) fr Γ g):YG P (.nilCheck x) fr Γ g:=h
theorem K.idx {t:TypeId} {x y:Operand} (h:YG P (.indexAddr t x y) fr Γ g):YG P (.indexAddr t x y) fr Γ g:=h
theorem K.pick {a b c:Operand} (h:YG P (.pick a b c) fr Γ g):YG P (.pick a b c) fr Γ g:=h
theorem K.QJ {t:TypeId} {x:Operand} {a b c:Option Operand} (h:YG P (.slice t x a b c) fr Γ g):YG P (.slice t x a b c) fr Γ g:=h
theorem K.Ew {f:Fn} {a b:Array Operand} (h:YG P (.makeFunc f a b) fr Γ g):YG P (.makeFunc f a b) fr Γ g:=h
end
section
variable {P:Program} {fn:Func} {m:Nat} {fr:List GV} {Γ aR:List Ob} {e:Exit} {g:GV}
theorem zE {R:GV->List Ob->Prop} (h:rQ P fn m (fun x Δ=>∃ y,oh x y/\R y Δ) e fr Γ):rQ P fn m R e fr Γ :=
 ⟨h.1,fun B K β w l hm hI hF=>by
  obtain ⟨v,K',bX,x,Δ,I,M,h3,y,h4,h5⟩:=h.2 B K β w l hm hI hF
  exact ⟨v,K',bX,y,Δ,I,M,h4 _ _ _ h3,h5⟩⟩
end
end Go.Xg
