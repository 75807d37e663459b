/- Part 4 of proofs that are told in their last texts. -/
import Derived.WalkKit
import Derived.KernelRfl
import Derived.Test.YtbfmholmeiegoaaGreatDoorQ1
import Derived.Orders
open List (all_cons flatten_cons getElem?_drop getElem?_take length_cons map_nil map_toArray mem_cons_self mem_filter size_toArray)
set_option linter.unusedVariables false
set_option linter.unusedSimpArgs false
set_option maxRecDepth 100000
namespace Go.Xw
open Go.RowKit
def nth:List Value->Nat->Value
 | [],_=>undef
 | v::_,0=>v
 | _::l,n+1=>nth l n
def fC:List Value->Nat->Value->List Value
 | [],_,_=>[]
 | _::l,0,v=>v::l
 | x::l,n+1,v=>x::fC l n v
def ev (l:List Value):Operand->Value
 | .tmp t=>nth l t
 | .const v=>v
 | .global g=>.pointer (some ⟨g,0,none⟩)
 | .func f=>.func (.func f) #[] #[]
def put (l:List Value) (d:Option Tmp) (v:Value):List Value :=
 match d with | some d=>fC l d v | none=>l
theorem jM (l:List Value) (t:Nat):l.toArray.getD t undef=nth l t:=by
 induction l generalizing t with
 | nil=>simp [nth]
 | cons x l ih =>
  cases t with
  | zero=>simp [nth]
  | succ t=>rw [nth,<-ih];simp [Array.getD]
theorem y7 (l:List Value) (t:Nat) (v:Value):l.toArray.setIfInBounds t v=(fC l t v).toArray:=by
 have h:∀ (l:List Value) t,fC l t v=l.set t v:=by
  intro l
  induction l with
  | nil=>intro t;rfl
  | cons x l ih=>intro t;cases t with | zero=>rfl | succ t=>simp [fC,ih]
 rw [h];simp
def act (l:List Value):Act:=⟨l.toArray,[]⟩
theorem og (l:List Value):(act l).eval=ev l:=by
 funext x;cases x <;> first | rfl | exact jM l _
theorem pZ (l:List Value) (d:Option Tmp) (v:Value):(act l).put d v=act (put l d v):=by
 cases d with
 | none=>rfl
 | some d=>simp only [act,Act.put,put];rw [y7]
abbrev mq:=Exit->List Value->World->Prop
def lift (Q:mq):Exit->Act->World->Prop:=fun e a w=>∃ l,a=act l/\Q e l w
def W (P:Program) (c:Code) (Q:mq) (l:List Value) (w:World):Prop:=c.wp P (lift Q) (act l) w
def WL (P:Program) (ops:Array Oper) (Q:mq) (rest:List Oper) (l:List Value) (w:World):Prop :=
 wpList P ops (lift Q) rest (act l) w
def X4 (next:List Value->World->Prop) (Q:mq):mq
 | .normal,l,w=>next l w
 | e,l,w=>Q e l w
def UT (id:Nat) (Q:mq):mq
 | .exit BO,l,w=>if BO=id then Q .normal l w else Q (.exit BO) l w
 | e,l,w=>Q e l w
section
variable {P:Program} {Q:mq} {l:List Value} {w:World} {ops:Array Oper} {rest:List Oper}
theorem W.seq {x y:Code} (h:W P x (X4 (W P y Q) Q) l w):W P (.seq x y) Q l w:=by
 refine wp_seq (wp_mono h ?_);rintro e a w ⟨l,rfl,hq⟩
 cases e <;> first | exact hq | exact ⟨l,rfl,hq⟩
theorem W.skip (h:Q .normal l w):W P .skip Q l w:=wp_skip ⟨l,rfl,h⟩
theorem W.exit {n:Nat} (h:Q (.exit n) l w):W P (.exit n) Q l w:=wp_exit ⟨l,rfl,h⟩
theorem W.ret (h:Q .ret l w):W P .ret Q l w:=wp_ret ⟨l,rfl,h⟩
theorem W.block {id:Nat} {c:Code} (h:W P c (UT id Q) l w):W P (.block id c) Q l w:=by
 refine wp_block (wp_mono h ?_);rintro e a w ⟨l,rfl,hq⟩
 cases e with
 | exit BO =>
  simp only [UT] at hq;simp only [Exit.inBlock];split <;> rename_i hh
  ·rw [ab hh] at hq;exact ⟨l,rfl,hq⟩
  ·rw [M hh] at hq;exact ⟨l,rfl,hq⟩
 | normal=>exact ⟨l,rfl,hq⟩
 | goto _=>exact ⟨l,rfl,hq⟩
 | ret=>exact ⟨l,rfl,hq⟩
 | panic _=>exact ⟨l,rfl,hq⟩
 | outgrown=>exact ⟨l,rfl,hq⟩
theorem W.cond {c:Operand} {x y:Code} {t:Bool} (hc:ev l c=.bool t) (ht:t=true->W P x Q l w) (hf:t=false->W P y Q l w):W P (.cond c x y) Q l w:=by
 refine wp_cond_split (t:=t) (by rw [og];exact hc) ht hf
theorem W.mono {c:Code} {Q':mq} (h:W P c Q l w) (hq:∀ e l w,Q e l w->Q' e l w):W P c Q' l w :=
 wp_mono h fun _ _ _ ⟨l,ha,q⟩=>⟨l,ha,hq _ _ _ q⟩
theorem W.loop {c:Code} {α:Type} (μ:α->Nat) (aaI:α->List Value->World->Prop) (x:α) (h0:aaI x l w)
  (round:∀ x l w,aaI x l w->W P c (X4 (fun l' w'=>∃ y,aaI y l' w'/\μ y < μ x) Q) l w):W P (.loop c) Q l w:=by
 have key:∀ n x l w,μ x=n->aaI x l w->∀ (b:Frame) (k:List Item) (cs:List Frame),
   ∃ e a' w',lift Q e a' w'/\Arrives P (lone (b.at (act l) (.code c::.inLoop c::k)) cs w) b k cs e a' w':=by
  intro n
  induction n using Nat.strongRecOn with
  | _ n ih =>
   intro x l w hn hI b k cs;obtain ⟨e,aaf,Dp,hq,yk⟩:=round x l w hI b (.inLoop c::k) cs;obtain ⟨CX,rfl,hq⟩:=hq
   cases e with
   | normal =>
    obtain ⟨y,V9,ak⟩:=hq;obtain ⟨Yf,Yd,ZF,Wl,Sk⟩:=ih (μ y) (hn ▸ ak) y CX Dp rfl V9 b k cs;exact ⟨Yf,Yd,ZF,Wl,.of_steps (Steps.trans yk (.one step_inLoop)) Sk⟩
   | exit id=>exact ⟨_,_,Dp,⟨CX,rfl,hq⟩,.pass (x:=.inLoop c) rfl (fun _ _=>.inl (by simp)) yk⟩
   | goto _=>exact ⟨_,_,Dp,⟨CX,rfl,hq⟩,.pass (x:=.inLoop c) rfl (fun _ _=>.inl (by simp)) yk⟩
   | ret=>exact ⟨_,_,Dp,⟨CX,rfl,hq⟩,.pass (x:=.inLoop c) rfl (fun _ _=>.inl (by simp)) yk⟩
   | panic ch=>exact ⟨_,_,Dp,⟨CX,rfl,hq⟩,.pass (x:=.inLoop c) rfl (fun _ _=>.inl (by simp)) yk⟩
   | outgrown=>exact ⟨_,_,Dp,⟨CX,rfl,hq⟩,.pass (x:=.inLoop c) rfl (fun _ _=>.inl (by simp)) yk⟩
 intro b k cs;obtain ⟨e,a',w',hq,yk⟩:=key _ x l w rfl h0 b k cs;exact ⟨e,a',w',hq,.of_steps (.one step_loop) yk⟩
theorem W.region {id:Nat} {ol:List Oper} (h:WL P ol.toArray Q ol l w):W P (.region id ol.toArray false) Q l w :=
 wp_region_lit h
theorem WL.nil (h:Q .normal l w):WL P ops Q [] l w:=⟨l,rfl,h⟩
theorem WL.val {d:Option Tmp} {op:Op} {ty:TypeId} {pos:String} {af:Array Edge} {v:Value} {w':World}
  (hr:(execOp (ev l) ⟨d,op,ty,pos,af,none⟩).run P w=.ok (.value v) w')
  (h:WL P ops Q rest (put l d v) w'):WL P ops Q (⟨d,op,ty,pos,af,none⟩::rest) l w:=by
 refine wpList_plain rfl fun K hK=>?_
 simp only [Oper.wp,og,hr,Oper.upon_value,pZ];exact hK _ _ h
theorem WL.skp {d:Option Tmp} {op:Op} {ty:TypeId} {pos:String} {af:Array Edge} {w':World}
  (hr:(execOp (ev l) ⟨d,op,ty,pos,af,none⟩).run P w=.ok .skip w')
  (h:WL P ops Q rest (put l d undef) w'):WL P ops Q (⟨d,op,ty,pos,af,none⟩::rest) l w:=by
 refine wpList_plain rfl fun K hK=>?_
 simp only [Oper.wp,og,hr,Oper.upon_skip,pZ];exact hK _ _ h
theorem WL.gt {d:Option Tmp} {op:Op} {ty:TypeId} {pos:String} {af:Array Edge} {g:Option (Nat × Bool)}
  (hw:Region.wanted ⟨d,op,ty,pos,af,g⟩ (yielded ops (act l).tmps)=true)
  (h:WL P ops Q (⟨d,op,ty,pos,af,none⟩::rest) l w):WL P ops Q (⟨d,op,ty,pos,af,g⟩::rest) l w:=by
 unfold WL wpList at *;rw [ab hw];rw [ab (by rfl)] at h;exact h
theorem WL.gf {d:Option Tmp} {op:Op} {ty:TypeId} {pos:String} {af:Array Edge} {g:Option (Nat × Bool)}
  (hw:Region.wanted ⟨d,op,ty,pos,af,g⟩ (yielded ops (act l).tmps)=false)
  (h:WL P ops Q rest (put l d undef) w):WL P ops Q (⟨d,op,ty,pos,af,g⟩::rest) l w:=by
 unfold WL wpList;rw [M (by rw [hw];decide)];show wpList P ops (lift Q) rest ((act l).put d undef) w;rw [pZ];exact h
end
section
variable {next:List Value->World->Prop} {Q:mq} {l:List Value} {w:World} {id BO:Nat}
end
structure Ext (S:Nat->Prop) (w w':World):Prop where
 os:w'.os=w.os
 tape:w'.tape=w.tape
 output:w'.output=w.output
 size:w.heap.size<=w'.heap.size
 block:∀ k,k < w.heap.size->¬ S k->w'.heap[k]?=w.heap[k]?
abbrev ic:Nat->Prop:=fun _=>False
theorem Ext.refl {S:Nat->Prop} (w:World):Ext S w w:=⟨rfl,rfl,rfl,aD _,fun _ _ _=>rfl⟩
theorem Ext.trans {S:Nat->Prop} {a b c:World} (h:Ext S a b) (k:Ext S b c):Ext S a c :=
 ⟨k.os.trans h.os,k.tape.trans h.tape,k.output.trans h.output,jZ h.size k.size,
  fun i hi hs=>(k.block i (xE hi h.size) hs).trans (h.block i hi hs)⟩
theorem Ext.step {S0 S:Nat->Prop} {a b c:World} (h:Ext S0 a b) (k:Ext S b c) (hs:∀ j,S j->a.heap.size<=j\/S0 j):Ext S0 a c :=
 ⟨k.os.trans h.os,k.tape.trans h.tape,k.output.trans h.output,jZ h.size k.size,
  fun i hi hn=>(k.block i (xE hi h.size) fun UK=>by
   rcases hs i UK with L | L
   ·omega
   ·exact hn L).trans (h.block i hi hn)⟩
theorem Ext.mono {S S':Nat->Prop} {a b:World} (h:Ext S a b) (hs:∀ k,k < a.heap.size->S k->S' k):Ext S' a b :=
 ⟨h.os,h.tape,h.output,h.size,fun i hi hn=>h.block i hi fun x=>hn (hs i hi x)⟩
theorem Ext.blk {S:Nat->Prop} {a b:World} (h:Ext S a b) {k:Nat} {o:Obj} (hv:a.heap[k]?=some o) (hs:¬ S k):b.heap[k]?=some o:=by
 rw [h.block k (by have:=(Array.getElem?_eq_some_iff.1 hv).1;exact this) hs,hv]
theorem sy {w:World} {k:Nat} {o:Obj} (hv:w.heap[k]?=some o):k < w.heap.size:=(Array.getElem?_eq_some_iff.1 hv).1
theorem LH {w:World} {b o:Nat} {cs:Array Value} {E:TypeId} {fz:Nat × Nat} {v:Value} (hb:w.heap[b]?=some (.cells cs E fz)) (hv:cs[o]?=some v):w.cell? ⟨b,o,none⟩=some v:=by
 rw [cell_of_row w b o cs E fz hb,hv]
theorem Ext.below {a b:World} (h:Ext ic a b):Below a.heap.size a b:=⟨h.os,h.tape,h.output,h.size,fun k hk=>h.block k hk (fun x=>x)⟩
structure uM (w w':World) (b:Nat) (o:Obj):Prop where
 fresh:b=w.heap.size
 size:w'.heap.size=b+1
 blk:w'.heap[b]?=some o
 ext:Ext ic w w'
theorem uM.of (w:World) (o:Obj):uM w (w.alloc o) w.heap.size o :=
 ⟨rfl,by simp,heap_alloc_new w o,⟨rfl,rfl,rfl,by simp,fun k hk _=>Below.heap_alloc _ _ _ hk⟩⟩
def zb:TypeDesc->Bool
 | .struct _=>true
 | .array _ _=>true
 | _=>false
class Ty (P:Program) (t:TypeId) (agg:outParam Bool) (k:outParam Nat):Prop where
 und:(P.underlying t).map zb=some agg
 siz:(P.info? t).map (·.size)=some k
class nX (P:Program) (t:TypeId) (e:outParam TypeId) (k:outParam Nat):Prop where
 und:P.underlying t=some (.slice e)
 siz:(P.info? e).map (·.size)=some k
class qo (P:Program) (t:TypeId):Prop where
 und:P.underlying t=some .string
def J9 (P:Program) (s:TypeId) (i:Nat) (off:Nat) (k:Nat) (agg:Bool):Bool :=
 match P.underlying s with
 | some (.struct fs)=>match fs[i]? with
  | some f=>f.offset==off&&(match P.info? f.type with | some x=>x.size==k | none=>false)&&k != 0&&((P.underlying f.type).map zb==some agg)
  | none=>false
 | _=>false
class dO (P:Program) (s:TypeId) (i:Nat) (off:outParam Nat) (k:outParam Nat) (agg:outParam Bool):Prop where
 is:J9 P s i off k agg=true
section
variable {P:Program} {w:World}
theorem Ef {t:TypeId} {agg:Bool} {k:Nat} [h:Ty P t agg k]:(isAgg t).run P w=.ok agg w:=by
 obtain ⟨hu,_⟩:=h
 cases hd:P.underlying t with
 | none=>simp [hd] at hu
 | some d =>
  rw [hd] at hu;unfold isAgg;rw [Sem.run_bind,run_underlying hd w]
  cases d <;> simp_all [zb]
theorem jF {t:TypeId} {k:Nat} (h:(P.info? t).map (·.size)=some k):(sizeOf t).run P w=.ok k w:=by
 cases hq:P.info? t with
 | none=>simp [hq] at h
 | some i=>simp [hq] at h;simp [sizeOf,typeInfo,hq,h]
theorem qp (b o n:Nat):(⟨b,o,none⟩:Addr).add n=⟨b,o+n,none⟩:=by
 unfold Addr.add;split
 ·rename_i h;subst h;rfl
 ·rfl
theorem Gv {t:TypeId} [h:Ty P t false 1] {a:Addr} {v:Value} (hv:w.cell? a=some v):(loadVar t a).run P w=.ok v w:=by
 unfold loadVar;rw [Sem.run_bind,Ef (agg:=false) (k:=1)];simp [hv]
theorem mG {t:TypeId} {k:Nat} [h:Ty P t true k] {b o:Nat} {vs:List Value} (hl:vs.length=k) (hv:∀ j v,vs[j]?=some v->w.cell? ⟨b,o+j,none⟩=some v) :
  (loadVar t ⟨b,o,none⟩).run P w=.ok (.agg vs.toArray) w:=by
 unfold loadVar;rw [Sem.run_bind,Ef (agg:=true) (k:=k)]
 have hc:(loadCells ⟨b,o,none⟩ k).run P w=.ok vs.toArray w:=by
  rw [<-hl]
  exact run_loadCells_list w _ vs fun j v hj=>by rw [qp];exact hv j v hj
 simp [jF h.siz,hc]
end
def eS (P:Program) (l:List Value) (w:World) (op:Op) (v:Value):Prop :=
 ∀ (d:Option Tmp) (ty:TypeId) (pos:String) (af:Array Edge),(execOp (ev l) ⟨d,op,ty,pos,af,none⟩).run P w=.ok (.value v) w
theorem WL.v {P:Program} {Q:mq} {l:List Value} {w:World} {ops:Array Oper} {rest:List Oper} {d:Option Tmp} {op:Op} {ty:TypeId} {pos:String} {af:Array Edge} {v:Value}
  (hr:eS P l w op v) (h:WL P ops Q rest (put l d v) w):WL P ops Q (⟨d,op,ty,pos,af,none⟩::rest) l w:=WL.val (hr d ty pos af) h
section
variable {P:Program} {l:List Value} {w:World}
theorem R.mv {x:Operand}:eS P l w (.move x) ((ev l x)):=fun d ty pos af=>by simp [execOp]
theorem R.vE {x:Operand}:eS P l w (.assign x) ((ev l x)):=fun d ty pos af=>by simp [execOp]
theorem R.pick {c a b:Operand} {t:Bool} (hc:ev l c=.bool t):eS P l w (.pick c a b) ((if t then ev l a else ev l b)):=fun d ty pos af=>by simp [execOp,hc,asBool]
theorem R.KP {x:Operand} {a:Addr} (hx:ev l x=.pointer (some a)):eS P l w (.nilCheck x) ((.pointer (some a))):=fun d ty pos af=>by simp [execOp,hx]
theorem R.extract {x:Operand} {i:Nat} {vs:Array Value} {v:Value} (hx:ev l x=.tuple vs) (hv:vs[i]?=some v):eS P l w (.extract x i) (v):=fun d ty pos af=>by simp [execOp,hx,Instr.extract,hv]
theorem R.CY {fn:Fn} {first cap:Array Operand}:eS P l w (.makeFunc fn first cap) ((.func fn (first.map (ev l)) (cap.map (ev l)))):=fun d ty pos af=>by simp [execOp,Instr.makeFunc]
abbrev ae:=List UInt8
def sv (s:ae):Value:=.string ⟨s.toArray⟩
theorem toList_mk (s:ae):(⟨s.toArray⟩:ByteArray).toList=s:=by
 simp [ByteArray.toList_eq]
theorem wx (s:ae):(⟨s.toArray⟩:ByteArray).size=s.length:=by
 simp [ByteArray.size]
theorem EN (b:ByteArray):Value.string b=sv b.data.toList:=by
 simp [sv]
theorem LF (a b:ae):(⟨a.toArray⟩:ByteArray)++⟨b.toArray⟩=⟨(a++b).toArray⟩:=by
 apply ByteArray.ext;simp
theorem extract_mk (s:ae) (i j:Nat):(⟨s.toArray⟩:ByteArray).extract i j=⟨((s.take j).drop i).toArray⟩:=by
 apply ByteArray.ext;simp [ByteArray.data_extract,List.take_drop]
 by_cases h:i<=j
 ·rw [Nat.add_sub_cancel' h]
 ·rw [List.drop_eq_nil_of_le (by simp;omega),List.drop_eq_nil_of_le (by simp;omega)]
theorem aae (x c:UInt8):((x.toNat:Int)==(c.toNat:Int))=(x==c):=by
 rw [Bool.eq_iff_iff];simp only [beq_iff_eq];constructor
 ·intro h;exact UInt8.toNat_inj.1 (by omega)
 ·rintro rfl;rfl
abbrev ii (n:Int):Value:=.int .i64 n
theorem Dl {n:Int} (L : -9223372036854775808<=n) (I:n<=9223372036854775807):IntKind.i64.wrap n=n:=IntWalk.i64_in _ ⟨L,I⟩
theorem R.PG {x:Operand} {t:TypeId} [hT:qo P t] {s:ae} (hx:ev l x=sv s):eS P l w (.call ⟨.builtin .len,#[x],#[t]⟩) ((ii s.length)):=fun d ty pos af=>by simp [execOp,resolve,invoke,builtin,hx,sv,Builtin.len_,goInt,run_underlying hT.und,wx]
theorem R.KG {x:Operand} {t e:TypeId} {k:Nat} [hT:nX P t e k] {a:Option Addr} {n c:Nat} (hx:ev l x=.slice a n c):eS P l w (.call ⟨.builtin .len,#[x],#[t]⟩) ((ii n)):=fun d ty pos af=>by simp [execOp,resolve,invoke,builtin,hx,Builtin.len_,goInt,run_underlying hT.und]
theorem R.add {x y:Operand} {t t':TypeId} {a b:Int} (hx:ev l x=ii a) (hy:ev l y=ii b) (L : -9223372036854775808<=a+b) (I:a+b<=9223372036854775807):eS P l w (.binOp .add t x y t') ((ii (a+b))):=fun d ty pos af=>by simp [execOp,eqGuard,hx,hy,binOp,Op.intArith,Dl L I]
theorem R.sub {x y:Operand} {t t':TypeId} {a b:Int} (hx:ev l x=ii a) (hy:ev l y=ii b) (L : -9223372036854775808<=a - b) (I:a - b<=9223372036854775807):eS P l w (.binOp .sub t x y t') ((ii (a - b))):=fun d ty pos af=>by simp [execOp,eqGuard,hx,hy,binOp,Op.intArith,Dl L I]
theorem R.mul {x y:Operand} {t t':TypeId} {a b:Int} (hx:ev l x=ii a) (hy:ev l y=ii b) (L : -9223372036854775808<=a * b) (I:a * b<=9223372036854775807):eS P l w (.binOp .mul t x y t') ((ii (a * b))):=fun d ty pos af=>by simp [execOp,eqGuard,hx,hy,binOp,Op.intArith,Dl L I]
theorem R.cat {x y:Operand} {t t':TypeId} {a b:ae} (hx:ev l x=sv a) (hy:ev l y=sv b) (L:a.length+b.length<=9223372036854775807):eS P l w (.binOp .add t x y t') ((sv (a++b))):=fun d ty pos af=>by
  have I:¬ ((((⟨a.toArray⟩:ByteArray).size+(⟨b.toArray⟩:ByteArray).size:Nat):Int) > IntKind.i64.max):=by
   rw [wx,wx];simp [IntKind.max,IntKind.signed,IntKind.bits];omega
  simp only [execOp,eqGuard,hx,hy,binOp,sv,Op.stringOp,M I,LF];simp
theorem R.eq {x y:Operand} {t t':TypeId} {k:IntKind} {a b:Int} (hx:ev l x=.int k a) (hy:ev l y=.int k b):eS P l w (.binOp .eql t x y t') ((.bool (a==b))):=fun d ty pos af=>by simp [execOp,eqGuard,hx,hy,binOp,Op.intCmp]
theorem R.ne {x y:Operand} {t t':TypeId} {k:IntKind} {a b:Int} (hx:ev l x=.int k a) (hy:ev l y=.int k b):eS P l w (.binOp .neq t x y t') ((.bool (a != b))):=fun d ty pos af=>by simp [execOp,eqGuard,hx,hy,binOp,Op.intCmp]
theorem R.lt {x y:Operand} {t t':TypeId} {k:IntKind} {a b:Int} (hx:ev l x=.int k a) (hy:ev l y=.int k b):eS P l w (.binOp .lss t x y t') ((.bool (decide (a < b)))):=fun d ty pos af=>by simp [execOp,eqGuard,hx,hy,binOp,Op.intCmp]
theorem R.le {x y:Operand} {t t':TypeId} {k:IntKind} {a b:Int} (hx:ev l x=.int k a) (hy:ev l y=.int k b):eS P l w (.binOp .leq t x y t') ((.bool (decide (a<=b)))):=fun d ty pos af=>by simp [execOp,eqGuard,hx,hy,binOp,Op.intCmp]
theorem R.gt' {x y:Operand} {t t':TypeId} {k:IntKind} {a b:Int} (hx:ev l x=.int k a) (hy:ev l y=.int k b):eS P l w (.binOp .gtr t x y t') ((.bool (decide (b < a)))):=fun d ty pos af=>by simp [execOp,eqGuard,hx,hy,binOp,Op.intCmp]
theorem R.ge {x y:Operand} {t t':TypeId} {k:IntKind} {a b:Int} (hx:ev l x=.int k a) (hy:ev l y=.int k b):eS P l w (.binOp .geq t x y t') ((.bool (decide (b<=a)))):=fun d ty pos af=>by simp [execOp,eqGuard,hx,hy,binOp,Op.intCmp]
theorem R.E9 {x y:Operand} {t t':TypeId} {a b:ae} (hx:ev l x=sv a) (hy:ev l y=sv b):eS P l w (.binOp .eql t x y t') ((.bool (a==b))):=fun d ty pos af=>by simp only [execOp,eqGuard,hx,hy,binOp,sv,Op.stringOp,toList_mk];simp
theorem R.Gi {x y:Operand} {t t':TypeId} {a b:ae} (hx:ev l x=sv a) (hy:ev l y=sv b):eS P l w (.binOp .neq t x y t') ((.bool (!(a==b)))):=fun d ty pos af=>by simp only [execOp,eqGuard,hx,hy,binOp,sv,Op.stringOp,toList_mk];simp
theorem R.not {x:Operand} {t:TypeId} {b:Bool} (hx:ev l x=.bool b):eS P l w (.unOp .not t x) ((.bool (!b))):=fun d ty pos af=>by simp [execOp,hx,Op.unary]
theorem R.um {x y:Operand} {t:TypeId} [hT:qo P t] {s:ae} {k:IntKind} {i:Nat} {c:UInt8} (hx:ev l x=sv s) (hy:ev l y=.int k i) (hc:s[i]?=some c):eS P l w (.index t x y) ((.int .u8 c.toNat)):=fun d ty pos af=>by
  have hg:(⟨s.toArray⟩:ByteArray)[i]?=some c:=by
   obtain ⟨hi,hv⟩:=bp hc
   have pB:i < (⟨s.toArray⟩:ByteArray).size:=by rw [wx];exact hi
   rw [getElem?_pos (⟨s.toArray⟩:ByteArray) i pB];simp only [ByteArray.getElem_eq_getElem_data];simpa using hv
  simp [execOp,Instr.index,hx,hy,asIntOf,run_underlying hT.und,sv,hg]
theorem R.Qb {x:Operand} {t:TypeId} [hT:qo P t] {s:ae} {lo hi:Option Operand} {i j:Nat} (hx:ev l x=sv s)
  (gT:match lo with | some y=>∃ k,ev l y=.int k i | none=>i=0) (nC:match hi with | some y=>∃ k,ev l y=.int k j | none=>j=s.length)
  (L:i<=j) (I:j<=s.length):eS P l w (.slice t x lo hi none) ((sv ((s.take j).drop i))):=fun d ty pos af=>by
  have dE:=wx s
  cases lo <;> cases hi <;> simp only at gT nC
  ·subst gT;subst nC;simp [execOp,Instr.sliceAt,Instr.slice,Instr.sliceBounds,hx,sv,run_underlying hT.und,dE,extract_mk]
  ·obtain ⟨k,hk⟩:=nC;subst gT;simp [execOp,Instr.sliceAt,Instr.slice,Instr.sliceBounds,Instr.sliceBound,asIntOf,hx,hk,sv,run_underlying hT.und,dE,extract_mk,I]
  ·obtain ⟨k,hk⟩:=gT;subst nC;simp [execOp,Instr.sliceAt,Instr.slice,Instr.sliceBounds,Instr.sliceBound,asIntOf,hx,hk,sv,run_underlying hT.und,dE,extract_mk,L]
  ·obtain ⟨k,hk⟩:=gT;obtain ⟨k',mx⟩:=nC;simp [execOp,Instr.sliceAt,Instr.slice,Instr.sliceBounds,Instr.sliceBound,asIntOf,hx,hk,mx,sv,run_underlying hT.und,dE,extract_mk,L,I]
theorem R.yH {x y:Operand} {t e:TypeId} {k:Nat} [hT:nX P t e k] {b o n c:Nat} {kk:IntKind} {i:Nat} (hx:ev l x=.slice (some ⟨b,o,none⟩) n c) (hy:ev l y=.int kk i) (hi:i < n):eS P l w (.indexAddr t x y) ((.pointer (some ⟨b,o+i * k,none⟩))):=fun d ty pos af=>by
  simp [execOp,Instr.indexAt,hx,hy,asIntOf,run_underlying hT.und,hi,jF hT.siz,qp]
theorem R.O3 {x:Operand} {s:TypeId} {i off k:Nat} {agg:Bool} [hT:dO P s i off k agg] {b o:Nat} (hx:ev l x=.pointer (some ⟨b,o,none⟩)):eS P l w (.fieldAddr s x i) ((.pointer (some ⟨b,o+off,none⟩))):=fun d ty pos af=>by
  obtain ⟨hT⟩:=hT;unfold J9 at hT;split at hT
  ·rename_i fs hu;split at hT
   ·rename_i f hf;simp only [aH,beq_iff_eq,bne_iff_ne,ne_eq] at hT;obtain ⟨⟨⟨L,I⟩,h3⟩,h4⟩:=hT;split at I
    ·rename_i x hq
     have hs:(P.info? f.type).map (·.size)=some k:=by rw [hq];simpa using I
     simp [execOp,Instr.fieldAt,hx,run_underlying hu,hf,Instr.sureAddr,fieldPlace,jF hs,h3,qp,L]
    ·cases I
   ·cases hT
  ·cases hT
theorem R.ld1 {x:Operand} {t:TypeId} [hT:Ty P t false 1] {a:Addr} {v:Value} (hx:ev l x=.pointer (some a)) (hv:w.cell? a=some v):eS P l w (.load t x) (v):=fun d ty pos af=>by simp [execOp,Instr.loadAt,hx,Instr.sureAddr,Gv hv]
theorem R.ldN {x:Operand} {t:TypeId} {k:Nat} [hT:Ty P t true k] {b o:Nat} {vs:List Value} (hx:ev l x=.pointer (some ⟨b,o,none⟩)) (hl:vs.length=k)
  (hv:∀ j v,vs[j]?=some v->w.cell? ⟨b,o+j,none⟩=some v):eS P l w (.load t x) ((.agg vs.toArray)):=fun d ty pos af=>by simp [execOp,Instr.loadAt,hx,Instr.sureAddr,mG hl hv]
end
def gq (H:Array Obj) (b o:Nat):Option Value :=
 match H[b]? with
 | some (.cells c _ _)=>c[o]?
 | _=>none
theorem fG (w:World) (b o:Nat):w.cell? ⟨b,o,none⟩=gq w.heap b o:=by
 unfold World.cell? gq
 cases w.heap[b]? with
 | none=>rfl
 | some x=>cases x <;> rfl
theorem E0 {H:Array Obj} {b o:Nat} {v:Value} (h:gq H b o=some v):b < H.size:=by
 unfold gq at h
 cases hb:H[b]? with
 | none=>rw [hb] at h;cases h
 | some x=>exact (Array.getElem?_eq_some_iff.1 hb).1
theorem Ext.c {S:Nat->Prop} {w w':World} (hx:Ext S w w') {b o:Nat} {v:Value} (h:gq w.heap b o=some v) (hs:¬ S b):gq w'.heap b o=some v:=by
 unfold gq at *;rw [hx.block b (E0 (H:=w.heap) (by unfold gq;exact h)) hs];exact h
theorem wQ {H:Array Obj} {b o:Nat} {cs:Array Value} {E:TypeId} {fz:Nat × Nat} {v:Value} (hb:H[b]?=some (.cells cs E fz)) (hv:cs[o]?=some v):gq H b o=some v:=by
 unfold gq;rw [hb];exact hv
theorem Ext.drew {S:Nat->Prop} (w:World):Ext S w w.drew:=⟨rfl,rfl,rfl,aD _,fun _ _ _=>rfl⟩
theorem R.ld {P:Program} {l:List Value} {w:World} {x:Operand} {t:TypeId} [hT:Ty P t false 1] {b o:Nat} {v:Value} (hx:ev l x=.pointer (some ⟨b,o,none⟩)) (hv:gq w.heap b o=some v):eS P l w (.load t x) v:=R.ld1 hx (by rw [fG];exact hv)
theorem R.XW {P:Program} {l:List Value} {w:World} {x:Operand} {t:TypeId} {k:Nat} [hT:Ty P t true k] {b o:Nat} {vs:List Value} (hx:ev l x=.pointer (some ⟨b,o,none⟩)) (hl:vs.length=k)
  (hv:∀ j v,vs[j]?=some v->gq w.heap b (o+j)=some v):eS P l w (.load t x) (.agg vs.toArray):=R.ldN hx hl (fun j v h=>by rw [fG];exact hv j v h)
section
variable {H:Array Obj} {b o:Nat} {v0 v1 v2 v3 v4 v5:Value}
end
class qY (P:Program) (t:TypeId) (z:outParam Value):Prop where
 is:(P.info? t).bind (·.zero)=some z
structure uO (w w':World) (b:Nat) (cs:Array Value) (E:TypeId):Prop where
 blk:w'.heap[b]?=some (.cells cs E (0,0))
 ext:Ext (·=b) w w'
 size:w'.heap.size=w.heap.size
def uA (cs:Array Value) (o:Nat):List Value->Array Value
 | []=>cs
 | v::r=>uA (cs.setIfInBounds o v) (o+1) r
def l8 (vs:List Value):Bool:=vs.all (·.oneCell')
section
variable {P:Program} {w:World}
theorem A6 {t:TypeId} {z:Value} [h:qY P t z]:(zeroValue t).run P w=.ok z w:=by
 obtain ⟨h⟩:=h
 cases hq:P.info? t with
 | none=>simp [hq] at h
 | some i=>simp [hq] at h;simp [zeroValue,typeInfo,hq,h]
theorem uO.refl {b:Nat} {cs:Array Value} {E:TypeId} (hb:w.heap[b]?=some (.cells cs E (0,0))):uO w w b cs E:=⟨hb,Ext.refl _,rfl⟩
theorem uO.trans {w1 w2:World} {b:Nat} {cs zP:Array Value} {E:TypeId} (h:uO w w1 b cs E) (k:uO w1 w2 b zP E):uO w w2 b zP E :=
 ⟨k.blk,h.ext.trans k.ext,k.size.trans h.size⟩
theorem uO.setCell {b o:Nat} {cs:Array Value} {E:TypeId} (hb:w.heap[b]?=some (.cells cs E (0,0))) (v:Value) :
  uO w (w.setCell ⟨b,o,none⟩ v) b (cs.setIfInBounds o v) E :=
 ⟨heap_setCell_same w b o cs E v hb,⟨rfl,rfl,rfl,by simp,fun k _ hs=>heap_setCell_other w _ k v hs⟩,by simp⟩
theorem wv {b o:Nat} {E:TypeId}:∀ (vs:List Value) (i:Nat) (w:World) (cs:Array Value),w.heap[b]?=some (.cells cs E (0,0))->o+i+vs.length<=cs.size->l8 vs=true ->
  ∃ w',(storeCells ⟨b,o,none⟩ vs i).run P w=.ok () w'/\uO w w' b (uA cs (o+i) vs) E
 | [],i,w,cs,hb,_,_=>⟨w,by simp [storeCells],uO.refl hb⟩
 | v::r,i,w,cs,hb,hl,L=>by
  simp only [l8,all_cons,aH] at L;simp only [length_cons] at hl;have hs:=uO.setCell (w:=w) (o:=o+i) hb v;obtain ⟨w',hr,cz⟩:=wv (b:=b) (o:=o) (E:=E) r (i+1) _ _ hs.blk (by simp;omega) L.2;refine ⟨w',?_,hs.trans (by simpa [uA,fP] using cz)⟩;have hc:w.cell? ⟨b,o+i,none⟩=cs[o+i]?:=cell_of_row w b (o+i) cs E (0,0) hb;have dP:∃ u,w.cell? ⟨b,o+i,none⟩=some u:=⟨cs[o+i]'(by omega),by rw [hc];simp⟩;obtain ⟨u,hu⟩:=dP;have hf:w.frozen? ⟨b,o+i,none⟩=false:=frozen_of_row w b _ cs E hb
  have Zj:(store ((⟨b,o,none⟩:Addr).add i) v).run P w=.ok () (w.setCell ⟨b,o+i,none⟩ v):=by
   rw [qp]
   cases v <;> first | (simp [Value.oneCell'] at L;done) | simp [store,Sem.run,hu,hf]
  simp only [storeCells,Sem.run_bind,Zj,Result.andThen_ok,hr]
theorem Gw {t:TypeId} {agg:Bool} {k:Nat} [hT:Ty P t agg k] {b o:Nat} {E:TypeId} {cs:Array Value} {v:Value} (hb:w.heap[b]?=some (.cells cs E (0,0)))
  (hl:v.cells.size=k) (ho:o+k<=cs.size) (L:l8 v.cells.toList=true) :
  ∃ w',(storeVar t ⟨b,o,none⟩ v).run P w=.ok () w'/\uO w w' b (uA cs o v.cells.toList) E:=by
 obtain ⟨w',hr,hs⟩:=wv (P:=P) (o:=o) v.cells.toList 0 w cs hb (by simp;omega) L;refine ⟨w',?_,by simpa using hs⟩;simp [storeVar,jF hT.siz,hl,hr]
end
def iF:List Value->Nat->List Value->List Value
 | cs,_,[]=>cs
 | cs,o,v::r=>iF (fC cs o v) (o+1) r
def qu (pl:Nat->Option (Nat × Nat)):List Value->List (Nat × Value)->Option (List Value)
 | cs,[]=>some cs
 | cs,(i,v)::r=>match pl i with
  | none=>none
  | some (o,k)=>if v.cells.size≠k || decide (o+v.cells.size > cs.length) then none else qu pl (iF cs o v.cells.toList) r
theorem A8:∀ (vs:List Value) (cs:List Value) (o:Nat),(iF cs o vs).length=cs.length
 | [],_,_=>rfl
 | v::r,cs,o=>by
  rw [iF,A8 r];have:=congrArg Array.size (y7 cs o v);simpa using this.symm
theorem Bm:∀ (vs:List Value) (cs:List Value) (o n:Nat),
  (vs.zipIdx n).foldl (fun (cs:Array Value) (x:Value × Nat)=>cs.setIfInBounds (o+x.2) x.1) cs.toArray=(iF cs (o+n) vs).toArray
 | [],cs,o,n=>by simp [iF]
 | v::r,cs,o,n=>by
  simp only [List.zipIdx_cons,List.foldl_cons,y7,iF];rw [Bm r];rfl
theorem yf (pl:Nat->Option (Nat × Nat)):∀ (parts:List (Nat × Value)) (cs:List Value),
  Instr.fill pl cs.toArray parts=(qu pl cs parts).map List.toArray
 | [],cs=>by simp [Instr.fill,qu]
 | (i,v)::r,cs=>by
  simp only [Instr.fill,qu]
  cases hp:pl i with
  | none=>rfl
  | some x =>
   obtain ⟨o,k⟩:=x;simp only [size_toArray];split
   ·rfl
   ·have h:(v.cells.zipIdx.foldl (fun (cs:Array Value) (x:Value × Nat)=>cs.setIfInBounds (o+x.2) x.1) cs.toArray)=(iF cs o v.cells.toList).toArray:=by
     have:=Bm v.cells.toList cs o 0;rw [<-Array.foldl_toList,Array.toList_zipIdx];exact this
    have I:=yf pl r (iF cs o v.cells.toList);rw [<-I,<-h]
def Ru (P:Program) (t:TypeId) (pl:List (Nat × Nat)):Bool :=
 match P.underlying t with
 | some (.struct fs)=>(fs.toList.map fun f=>(f.offset,(P.info? f.type).map (·.size)))==pl.map fun x=>(x.1,some x.2)
 | _=>false
class uN (P:Program) (t:TypeId) (pl:outParam (List (Nat × Nat))) (z:outParam (List Value)):Prop where
 is:Ru P t pl=true
 zero:(P.info? t).bind (·.zero)=some (.agg z.toArray)
section
variable {P:Program} {w:World}
theorem B7 {fs:List Field}:∀ {pl:List (Nat × Nat)},(fs.map fun f=>(f.offset,(P.info? f.type).map (·.size)))=(pl.map fun x=>(x.1,some x.2)) ->
  (List.mapM (m:=Sem) (fun (f:Field)=>Functor.map (Prod.mk f.offset) (sizeOf f.type)) fs).run P w=.ok pl w:=by
 induction fs with
 | nil=>intro pl h;cases pl with | nil=>simp | cons=>simp at h
 | cons f fs ih =>
  intro pl h
  cases pl with
  | nil=>simp at h
  | cons x pl =>
   simp only [List.map_cons,List.cons.injEq,Prod.mk.injEq] at h;obtain ⟨⟨L,I⟩,h3⟩:=h;have:=ih h3;have h5:=jF (w:=w) I;simp [List.mapM_cons,Sem.run_bind,h5,this,L]
theorem run_build {t:TypeId} {pl:List (Nat × Nat)} {z:List Value} [hT:uN P t pl z] {parts:List (Nat × Value)} {cs:List Value} (hf:qu (fun i=>pl[i]?) z parts=some cs) :
  (Instr.build t parts.toArray).run P w=.ok (.agg cs.toArray) w:=by
 obtain ⟨hi,hz⟩:=hT
 have hzz:(zeroValue t).run P w=.ok (.agg z.toArray) w:=by
  haveI:qY P t (.agg z.toArray):=⟨hz⟩
  exact A6
 unfold Ru at hi;split at hi
 ·rename_i fs hu;have hm:=B7 (P:=P) (w:=w) (eq_of_beq hi)
  have lE:(Array.mapM (m:=Sem) (fun (f:Field)=>Functor.map (Prod.mk f.offset) (sizeOf f.type)) fs).run P w=.ok pl.toArray w:=by
   rw [Array.mapM_eq_mapM_toList];simp [hm]
  have iq:=yf (fun i=>pl[i]?) parts z;rw [hf] at iq;simp [Instr.build,Sem.run_bind,hzz,run_underlying hu,lE,Value.cells];simp [iq]
 ·cases hi
end
section
variable {P:Program} {Q:mq} {l:List Value} {w:World} {ops:Array Oper} {rest:List Oper} {d:Option Tmp} {ty:TypeId} {pos:String} {af:Array Edge}
theorem B8 (t:TypeId) (v:Value):(newVar t v).run P w=.ok ⟨w.heap.size,0,none⟩ (w.alloc (.cells v.cells t)):=by
 rfl
theorem WL.alloc {t:TypeId} {z:Value} [hT:qY P t z] (h:∀ b w',uM w w' b (.cells z.cells t)->WL P ops Q rest (put l d (.pointer (some ⟨b,0,none⟩))) w') :
  WL P ops Q (⟨d,.alloc t,ty,pos,af,none⟩::rest) l w :=
 WL.val (w':=w.alloc (.cells z.cells t)) (by simp [execOp,Instr.alloc,A6 (w:=w) (z:=z),B8]) (h _ _ (uM.of w _))
theorem WL.box {t:TypeId} {x:Operand} {v:Value} (hx:ev l x=v) (h:∀ b w',uM w w' b (.cells v.cells t)->WL P ops Q rest (put l d (.pointer (some ⟨b,0,none⟩))) w') :
  WL P ops Q (⟨d,.box t x,ty,pos,af,none⟩::rest) l w :=
 WL.val (w':=w.alloc (.cells v.cells t)) (by simp [execOp,Instr.box,B8,hx]) (h _ _ (uM.of w _))
theorem R.build {t:TypeId} {pl:List (Nat × Nat)} {z:List Value} [hT:uN P t pl z] {parts:List (Nat × Operand)} {cs:List Value}
  (hf:qu (fun i=>pl[i]?) z (parts.map fun x=>(x.1,ev l x.2))=some cs):eS P l w (.build t parts.toArray) (.agg cs.toArray):=fun d ty pos af=>by
  have hr:=run_build (P:=P) (w:=w) (t:=t) hf;simp only [execOp,map_toArray];simp [hr]
class qn (P:Program) (t:TypeId) (e:outParam TypeId) (k:outParam Nat) (z:outParam (List Value)):Prop where
 und:P.underlying t=some (.slice e)
 siz:(P.info? e).map (·.size)=some k
 zero:(P.info? e).bind (·.zero)=some (if k=1 then z.headD undef else .agg z.toArray)
 zl:z.length=k
 pos:0 < k
 one:k=1->(z.headD undef).cells=#[z.headD undef]
theorem qn.cells {t e:TypeId} {k:Nat} {z:List Value} (h:qn P t e k z):(if k=1 then z.headD undef else .agg z.toArray).cells=z.toArray:=by
 split
 ·rename_i hk;rw [h.one hk];have:=h.zl;rw [hk] at this
  match z,this with
  | [a],_=>rfl
 ·rfl
theorem WL.CZ {t e:TypeId} {k:Nat} {z:List Value} [hT:qn P t e k z] {n:Nat} {parts:List (Nat × Operand)} {cs:List Value} (hn:n * k<=16777216)
  (hf:qu (fun i=>some (i * k,k)) ((List.range (n * k)).map fun j=>z.getD (j % k) undef) (parts.map fun x=>(x.1,ev l x.2))=some cs)
  (h:∀ b w',uM w w' b (.cells cs.toArray e)->WL P ops Q rest (put l d (.slice (some ⟨b,0,none⟩) n n)) w') :
  WL P ops Q (⟨d,.buildSlice t n parts.toArray,ty,pos,af,none⟩::rest) l w :=
 WL.val (w':=w.alloc (.cells cs.toArray e)) (by
  have hz:(zeroValue e).run P w=.ok (if k=1 then z.headD undef else .agg z.toArray) w:=by
   haveI:qY P e (if k=1 then z.headD undef else .agg z.toArray):=⟨hT.zero⟩
   exact A6
  have hc:=hT.cells;generalize (if k=1 then z.headD undef else .agg z.toArray:Value)=zv at hz hc;have iq:=yf (fun i=>some (i * k,k)) (parts.map fun x=>(x.1,ev l x.2)) ((List.range (n * k)).map fun j=>z.getD (j % k) undef);rw [hf] at iq
  have BD:¬ (16777216 < n * k):=by omega
  by_cases h0:n * k=0
  ·have h00:n=0:=by
    rcases Nat.mul_eq_zero.1 h0 with h | h
    ·exact h
    ·have:=hT.pos;omega
   subst h00;simp only [Nat.zero_mul,List.range_zero,map_nil] at iq;simp only [execOp,map_toArray];have sr:(Array.range 0)=#[]:=rfl;simp [Instr.buildSlice,run_underlying hT.und,jF hT.siz,sr,iq];rfl
  ·have he:(Array.range (n * k)).map (fun j=>z.toArray[j % z.toArray.size]!)=((List.range (n * k)).map fun j=>z.getD (j % k) undef).toArray:=by
    apply Array.ext';simp only [Array.toList_map,Array.toList_range];apply List.map_congr_left;intro j _;have hk:=hT.pos
    have ak:j % k < z.length:=by rw [hT.zl];exact Nat.mod_lt _ hk
    rw [List.getD_eq_getElem?_getD,fM ak];simp [hT.zl];rw [fM ak];rfl
   rw [<-he] at iq;simp only [execOp,map_toArray];simp [Instr.buildSlice,run_underlying hT.und,jF hT.siz,BD,h0,hz,hc];simp only [size_toArray] at iq;simp at iq;simp [iq]
   rfl) (h _ _ (uM.of w _))
theorem WL.st {x y:Operand} {t:TypeId} {agg:Bool} {k:Nat} [hT:Ty P t agg k] {b o:Nat} {E:TypeId} {cs:Array Value} {v:Value} (hx:ev l x=.pointer (some ⟨b,o,none⟩)) (hy:ev l y=v)
  (hb:w.heap[b]?=some (.cells cs E (0,0))) (hl:v.cells.size=k) (ho:o+k<=cs.size) (L:l8 v.cells.toList=true)
  (h:∀ w',uO w w' b (uA cs o v.cells.toList) E->WL P ops Q rest (put l d undef) w'):WL P ops Q (⟨d,.store t x y,ty,pos,af,none⟩::rest) l w:=by
 obtain ⟨w',hr,hs⟩:=Gw (P:=P) (t:=t) hb hl ho L;exact WL.skp (w':=w') (by simp [execOp,Instr.storeAt,hx,hy,Instr.sureAddr,hr]) (h w' hs)
end
def E7 (P:Program) (f:FuncId):Bool :=
 match P.funcs[f]? with
 | some fn=>fn.name != "runtime.NumGoroutine" && fn.body.isSome
 | none=>false
class aJ (P:Program) (f:FuncId):Prop where
 ok:E7 P f=true
def pn (P:Program) (f:FuncId) (args:List Value) (w:World) (R:Value->World->Prop):Prop :=
 Calls P f args.toArray w fun e w'=>∃ v,e=.returned v/\R v w'
theorem pn.mono {P:Program} {f:FuncId} {args:List Value} {w:World} {R R':Value->World->Prop} (h:pn P f args w R) (hr:∀ v w',R v w'->R' v w'):pn P f args w R' :=
 Calls.mono h fun _ _ ⟨v,he,r⟩=>⟨v,he,hr _ _ r⟩
theorem mF {P:Program} {w:World} {f:FuncId} [h:aJ P f] (args:Array Value):(callFunc f args).run P w=.ok (.enter f args) w:=by
 obtain ⟨h⟩:=h;unfold E7 at h;split at h
 ·rename_i fn hf;simp only [aH,bne_iff_ne,ne_eq] at h
  have I:fn.body.isNone=false:=by cases hb:fn.body <;> simp_all
  simp [callFunc,program,Sem.run,hf,h.1,I];intro hn;simp [hn] at I
 ·cases h
section
variable {P:Program} {Q:mq} {l:List Value} {w:World} {ops:Array Oper} {rest:List Oper} {d:Option Tmp} {ty:TypeId} {pos:String} {af:Array Edge}
theorem WL.calls {op:Op} {f:FuncId} {CB:List Value} (hr:(execOp (ev l) ⟨d,op,ty,pos,af,none⟩).run P w=.ok (.enter f CB.toArray) w) {R:Value->World->Prop}
  (hc:pn P f CB w R) (h:∀ v w',R v w'->WL P ops Q rest (put l d v) w'):WL P ops Q (⟨d,op,ty,pos,af,none⟩::rest) l w:=by
 refine wpList_plain rfl fun K hK=>?_
 simp only [Oper.wp,og,hr,Oper.upon_enter];refine Calls.mono hc ?_;rintro e w' ⟨v,rfl,hv⟩;simp only [pZ];exact hK _ _ (h v w' hv)
theorem WL.call {f:FuncId} [hf:aJ P f] {args:List Operand} {lP:Array TypeId} {CB:List Value} (ha:args.map (ev l)=CB) {R:Value->World->Prop}
  (hc:pn P f CB w R) (h:∀ v w',R v w'->WL P ops Q rest (put l d v) w'):WL P ops Q (⟨d,.call ⟨.value (.func f),args.toArray,lP⟩,ty,pos,af,none⟩::rest) l w :=
 WL.calls (by simp [execOp,resolve,ev,Deferred.ofValue,invoke,mF,ha]) hc h
end
def Gs:Nat->List Value
 | 0=>[]
 | n+1=>undef::Gs n
def frame:List Value->Nat->List Value
 | [],n=>Gs n
 | a::r,n=>a::frame r (n - 1)
theorem Vo (n:Nat):Gs n=List.replicate n undef:=by
 induction n with
 | zero=>rfl
 | succ n ih=>rw [Gs,ih];rfl
theorem O5 (args:List Value) (n:Nat):frame args n=args++List.replicate (n - args.length) undef:=by
 induction args generalizing n with
 | nil=>simp [frame,Vo]
 | cons a r ih=>rw [frame,ih];simp [Nat.sub_sub,Nat.add_comm]
def QC (P:Program) (fn:Func) (R:Value->World->Prop):mq
 | .normal,l,w | .ret,l,w=>∃ v,(results fn l.toArray).run P w=.ok v w/\R v w
 | _,_,_=>False
theorem pn.enter {P:Program} {f:FuncId} {fn:Func} {c:Code} {args:List Value} {w:World} {R:Value->World->Prop} {n:Nat} {l:List Value}
  (hf:P.funcs[f]?=some fn) (hn:fn.ntmps=n) (hb:fn.body=some c) (hl:frame args n=l) (h:W P c (QC P fn R) l w):pn P f args w R:=by
 subst hl;refine calls_of_wp hf hb ?_
 have uW:(args.toArray++Array.replicate (fn.ntmps - args.toArray.size) undef)=(frame args n).toArray:=by
  simp [O5,hn]
 rw [uW];refine wp_mono h ?_;rintro e a w ⟨l,rfl,hq⟩
 cases e <;> simp only [QC] at hq <;> simp only [bodyPost]
 ·obtain ⟨v,hr,hv⟩:=hq;exact ⟨rfl,v,hr,v,rfl,hv⟩
 ·obtain ⟨v,hr,hv⟩:=hq;exact ⟨rfl,v,hr,v,rfl,hv⟩
def Tm (P:Program) (t e k gS:Nat):Bool :=
 (match P.underlying t with | some (.slice e')=>e'==e | _=>false) &&
 (match P.info? e with
  | some i=>(match i.zero with | some z=>z.cells.size==k | none=>false)&&i.size==k&&i.bytes==gS
  | none=>false)&&k != 0
class oZ (P:Program) (t:TypeId) (e:outParam TypeId) (k:outParam Nat) (gS:outParam Nat):Prop where
 is:Tm P t e k gS=true
theorem oZ.parts {P:Program} {t e k gS:Nat} (h:oZ P t e k gS) :
  P.underlying t=some (.slice e)/\(∃ i z,P.info? e=some i/\i.zero=some z/\z.cells.size=k/\i.size=k/\i.bytes=gS)/\0 < k:=by
 obtain ⟨h⟩:=h;simp only [Tm,aH,bne_iff_ne,ne_eq] at h;obtain ⟨⟨L,I⟩,h3⟩:=h;refine ⟨?_,?_,by omega⟩
 ·split at L
  ·rename_i e' hu;rw [hu];simp at L;rw [L]
  ·cases L
 ·split at I
  ·rename_i i hi;simp only [aH,beq_iff_eq] at I;obtain ⟨⟨h4,h5⟩,h6⟩:=I;split at h4
   ·rename_i z hz;exact ⟨i,z,hi,hz,by simpa using h4,h5,h6⟩
   ·cases h4
  ·cases I
abbrev iQ (w:World) (base:Nat) (e k:Nat) (v:Value) (n:Nat) (xs:List Value):Prop:=w.ownsRow base e k v n xs
theorem iQ.nil (w:World) (base e k:Nat):iQ w base e k (.slice none 0 0) 0 []:=World.ownsRow_nil w base e k
theorem iQ.ext {S:Nat->Prop} {w w':World} {base e k:Nat} {v:Value} {n:Nat} {xs:List Value} (h:iQ w base e k v n xs) (hx:Ext S w w') (hs:∀ b,v.ownBlock=some b->¬ S b):iQ w' base e k v n xs:=by
 obtain ⟨L,I⟩:=h;refine ⟨L,?_⟩
 rcases I with I | ⟨g,cap,cur,rfl,hb,hg,r⟩
 ·exact .inl I
 ·exact .inr ⟨g,cap,cur,rfl,hb,hx.blk hg (hs g rfl),r⟩
theorem iQ.lt {w:World} {base e k:Nat} {v:Value} {n:Nat} {xs:List Value} (h:iQ w base e k v n xs) {b:Nat} (hv:v.ownBlock=some b):base<=b/\b < w.heap.size:=by
 obtain ⟨L,I⟩:=h
 rcases I with ⟨rfl,_⟩ | ⟨g,cap,cur,rfl,hb,hg,r⟩
 ·cases hv
 ·simp only [Value.ownBlock,Option.some.injEq] at hv;subst hv;exact ⟨hb,sy hg⟩
theorem iQ.shape {w:World} {base e k:Nat} {v:Value} {n:Nat} {xs:List Value} (h:iQ w base e k v n xs):∃ a c,v=.slice a n c:=by
 obtain ⟨L,I⟩:=h
 rcases I with ⟨rfl,rfl⟩ | ⟨g,cap,cur,rfl,_⟩
 ·exact ⟨_,_,rfl⟩
 ·exact ⟨_,_,rfl⟩
theorem iQ.base {w:World} {base QB e k:Nat} {v:Value} {n:Nat} {xs:List Value} (h:iQ w base e k v n xs) (hb:QB<=base):iQ w QB e k v n xs:=by
 obtain ⟨L,I⟩:=h;refine ⟨L,?_⟩
 rcases I with I | ⟨g,cap,cur,rfl,bC,r⟩
 ·exact .inl I
 ·exact .inr ⟨g,cap,cur,rfl,jZ hb bC,r⟩
theorem iQ.cells {w:World} {base e k:Nat} {v:Value} {n:Nat} {xs:List Value} (h:iQ w base e k v n xs) :
  xs.length=n * k/\(xs≠[]->∃ b c,v=.slice (some ⟨b,0,none⟩) n c/\base<=b/\b < w.heap.size/\∀ j u,xs[j]?=some u->w.cell? ⟨b,j,none⟩=some u):=by
 obtain ⟨L,I⟩:=h;refine ⟨L,fun cr=>?_⟩
 rcases I with ⟨rfl,rfl⟩ | ⟨g,cap,cur,rfl,hb,hg,hn,hm,dE,ht⟩
 ·simp at L;exact absurd L cr
 ·refine ⟨g,cap,rfl,hb,sy hg,fun j u hj=>?_⟩;rw [cell_of_row w g j cur e (0,0) hg];rw [<-ht] at hj;rw [getElem?_take] at hj;split at hj
  ·simpa using hj
  ·cases hj
theorem iQ.Vd {w w':World} {b e k n:Nat} {cs:List Value} (h:uM w w' b (.cells cs.toArray e)) (hl:cs.length=n * k) (hm:n<=maxLen):iQ w' w.heap.size e k (.slice (some ⟨b,0,none⟩) n n) n cs :=
 ⟨hl,.inr ⟨b,n,cs.toArray,rfl,by rw [h.fresh];exact aD _,h.blk,aD _,hm,by simpa using hl,by simp [<-hl]⟩⟩
section
variable {P:Program} {Q:mq} {l:List Value} {w:World} {ops:Array Oper} {rest:List Oper} {d:Option Tmp} {ty:TypeId} {pos:String} {af:Array Edge}
theorem WL.app {s x:Operand} {t e k gS:Nat} [hT:oZ P t e k gS] {base n m c b o:Nat} {xs news:List Value} {v:Value} (hs:ev l s=v) (im:iQ w base e k v n xs)
  (hx:ev l x=.slice (some ⟨b,o,none⟩) m c) (hl:news.length=m * k) (Q0:∀ j u,news[j]?=some u->w.cell? ⟨b,o+j,none⟩=some u) (L:l8 news=true)
  (TS:n+m<=9223372036854775807) (yr:(n+m) * gS<=140737488355328) (Bx:base<=w.heap.size)
  (h:∀ v' w',iQ w' base e k v' (n+m) (xs++news)->Ext (fun b=>v.ownBlock=some b) w w'->(∀ b,v'.ownBlock=some b->v.ownBlock=some b\/w.heap.size<=b)->(Ext ic w w'\/v'.ownBlock=v.ownBlock)->WL P ops Q rest (put l d v') w') :
  WL P ops Q (⟨d,.call ⟨.builtin .append,#[s,x],#[t,t]⟩,ty,pos,af,none⟩::rest) l w:=by
 obtain ⟨hu,⟨i,z,hi,hz,MU,dE,yo⟩,hk⟩:=hT.parts;obtain ⟨v',w',hr,I,h3,h4⟩:=run_append_own (P:=P) w base t ty e i z k gS hu hi hz dE yo MU hk v n xs im ⟨b,o,none⟩ m c news hl
  (fun j u hj=>by rw [qp];exact Q0 j u hj) (by simpa [l8] using L) (by simpa [maxLen] using TS) yr Bx
 have iw:Ext (fun b=>v.ownBlock=some b) w w':=⟨h3.os,h3.tape,h3.output,h3.size,fun j hj hn=>h3.block j hj fun he=>hn he.symm⟩
 have yz:∀ j u,news[j]?=some u->w.cell? ((⟨b,o,none⟩:Addr).add j)=some u:=fun j u hj=>by rw [qp];exact Q0 j u hj
 have kl:news.length=m * i.size:=by rw [dE];exact hl
 have Pc:(n+m) * i.bytes<=140737488355328:=by rw [yo];exact yr
 refine WL.val (v:=v') (w':=w') (by simp [execOp,resolve,invoke,builtin,hs,hx,hr]) (h v' w' I iw ?_ ?_)
 ·intro b' bC;have BH:=im.2
  rcases BH with ⟨rfl,rfl⟩ | ⟨g,cap,cur,rfl,pA,hg,rf,zX,fT,BL⟩
  ·by_cases hm:m=0
   ·have:=h4.2 ⟨rfl,hm⟩;subst this;cases bC
   ·have ea:=run_append_nil (P:=P) w t ty e i z hu hi hz ⟨b,o,none⟩ m c news kl yz (by omega) (by omega) (by simp only [cL] at Pc;omega);rw [hr] at ea;cases ea;simp only [Value.ownBlock,Option.some.injEq] at bC;exact .inr (by omega)
  ·by_cases hroom:n+m<=cap
   ·have ea:=run_append_room (P:=P) w t ty e i hu hi g n cap cur hg ⟨b,o,none⟩ m c news kl yz (by simpa [l8] using L) hroom
     (by rw [kl,fT,<-Nat.add_mul,dE];exact qW _ hroom)
    rw [hr] at ea;cases ea;exact .inl bC
   ·have holds:∀ j u,xs[j]?=some u->w.cell? ((⟨g,0,none⟩:Addr).add j)=some u:=World.ownsRow.cells (g:=g) im rfl;have ea:=run_append_grow (P:=P) w t ty e i z hu hi hz ⟨g,0,none⟩ n cap xs (by rw [dE];exact im.1) holds ⟨b,o,none⟩ m c news kl yz (by omega) (by omega) (growslice_fits (by omega) Pc);rw [hr] at ea;cases ea;simp only [Value.ownBlock,Option.some.injEq] at bC;exact .inr (by omega)
 ·have BH:=im.2
  rcases BH with ⟨rfl,rfl⟩ | ⟨g,cap,cur,rfl,pA,hg,rf,zX,fT,BL⟩
  ·exact .inl (iw.mono fun k _ hk=>by cases hk)
  ·by_cases hroom:n+m<=cap
   ·have ea:=run_append_room (P:=P) w t ty e i hu hi g n cap cur hg ⟨b,o,none⟩ m c news kl yz (by simpa [l8] using L) hroom
     (by rw [kl,fT,<-Nat.add_mul,dE];exact qW _ hroom)
    rw [hr] at ea;cases ea;exact .inr rfl
   ·have holds:∀ j u,xs[j]?=some u->w.cell? ((⟨g,0,none⟩:Addr).add j)=some u:=World.ownsRow.cells (g:=g) im rfl;have ea:=run_append_grow (P:=P) w t ty e i z hu hi hz ⟨g,0,none⟩ n cap xs (by rw [dE];exact im.1) holds ⟨b,o,none⟩ m c news kl yz (by omega) (by omega) (growslice_fits (by omega) Pc);rw [hr] at ea;cases ea;exact .inl ⟨rfl,rfl,rfl,by simp,fun k hk _=>Below.heap_alloc _ _ _ (by simpa using hk)⟩
theorem WL.push {x s:Operand} {t e k gS:Nat} {z:List Value} [hT:oZ P t e k gS] [hZ:qn P t e k z] {base n:Nat} {xs vs:List Value} {v val:Value} {d1:Tmp} {N6:TypeId} {Gr:String} {LA:Array Edge}
  (hx:ev l x=val) (hs:∀ u,ev (put l (some d1) u) s=v) (hd:∀ u,ev (put l (some d1) u) (.tmp d1)=u) (hc:val.cells=vs.toArray) (hk:vs.length=k) (L:l8 vs=true)
  (im:iQ w base e k v n xs) (TS:n+1<=9223372036854775807) (yr:(n+1) * gS<=140737488355328) (aai:k<=16777216) (Bx:base<=w.heap.size)
  (h:∀ u v' w',iQ w' base e k v' (n+1) (xs++vs)->Ext (fun b=>v.ownBlock=some b) w w'->(∀ b,v'.ownBlock=some b->v.ownBlock=some b\/w.heap.size<=b)->(Ext ic w w'\/v'.ownBlock=v.ownBlock)->WL P ops Q rest (put (put l (some d1) u) d v') w') :
  WL P ops Q (⟨some d1,.buildSlice t 1 #[(0,x)],N6,Gr,LA,none⟩::⟨d,.call ⟨.builtin .append,#[s,.tmp d1],#[t,t]⟩,ty,pos,af,none⟩::rest) l w:=by
 have hkp:=hZ.pos
 have dE:val.cells.size=k:=by rw [hc];simpa using hk
 have bY:∀ (vs cs:List Value),vs.length=cs.length->iF cs 0 vs=vs:=by
  have gen:∀ (vs pre cs:List Value),vs.length=cs.length->iF (pre++cs) pre.length vs=pre++vs:=by
   intro vs
   induction vs with
   | nil=>intro pre cs hl;cases cs <;> simp_all [iF]
   | cons a r ih =>
    intro pre cs hl
    cases cs with
    | nil=>simp at hl
    | cons c cs =>
     have hu:fC (pre++c::cs) pre.length a=pre++a::cs:=by
      clear hl
      induction pre with
      | nil=>rfl
      | cons p pre ihp=>simp [fC,ihp]
     rw [iF,hu];have:=ih (pre++[a]) cs (by simpa using hl);simpa using this
  intro vs cs hl;exact gen vs [] cs hl
 have Wd:qu (fun i=>some (i * k,k)) ((List.range (1 * k)).map fun j=>z.getD (j % k) undef) ([((0:Nat),x)].map fun y=>(y.1,ev l y.2))=some vs:=by
  simp only [List.map_cons,map_nil,qu,hx,dE];simp [hk,hc];exact bY vs _ (by simpa using hk)
 refine WL.CZ (n:=1) (parts:=[(0,x)]) (by omega) Wd ?_;intro b2 w2 bV;have Wj:iQ w2 base e k v n xs:=im.ext bV.ext (fun _ _ h=>h);refine WL.app (base:=base) (v:=v) (n:=n) (xs:=xs) (news:=vs) (m:=1) (hs _) Wj (hd _) (by omega) (fun j u hj=>?_) L TS yr (jZ Bx bV.ext.size) ?_
 ·rw [cL];exact LH bV.blk (by simpa using hj)
 ·intro v' w3 ho MQ hb vU;refine h _ v' w3 ho ((bV.ext.mono (fun _ _ h=>h.elim)).trans MQ) (fun b bC=>?_) (vU.imp (fun h5=>bV.ext.trans h5) id)
  rcases hb b bC with h4 | h4
  ·exact .inl h4
  ·exact .inr (jZ bV.ext.size h4)
end
section
variable {P:Program} {ops:Array Oper} {S:Nat->Prop}
end
def sN:List Oper->Nat->Oper
 | [],_=>default
 | o::_,0=>o
 | _::r,n+1=>sN r n
theorem SC (ol:List Oper) (i:Nat) (o:Oper) (h:ol.toArray[i]?=some o):sN ol i=o:=by
 have h':ol[i]?=some o:=by simpa using h
 clear h
 induction ol generalizing i with
 | nil=>simp at h'
 | cons x r ih =>
  cases i with
  | zero=>simpa [sN] using h'
  | succ i=>exact ih i (by simpa using h')
section
variable {P:Program} {ops:Array Oper} {S:Nat->Prop} {Q:mq} {l:List Value} {w:World} {r:List (Oper × Bool)} {d:Option Tmp} {op:Op} {ty:TypeId} {pos:String} {af:Array Edge}
end
def KY:IntKind->IntKind->Bool
 | .i8,.i8 | .i16,.i16 | .i32,.i32 | .i64,.i64 | .u8,.u8 | .u16,.u16 | .u32,.u32 | .u64,.u64=>true
 | _,_=>false
theorem P3 {a b:IntKind} (h:KY a b=true):a=b:=by cases a <;> cases b <;> first | rfl | cases h
def Kd (op:BinOp) (a b:Int):Option Value :=
 match op with
 | .eql=>some (.bool (a==b))
 | .neq=>some (.bool (a != b))
 | .lss=>some (.bool (decide (a < b)))
 | .leq=>some (.bool (decide (a<=b)))
 | .gtr=>some (.bool (decide (b < a)))
 | .geq=>some (.bool (decide (b<=a)))
 | _=>none
def Kc (op:BinOp):Value->Value->Option Value
 | .int k a,.int k' b=>match KY k k' with
  | true=>Kd op a b
  | false=>none
 | _,_=>none
def w6 (c:Op) (x:Value):Option Value :=
 match c with
 | .nilCheck _=>match x with
  | .pointer (some a)=>some (.pointer (some a))
  | _=>none
 | .unOp .not _ _=>match x with
  | .bool b=>some (.bool (!b))
  | _=>none
 | .extract _ i=>match x with
  | .tuple vs=>vs[i]?
  | _=>none
 | _=>none
def go (ρ:Operand->Value) (o:Op):Option Value :=
 match o with
 | .move x=>some (ρ x)
 | .assign x=>some (ρ x)
 | .makeFunc fn f c=>some (.func fn (f.map ρ) (c.map ρ))
 | .binOp op _ x y _=>Kc op (ρ x) (ρ y)
 | .nilCheck x=>w6 o (ρ x)
 | .unOp _ _ x=>w6 o (ρ x)
 | .extract x _=>w6 o (ρ x)
 | _=>none
section
variable {P:Program} {l:List Value} {w:World}
theorem Sh {o:Op} {v:Value} (h:go (ev l) o=some v):eS P l w o v:=by
 unfold go at h;split at h
 ·cases h;exact R.mv
 ·cases h;exact R.vE
 ·cases h;exact R.CY
 ·rename_i op t x y t';unfold Kc at h;split at h
  ·rename_i k a k' b hx hy;split at h
   ·rename_i hk;have:=P3 hk;subst this;unfold Kd at h
    split at h <;> first | (cases h;done) | skip
    ·cases h;exact R.eq hx hy
    ·cases h;exact R.ne hx hy
    ·cases h;exact R.lt hx hy
    ·cases h;exact R.le hx hy
    ·cases h;exact R.gt' hx hy
    ·cases h;exact R.ge hx hy
   ·cases h
  ·cases h
 ·unfold w6 at h;simp only at h;split at h
  ·rename_i a hx;cases h;exact R.KP hx
  ·cases h
 ·rename_i op t x;unfold w6 at h
  cases op <;> simp only at h <;> first | (cases h;done) | skip
  split at h
  ·rename_i b hx;cases h;exact R.not hx
  ·cases h
 ·unfold w6 at h;simp only at h;split at h
  ·rename_i vs hx;exact R.extract hx h
  ·cases h
 ·cases h
theorem R.Aw {x y:Operand} {t t':TypeId} {a b:Nat} (hx:ev l x=ii a) (hy:ev l y=ii b) (hb:a+b<=9223372036854775807):eS P l w (.binOp .add t x y t') (ii ((a+b:Nat):Int)):=R.add hx hy (by omega) (by omega)
theorem R.xX {x y:Operand} {t t':TypeId} {a:Nat} (hx:ev l x=ii a) (hy:ev l y=ii 1) (hb:a+1<=9223372036854775807):eS P l w (.binOp .add t x y t') (ii ((a+1:Nat):Int)):=R.add hx hy (by omega) (by omega)
theorem R.Rq {c a b:Operand} {t:Bool} (hc:ev l c=.bool t) (ht:t=true):eS P l w (.pick c a b) (ev l a):=by
 subst ht;exact R.pick hc
theorem R.Rp {c a b:Operand} {t:Bool} (hc:ev l c=.bool t) (ht:t=false):eS P l w (.pick c a b) (ev l b):=by
 subst ht;exact R.pick hc
end
section
variable {P:Program} {Q:mq} {l:List Value} {w:World} {ops:Array Oper} {rest:List Oper} {d:Option Tmp} {op:Op} {ty:TypeId} {pos:String} {af:Array Edge} {v:Value} {S:Nat->Prop} {r:List (Oper × Bool)}
end
def vm (ops:List Oper) (l:List Value):Option (Nat × Bool)->Bool
 | none=>true
 | some (j,b)=>match (sN ops j).dst with
  | some t=>match nth l t with
   | .bool c=>c==b
   | _=>false
  | none=>false
def jj {α:Type}:List α->Nat->Bool
 | [],_=>false
 | _::_,0=>true
 | _::r,n+1=>jj r n
theorem BP {α:Type}:∀ {l:List α} {n:Nat},jj l n=true->n < l.length
 | [],_,h=>by cases h
 | _::_,0,_=>by simp
 | _::r,n+1,h=>by have:=BP (l:=r) (n:=n) h;simp;omega
def DX:Option (Nat × Bool)->List Oper->List Value->Bool
 | some (j,_),ops,l=>jj ops j&&(match (sN ops j).dst with
  | some t=>jj l t&&(match nth l t with | .bool _=>true | .tuple _=>true | _=>false)
  | none=>false)
 | none,_,_=>true
theorem Jd (ol:List Oper) (j:Nat) (h:j < ol.length):ol.toArray[j]?=some (sN ol j):=by
 obtain ⟨o,ho⟩:∃ o,ol.toArray[j]?=some o:=⟨ol[j],by simp [h]⟩;rw [ho,SC ol j o ho]
theorem Vc (l:List Value) (t:Nat) (h:t < l.length):l[t]?=some (nth l t):=by
 induction l generalizing t with
 | nil=>simp at h
 | cons x l ih=>cases t with
  | zero=>rfl
  | succ t=>simpa [nth] using ih t (by simpa using h)
theorem wJ {ops:Array Oper} {d:Option Tmp} {op:Op} {ty:TypeId} {pos:String} {af:Array Edge} {gd:Option (Nat × Bool)} {l:List Value} (hb:DX gd ops.toList l=true) :
  Region.wanted ⟨d,op,ty,pos,af,gd⟩ (yielded ops (act l).tmps)=vm ops.toList l gd:=by
 cases gd with
 | none=>rfl
 | some x =>
  obtain ⟨j,b⟩:=x;simp only [DX,aH] at hb;obtain ⟨L,I⟩:=hb;have hj:=Jd ops.toList j (BP L);simp only [Array.toArray_toList] at hj;simp only [Region.wanted,vm,yielded,hj,Option.bind_some]
  cases hd:(sN ops.toList j).dst with
  | none=>rw [hd] at I;cases I
  | some t =>
   rw [hd] at I;simp only [aH] at I;have ht:=Vc l t (BP I.1);simp only [Option.bind_some,act]
   have FU:l.toArray[t]?=some (nth l t):=by simpa using ht
   rw [FU]
   cases hv:nth l t <;> rw [hv] at I <;> simp_all
def gv (ops:List Oper) (l:List Value) (gd:Nat × Bool):Option Bool :=
 match (sN ops gd.1).dst with
 | some t=>match nth l t with
  | .bool c=>some c
  | _=>none
 | none=>none
theorem Of {ops:List Oper} {l:List Value} {gd:Nat × Bool} {c:Bool} (hv:gv ops l gd=some c) (hc:c=gd.2):vm ops l (some gd)=true:=by
 obtain ⟨j,b⟩:=gd;unfold gv at hv;unfold vm;simp only at hv hc |-;split at hv
 ·rename_i t ht;split at hv
  ·rename_i c' dP;cases hv;simp [hc]
  ·cases hv
 ·cases hv
theorem Oe {ops:List Oper} {l:List Value} {gd:Nat × Bool} {c:Bool} (hv:gv ops l gd=some c) (hc:c=!gd.2):vm ops l (some gd)=false:=by
 obtain ⟨j,b⟩:=gd;unfold gv at hv;unfold vm;simp only at hv hc |-;split at hv
 ·rename_i t ht;split at hv
  ·rename_i c' dP;cases hv;cases b <;> simp_all
  ·cases hv
 ·cases hv
theorem Og {ops:List Oper} {l:List Value} {gd:Nat × Bool} (hv:gv ops l gd=none):vm ops l (some gd)=false:=by
 obtain ⟨j,b⟩:=gd;unfold gv at hv;unfold vm;simp only at hv |-;split at hv
 ·rename_i t ht;split at hv
  ·cases hv
  ·first | rfl | (split <;> simp_all)
 ·rfl
section
variable {P:Program} {Q:mq} {l:List Value} {w:World} {ops:Array Oper} {rest:List Oper} {d:Option Tmp} {op:Op} {ty:TypeId} {pos:String} {af:Array Edge} {v:Value} {S:Nat->Prop} {r:List (Oper × Bool)} {gd:Nat × Bool}
theorem GT {c:Bool} (hb:DX (some gd) ops.toList l=true) (hv:gv ops.toList l gd=some c) (hc:c=gd.2) (h:WL P ops Q (⟨d,op,ty,pos,af,none⟩::rest) l w):WL P ops Q (⟨d,op,ty,pos,af,some gd⟩::rest) l w:=WL.gt ((wJ hb).trans (Of hv hc)) h
theorem GF {c:Bool} (hb:DX (some gd) ops.toList l=true) (hv:gv ops.toList l gd=some c) (hc:c=!gd.2) (h:WL P ops Q rest (put l d undef) w):WL P ops Q (⟨d,op,ty,pos,af,some gd⟩::rest) l w:=WL.gf ((wJ hb).trans (Oe hv hc)) h
theorem GU (hb:DX (some gd) ops.toList l=true) (hv:gv ops.toList l gd=none) (h:WL P ops Q rest (put l d undef) w):WL P ops Q (⟨d,op,ty,pos,af,some gd⟩::rest) l w:=WL.gf ((wJ hb).trans (Og hv)) h
end
def KS:Value->Bool
 | .agg _=>false
 | .tuple _=>false
 | _=>true
theorem xt {v:Value} (h:KS v=true):v.cells=#[v]/\v.oneCell'=true:=by
 cases v <;> first | exact ⟨rfl,rfl⟩ | cases h
end Go.Xw
namespace Go.Xg
open Go.RowKit Go.Xw
inductive GV where
 | v (x:Value)
 | U
 | agg (cs:List GV)
 | tup (cs:List GV)
 | sl (k:Nat) (rows:List (List GV))
 | box (cs:List GV) (o:Nat)
 | loc (i o:Nat)
 | vec (i n:Nat)
 | vp (i n k idx off:Nat)
 | arr (i o n:Nat)
 | fn (f:Fn) (first cap:List GV)
open GV (U)
abbrev Fz:=Nat->Nat->Option GV
inductive Bk where
 | no
 | fix (b:Nat)
 | gr (h:Value) (m:Nat)
def Bk.blk:Bk->Option Nat
 | .no=>none
 | .fix b=>some b
 | .gr h _=>h.ownBlock
abbrev Bt:=Nat->Bk
def cU (K K':Fz):Prop:=∀ b o g,K b o=some g->K' b o=some g
def ru:Bk->Bk->Prop
 | .no,_=>True
 | .fix b,x=>x=.fix b
 | .gr h m,x=>∃ h' m',x=.gr h' m'/\m<=m'/\(m'=m->h'=h)
def dp (β bN:Bt):Prop:=∀ i,ru (β i) (bN i)
theorem cU.refl (K:Fz):cU K K:=fun _ _ _ h=>h
theorem cU.trans {a b c:Fz} (h:cU a b) (k:cU b c):cU a c:=fun x y z hz=>k x y z (h x y z hz)
theorem ru.refl (x:Bk):ru x x:=by cases x with | no=>trivial | fix b=>rfl | gr h m=>exact ⟨h,m,rfl,aD _,fun _=>rfl⟩
theorem ru.trans {a b c:Bk} (h:ru a b) (k:ru b c):ru a c:=by
 cases a with
 | no=>trivial
 | fix x=>cases h;exact k
 | gr x m =>
  obtain ⟨x',m',rfl,L,I⟩:=h;obtain ⟨x2,m2,rfl,h3,h4⟩:=k
  exact ⟨x2,m2,rfl,jZ L h3,fun he=>by
   have:m'=m:=by omega
   rw [h4 (by omega),I this]⟩
theorem dp.refl (β:Bt):dp β β:=fun i=>ru.refl _
theorem dp.trans {a b c:Bt} (h:dp a b) (k:dp b c):dp a c:=fun i=>(h i).trans (k i)
inductive Rel (K:Fz) (β:Bt):Value->GV->Prop
 | v (x:Value):Rel K β x (.v x)
 | U (x:Value):Rel K β x .U
 | agg (vs:List Value) (cs:List GV) (hl:vs.length=cs.length) (h:∀ (i:Nat) v g,vs[i]?=some v->cs[i]?=some g->Rel K β v g):Rel K β (.agg vs.toArray) (.agg cs)
 | tup (vs:List Value) (cs:List GV) (hl:vs.length=cs.length) (h:∀ (i:Nat) v g,vs[i]?=some v->cs[i]?=some g->Rel K β v g):Rel K β (.tuple vs.toArray) (.tup cs)
 | sl0 (a:Option Addr) (c k:Nat):Rel K β (.slice a 0 c) (.sl k [])
 | sl (b o c k:Nat) (rows:List (List GV)) (h:∀ (i:Nat) r,rows[i]?=some r->r.length=k/\∀ (j:Nat) g,r[j]?=some g->K b (o+i * k+j)=some g) (hc:rows.length<=c):Rel K β (.slice (some ⟨b,o,none⟩) rows.length c) (.sl k rows)
 | box (b o' o:Nat) (cs:List GV) (h:∀ (j:Nat) g,cs[j]?=some g->K b (o'+j)=some g):Rel K β (.pointer (some ⟨b,o'+o,none⟩)) (.box cs o)
 | loc (i o b:Nat) (h:β i=.fix b):Rel K β (.pointer (some ⟨b,o,none⟩)) (.loc i o)
 | vec (i n:Nat) (a:Option Addr) (c:Nat) (h:∃ h m,β i=.gr h m/\n<=m/\(m=n->.slice a n c=h)):Rel K β (.slice a n c) (.vec i n)
 | vp (i n k idx off:Nat) (x:Value) (h:∃ h m,β i=.gr h m/\n<=m/\(m=n->∃ b,h.ownBlock=some b/\x=.pointer (some ⟨b,idx * k+off,none⟩))):Rel K β x (.vp i n k idx off)
 | arr (i o n b c:Nat) (h:β i=.fix b):Rel K β (.slice (some ⟨b,o,none⟩) n c) (.arr i o n)
 | fn (f:Fn) (xs ys:List Value) (first cap:List GV) (hl:xs.length=first.length) (kl:ys.length=cap.length) (h:∀ (i:Nat) v g,xs[i]?=some v->first[i]?=some g->Rel K β v g)
   (h':∀ (i:Nat) v g,ys[i]?=some v->cap[i]?=some g->Rel K β v g):Rel K β (.func f xs.toArray ys.toArray) (.fn f first cap)
theorem Rel.mono {K K':Fz} {β bN:Bt} {x:Value} {g:GV} (h:Rel K β x g) (hk:cU K K') (hb:dp β bN):Rel K' bN x g:=by
 induction h with
 | v x=>exact .v x
 | U x=>exact .U x
 | agg vs cs hl h ih=>exact .agg vs cs hl ih
 | tup vs cs hl h ih=>exact .tup vs cs hl ih
 | sl0 a c k=>exact .sl0 a c k
 | sl b o c k rows h hc=>exact .sl b o c k rows (fun i r hr=>⟨(h i r hr).1,fun j g hg=>hk _ _ _ ((h i r hr).2 j g hg)⟩) hc
 | box b o' o cs h=>exact .box b o' o cs fun j g hg=>hk _ _ _ (h j g hg)
 | loc i o b h=>exact .loc i o b (by have:=hb i;rw [h] at this;exact this)
 | vec i n a c h =>
  obtain ⟨h0,m,L,I,h3⟩:=h;have h4:=hb i;rw [L] at h4;obtain ⟨h',m',h5,h6,h7⟩:=h4;exact .vec i n a c ⟨h',m',h5,by omega,fun he=>by rw [h7 (by omega)];exact h3 (by omega)⟩
 | vp i n k idx off x h =>
  obtain ⟨h0,m,L,I,h3⟩:=h;have h4:=hb i;rw [L] at h4;obtain ⟨h',m',h5,h6,h7⟩:=h4;exact .vp i n k idx off x ⟨h',m',h5,by omega,fun he=>by rw [h7 (by omega)];exact h3 (by omega)⟩
 | arr i o n b c h=>exact .arr i o n b c (by have:=hb i;rw [h] at this;exact this)
 | fn f xs ys first cap hl kl h h' ih ih'=>exact .fn f xs ys first cap hl kl ih ih'
def GV.pc:GV->Bool
 | .v _=>true
 | .sl _ _=>true
 | .box _ _=>true
 | _=>false
theorem Rel.pc {K:Fz} {β bN:Bt} {x:Value} {g:GV} (h:Rel K β x g) (hp:g.pc=true):Rel K bN x g:=by
 cases h <;> first | (cases hp;done) | skip
 ·exact .v _
 ·exact .sl0 _ _ _
 ·rename_i h hc;exact .sl _ _ _ _ _ h hc
 ·rename_i h;exact .box _ _ _ _ h
def GV.one:GV->Bool
 | .v x=>KS x
 | .U=>false
 | .agg _=>false
 | .tup _=>false
 | .vp _ _ _ _ _=>false
 | _=>true
theorem Rel.one {K:Fz} {β:Bt} {x:Value} {g:GV} (h:Rel K β x g) (ho:g.one=true):KS x=true:=by
 cases h <;> first | exact ho | rfl | (cases ho;done)
abbrev bh (K:Fz) (β:Bt) (vs:List Value) (gs:List GV):Prop:=vs.length=gs.length/\∀ (i:Nat) v g,vs[i]?=some v->gs[i]?=some g->Rel K β v g
theorem bh.mono {K K':Fz} {β bN:Bt} {vs:List Value} {gs:List GV} (h:bh K β vs gs) (hk:cU K K') (hb:dp β bN):bh K' bN vs gs:=⟨h.1,fun i v g L I=>(h.2 i v g L I).mono hk hb⟩
theorem bh.nil {K:Fz} {β:Bt}:bh K β [] []:=⟨rfl,fun i v g h=>by simp at h⟩
theorem bh.cons {K:Fz} {β:Bt} {v:Value} {g:GV} {vs:List Value} {gs:List GV} (h:Rel K β v g) (hs:bh K β vs gs):bh K β (v::vs) (g::gs):=by
 refine ⟨by simp [hs.1],fun i x y L I=>?_⟩
 cases i with
 | zero=>cases L;cases I;exact h
 | succ i=>exact hs.2 i x y L I
theorem bh.pI {K:Fz} {β:Bt} {v:Value} {g:GV} {vs:List Value} {gs:List GV} (h:bh K β (v::vs) (g::gs)):Rel K β v g/\bh K β vs gs :=
 ⟨h.2 0 v g rfl rfl,by simpa using h.1,fun i x y L I=>h.2 (i+1) x y L I⟩
theorem bh.app {K:Fz} {β:Bt} {vs us:List Value} {gs hs:List GV} (h:bh K β vs gs) (k:bh K β us hs):bh K β (vs++us) (gs++hs):=by
 induction vs generalizing gs with
 | nil =>
  have:gs=[]:=by have:=h.1;simp at this;exact gJ this.symm
  subst this;exact k
 | cons v vs ih =>
  cases gs with
  | nil=>have:=h.1;simp at this
  | cons g gs=>obtain ⟨L,I⟩:=h.pI;exact .cons L (ih I)
theorem bh.at {K:Fz} {β:Bt} {vs:List Value} {gs:List GV} (h:bh K β vs gs) {i:Nat} {g:GV} (hg:gs[i]?=some g):∃ v,vs[i]?=some v/\Rel K β v g:=by
 have hi:i < vs.length:=by rw [h.1];exact (bp hg).1
 exact ⟨vs[i],by simp [hi],h.2 i _ g (by simp [hi]) hg⟩
theorem bh.take {K:Fz} {β:Bt} {vs:List Value} {gs:List GV} (h:bh K β vs gs) (n:Nat):bh K β (vs.take n) (gs.take n):=by
 refine ⟨by simp [h.1],fun i x y L I=>?_⟩;rw [getElem?_take] at L I;split at L
 ·rename_i hi;rw [ab hi] at I;exact h.2 i x y L I
 ·cases L
theorem bh.drop {K:Fz} {β:Bt} {vs:List Value} {gs:List GV} (h:bh K β vs gs) (n:Nat):bh K β (vs.drop n) (gs.drop n):=by
 refine ⟨by simp [h.1],fun i x y L I=>?_⟩;rw [getElem?_drop] at L I;exact h.2 _ x y L I
def cB:List GV->Nat->GV
 | [],_=>.U
 | g::_,0=>g
 | _::l,n+1=>cB l n
def bo:List GV->Nat->GV->List GV
 | [],_,_=>[]
 | _::l,0,g=>g::l
 | x::l,n+1,g=>x::bo l n g
def ba (l:List GV):Operand->GV
 | .tmp t=>cB l t
 | .const v=>.v v
 | .global g=>.v (.pointer (some ⟨g,0,none⟩))
 | .func f=>.v (.func (.func f) #[] #[])
def bx (l:List GV) (d:Option Tmp) (g:GV):List GV:=match d with | some d=>bo l d g | none=>l
inductive FR (K:Fz) (β:Bt):List GV->List Value->Prop
 | nil:FR K β [] []
 | cons {g:GV} {v:Value} {gs:List GV} {vs:List Value} (h:Rel K β v g) (t:FR K β gs vs):FR K β (g::gs) (v::vs)
theorem FR.mono {K K':Fz} {β bN:Bt} {gs:List GV} {vs:List Value} (h:FR K β gs vs) (hk:cU K K') (hb:dp β bN):FR K' bN gs vs:=by
 induction h with
 | nil=>exact .nil
 | cons h t ih=>exact .cons (h.mono hk hb) ih
theorem FR.nth {K:Fz} {β:Bt} {gs:List GV} {vs:List Value} (h:FR K β gs vs) (t:Nat):Rel K β (nth vs t) (cB gs t):=by
 induction h generalizing t with
 | nil=>exact .U _
 | cons h _ ih=>cases t with | zero=>exact h | succ t=>exact ih t
theorem FR.ev {K:Fz} {β:Bt} {gs:List GV} {vs:List Value} (h:FR K β gs vs) (x:Operand):Rel K β (ev vs x) (ba gs x):=by
 cases x with
 | tmp t=>exact h.nth t
 | const v=>exact .v _
 | global g=>exact .v _
 | func f=>exact .v _
theorem FR.fC {K:Fz} {β:Bt} {gs:List GV} {vs:List Value} (h:FR K β gs vs) (t:Nat) {v:Value} {g:GV} (hv:Rel K β v g):FR K β (bo gs t g) (fC vs t v):=by
 induction h generalizing t with
 | nil=>exact .nil
 | cons h ht ih=>cases t with | zero=>exact .cons hv ht | succ t=>exact .cons h (ih t)
theorem FR.put {K:Fz} {β:Bt} {gs:List GV} {vs:List Value} (h:FR K β gs vs) (d:Option Tmp) {v:Value} {g:GV} (hv:Rel K β v g):FR K β (bx gs d g) (put vs d v):=by
 cases d with | none=>exact h | some d=>exact h.fC d hv
theorem FR.args {K:Fz} {β:Bt} {gs:List GV} {vs:List Value} (h:FR K β gs vs) (xs:List Operand):bh K β (xs.map (Xw.ev vs)) (xs.map (ba gs)):=by
 induction xs with
 | nil=>exact .nil
 | cons x xs ih=>exact .cons (h.ev x) ih
inductive Ob where
 | gone
 | box (E:TypeId) (cs:List GV)
 | vec (E:TypeId) (k fz:Nat) (rows:List (List GV))
 | vech (E:TypeId) (k:Nat) (rows:List (List GV)) (x:Value)
 | lost
def kC (K:Fz) (w:World):Prop:=∀ b o g,K b o=some g->g.pc=true/\∃ v,gq w.heap b o=some v/\Rel K (fun _=>.no) v g
def gX (k:Nat) (rows:List (List GV)):Prop:=∀ r∈rows,r.length=k/\∀ g∈r,g.pc=true
def la (K:Fz) (β:Bt) (w:World) (i:Nat):Ob->Prop
 | .gone=>β i=.no
 | .box E cs=>∃ b vs,β i=.fix b/\w.heap[b]?=some (.cells vs.toArray E (0,0))/\bh K β vs cs/\∀ o,K b o=none
 | .vec E k fz rows=>∃ h xs,β i=.gr h rows.length/\iQ w 0 E k h rows.length xs/\bh K β xs rows.flatten/\gX k rows /\
   (∀ b,h.ownBlock=some b->(∀ o,fz * k<=o->K b o=none)/\∀ o g,o < fz * k->rows.flatten[o]?=some g->K b o=some g)/\fz<=rows.length
 | .vech E k rows x=>∃ xs,β i=.gr x rows.length/\iQ w 0 E k x rows.length xs/\bh K β xs rows.flatten/\gX k rows/\∀ b,x.ownBlock=some b->∀ o,K b o=none
 | .lost=>∀ b,(β i).blk=some b->b < w.heap.size
def wq:List Int:=(List.range 20).map fun i=>((10 ^ i:Nat):Int)
def wz:List Int:=(List.range 256).map fun i=>if i=9\/i=10\/i=11\/i=12\/i=13\/i=32 then 1 else 0
def xT (m:Int):Fz:=fun b o =>
 if b=0 then (match o with | 0=>some (.v (.int .i64 m)) | _=>none)
 else if b=3 then wq[o]?.map fun z=>.v (.int .u64 z)
 else if b=1 then wz[o]?.map fun z=>.v (.int .u8 z)
 else none
def tO (w:World) (b n:Nat):Prop:=∃ cs E z,w.heap[b]?=some (.cells cs E z)/\cs.size=n
theorem tO.lt {w:World} {b n:Nat} (h:tO w b n):b < w.heap.size:=by obtain ⟨cs,E,z,h,_⟩:=h;exact sy h
structure jl (K:Fz) (β:Bt) (w:World):Prop where
 le:∃ m,cU (xT m) K
 pow:tO w 3 20
 spc:tO w 1 256
 free:∀ i b,(β i).blk=some b->b≠3/\b≠1
theorem jl.step {S:Nat->Prop} {K K':Fz} {β bN:Bt} {w w':World} (h:jl K β w) (hx:Ext S w w') (hS:∀ b,S b->∃ i,(β i).blk=some b) (hk:cU K K') (rp:∀ i b,(bN i).blk=some b->(∃ j,(β j).blk=some b)\/w.heap.size<=b):jl K' bN w':=by
 obtain ⟨⟨m,L⟩,I,h3,h4⟩:=h
 have key:∀ {b n:Nat},tO w b n->¬ S b->tO w' b n:=fun ⟨cs,E,z,a,e⟩ hn=>⟨cs,E,z,hx.blk a hn,e⟩
 refine ⟨⟨m,L.trans hk⟩,key I (fun hs=>?_),key h3 (fun hs=>?_),fun i b hb=>?_⟩
 ·obtain ⟨i,hi⟩:=hS _ hs;exact (h4 i _ hi).1 rfl
 ·obtain ⟨i,hi⟩:=hS _ hs;exact (h4 i _ hi).2 rfl
 ·rcases rp i b hb with ⟨j,hj⟩ | hs
  ·exact h4 j b hj
  ·have:=I.lt;have:=h3.lt;exact ⟨by omega,by omega⟩
structure Bs where
 w0:World
 foot:Nat->Prop
 K0:Fz
 β0:Bt
 m:Nat
structure Inv (B:Bs) (K:Fz) (β:Bt) (F:List Ob) (w:World):Prop where
 ext:Ext B.foot B.w0 w
 kle:cU B.K0 K
 ble:dp B.β0 β
 loc:∀ i,B.m<=i->B.β0 i=.no
 fz:kC K w
 ob:∀ i x,F[i]?=some x->la K β w i x
 out:∀ i,F.length<=i->β i=.no
 dis:∀ i j b,(β i).blk=some b->(β j).blk=some b->i=j
 own:∀ i b,(β i).blk=some b->B.foot b\/B.w0.heap.size<=b
 kn:∀ b o g,K b o=some g->B.K0 b o=some g\/B.foot b\/B.w0.heap.size<=b
 tab:jl K β w
section
variable {B:Bs} {K:Fz} {β:Bt} {F:List Ob} {w:World}
theorem la.lt {i:Nat} {x:Ob} (h:la K β w i x) {b:Nat} (hb:(β i).blk=some b):b < w.heap.size:=by
 cases x with
 | gone=>simp only [la] at h;rw [h] at hb;cases hb
 | box E cs =>
  obtain ⟨b',vs,L,I,_⟩:=h;rw [L] at hb;cases hb;exact sy I
 | vec E k fz rows =>
  obtain ⟨h',xs,L,I,_⟩:=h;rw [L] at hb;exact (I.lt hb).2
 | vech E k rows x =>
  obtain ⟨xs,L,I,_⟩:=h;rw [L] at hb;exact (I.lt hb).2
 | lost=>exact h b hb
theorem Inv.lt (h:Inv B K β F w) {i b:Nat} (hb:(β i).blk=some b):b < w.heap.size:=by
 by_cases hi:i < F.length
 ·exact (h.ob i F[i] (by simp [hi])).lt hb
 ·rw [h.out i (by omega)] at hb;cases hb
theorem kC.lt (h:kC K w) {b o:Nat} {g:GV} (hg:K b o=some g):b < w.heap.size:=by
 obtain ⟨_,v,hv,_⟩:=h b o g hg;exact E0 hv
def blocks (β:Bt):Nat->Prop:=fun b=>∃ i,(β i).blk=some b
def cur (K:Fz) (β:Bt) (F:List Ob) (w:World):Bs:=⟨w,blocks β,K,β,F.length⟩
theorem Inv.here (h:Inv B K β F w):Inv (cur K β F w) K β F w :=
 ⟨Ext.refl w,cU.refl K,dp.refl β,h.out,h.fz,h.ob,h.out,h.dis,fun i b hb=>.inl ⟨i,hb⟩,fun _ _ _ h=>.inl h,h.tab⟩
theorem Inv.NH {K':Fz} {bN:Bt} {aO X7:List Ob} {w':World} (h:Inv B K β F w) (k:Inv (cur K β X7 w) K' bN aO w'):Inv B K' bN aO w' :=
 ⟨h.ext.step k.ext (fun j hj=>by obtain ⟨i,hi⟩:=hj;exact (h.own i j hi).symm),h.kle.trans k.kle,h.ble.trans k.ble,h.loc,k.fz,k.ob,k.out,k.dis,
  fun i b hb=>by
   rcases k.own i b hb with L | L
   ·obtain ⟨j,hj⟩:=L;exact h.own j b hj
   ·exact .inr (jZ h.ext.size L),
  fun b o g hg=>by
   rcases k.kn b o g hg with L | ⟨j,hj⟩ | L
   ·exact h.kn b o g L
   ·exact .inr (h.own j b hj)
   ·exact .inr (.inr (jZ h.ext.size L)),k.tab⟩
theorem la.ext {S:Nat->Prop} {K':Fz} {bN:Bt} {w':World} {i:Nat} {x:Ob} (h:la K β w i x) (hx:Ext S w w') (hs:∀ b,(β i).blk=some b->¬ S b) (hk:cU K K') (hb:dp β bN)
  (he:bN i=β i) (hn:∀ b o,(β i).blk=some b->K b o=none->K' b o=none):la K' bN w' i x:=by
 cases x with
 | gone=>simp only [la] at h |-;rw [he,h]
 | box E cs =>
  obtain ⟨b,vs,L,I,h3,h4⟩:=h
  have ft:(β i).blk=some b:=by rw [L];rfl
  exact ⟨b,vs,he.trans L,hx.blk I (hs b ft),h3.mono hk hb,fun o=>hn b o ft (h4 o)⟩
 | vec E k fz rows =>
  obtain ⟨h',xs,L,I,h3,h4,h5,h6⟩:=h
  have ft:∀ b,h'.ownBlock=some b->(β i).blk=some b:=fun b hb=>by rw [L];exact hb
  exact ⟨h',xs,he.trans L,I.ext hx (fun b bC=>hs b (ft b bC)),h3.mono hk hb,h4,fun b bC=>⟨fun o ho=>hn b o (ft b bC) ((h5 b bC).1 o ho),fun o g ho hg=>hk _ _ _ ((h5 b bC).2 o g ho hg)⟩,h6⟩
 | vech E k rows x =>
  obtain ⟨xs,L,I,h3,h4,h5⟩:=h
  have ft:∀ b,x.ownBlock=some b->(β i).blk=some b:=fun b hb=>by rw [L];exact hb
  exact ⟨xs,he.trans L,I.ext hx (fun b bC=>hs b (ft b bC)),h3.mono hk hb,h4,fun b bC o=>hn b o (ft b bC) (h5 b bC o)⟩
 | lost=>exact fun b bC=>xE (h b (by rw [<-he];exact bC)) hx.size
theorem kC.ext {S:Nat->Prop} {w':World} (h:kC K w) (hx:Ext S w w') (hs:∀ b o g,K b o=some g->¬ S b):kC K w':=fun b o g hg=>by
 obtain ⟨L,v,hv,hr⟩:=h b o g hg;exact ⟨L,v,hx.c hv (hs b o g hg),hr⟩
theorem Inv.same {w':World} (h:Inv B K β F w) (hx:Ext ic w w'):Inv B K β F w' :=
 ⟨h.ext.step hx (fun j hj=>hj.elim),h.kle,h.ble,h.loc,h.fz.ext hx (fun _ _ _ _ h=>h),fun i x hi=>(h.ob i x hi).ext hx (fun _ _ h=>h) (cU.refl K) (dp.refl β) rfl (fun _ _ _ h=>h),h.out,h.dis,h.own,h.kn,h.tab.step hx (fun _ h=>h.elim) (cU.refl K) (fun i b h=>.inl ⟨i,h⟩)⟩
def ij (p:Nat->Bool) (β:Bt):Bt:=fun i=>match p i with
 | true=>β i
 | false=>.no
theorem iP {p:Nat->Bool} {β:Bt} {i:Nat} (h:p i=true):ij p β i=β i:=by simp [ij,h]
theorem zz {p:Nat->Bool} {β:Bt} {i:Nat} (h:p i=false):ij p β i=.no:=by simp [ij,h]
end
section
variable {B:Bs} {K:Fz} {β:Bt} {F:List Ob} {w:World}
def fY (β:Bt) (i:Nat) (x:Bk):Bt:=fun j=>if j=i then x else β j
theorem bH {i:Nat} {x:Bk}:fY β i x i=x:=by simp [fY]
theorem cH {i j:Nat} {x:Bk} (h:j≠i):fY β i x j=β j:=by simp [fY,h]
theorem qi {i j b:Nat} {x:Bk} (h:(fY β i x j).blk=some b):x.blk=some b\/(β j).blk=some b:=by
 by_cases hj:j=i
 ·subst hj;rw [bH] at h;exact .inl h
 ·rw [cH hj] at h;exact .inr h
theorem jr {i:Nat} {x:Bk} (h:ru (β i) x):dp β (fY β i x):=fun j=>by
 by_cases hj:j=i
 ·subst hj;rw [bH];exact h
 ·rw [cH hj];exact ru.refl _
theorem bh.self {vs:List Value}:bh K β vs (vs.map .v):=⟨by simp,fun i v g L I=>by
 rw [aV,L] at I;cases I;exact .v _⟩
theorem Inv.add {w':World} {b:Nat} {vs:List Value} {cs:List GV} {E:TypeId} (h:Inv B K β F w) (hn:uM w w' b (.cells vs.toArray E)) (hr:bh K β vs cs) :
  Inv B K (fY β F.length (.fix b)) (F++[.box E cs]) w':=by
 have cV:β F.length=.no:=h.out _ (aD _);have hle:dp β (fY β F.length (.fix b)):=jr (by rw [cV];trivial)
 have ak:∀ i b',(β i).blk=some b'->b'≠b:=fun i b' bC=>by have:=h.lt bC;have:=hn.fresh;omega
 have hK:∀ o,K b o=none:=fun o=>by
  cases hk:K b o with
  | none=>rfl
  | some g=>have:=h.fz.lt hk;have:=hn.fresh;omega
 refine ⟨h.ext.step hn.ext (fun j hj=>hj.elim),h.kle,h.ble.trans hle,h.loc,h.fz.ext hn.ext (fun _ _ _ _ h=>h),fun i x hi=>?_,fun i hi=>?_,fun i j b' hi hj=>?_,fun i b' hi=>?_,h.kn,h.tab.step hn.ext (fun _ h=>h.elim) (cU.refl K) (fun i b2 hi=>by rcases qi hi with L | L;(· cases L;exact .inr (by have:=hn.fresh;omega));exact .inl ⟨i,L⟩)⟩
 ·by_cases sV:i < F.length
  ·rw [ff sV] at hi
   have cr:i≠F.length:=by omega
   exact (h.ob i x hi).ext hn.ext (fun _ _ h=>h) (cU.refl K) hle (cH cr) (fun _ _ _ h=>h)
  ·have:i=F.length:=by have:=(bp hi).1;simp at this;omega
   subst this;simp at hi;subst hi;exact ⟨b,vs,bH,hn.blk,hr.mono (cU.refl K) hle,hK⟩
 ·simp at hi;rw [cH (by omega)];exact h.out i (by omega)
 ·by_cases L:i=F.length <;> by_cases I:j=F.length
  ·omega
  ·subst L;rw [bH] at hi;rw [cH I] at hj;cases hi;exact absurd rfl (ak j _ hj)
  ·subst I;rw [bH] at hj;rw [cH L] at hi;cases hj;exact absurd rfl (ak i _ hi)
  ·rw [cH L] at hi;rw [cH I] at hj;exact h.dis i j b' hi hj
 ·by_cases L:i=F.length
  ·subst L;rw [bH] at hi;cases hi;exact .inr (by have:=hn.fresh;have:=h.ext.size;omega)
  ·rw [cH L] at hi;exact h.own i b' hi
theorem Inv.EW {w':World} {E k:Nat} {x:Value} {xs:List Value} {rows:List (List GV)} (h:Inv B K β F w) (hx:Ext ic w w') (ho:iQ w' 0 E k x rows.length xs) (hf:∀ b,x.ownBlock=some b->w.heap.size<=b)
  (hr:bh K β xs rows.flatten) (hk:gX k rows):Inv B K (fY β F.length (.gr x rows.length)) (F++[.vec E k 0 rows]) w':=by
 have cV:β F.length=.no:=h.out _ (aD _);have hle:dp β (fY β F.length (.gr x rows.length)):=jr (by rw [cV];trivial)
 have ak:∀ i b',(β i).blk=some b'->x.ownBlock≠some b':=fun i b' bC he=>by have:=h.lt bC;have:=hf b' he;omega
 have hK:∀ b,x.ownBlock=some b->∀ o,K b o=none:=fun b hb o=>by
  cases hk:K b o with
  | none=>rfl
  | some g=>have:=h.fz.lt hk;have:=hf b hb;omega
 refine ⟨h.ext.step hx (fun j hj=>hj.elim),h.kle,h.ble.trans hle,h.loc,h.fz.ext hx (fun _ _ _ _ h=>h),fun i y hi=>?_,fun i hi=>?_,fun i j b' hi hj=>?_,fun i b' hi=>?_,h.kn,h.tab.step hx (fun _ h=>h.elim) (cU.refl K) (fun i b2 hi=>by rcases qi hi with L | L;(· exact .inr (hf b2 L));exact .inl ⟨i,L⟩)⟩
 ·by_cases sV:i < F.length
  ·rw [ff sV] at hi
   have cr:i≠F.length:=by omega
   exact (h.ob i y hi).ext hx (fun _ _ h=>h) (cU.refl K) hle (cH cr) (fun _ _ _ h=>h)
  ·have:i=F.length:=by have:=(bp hi).1;simp at this;omega
   subst this;simp at hi;subst hi;exact ⟨x,xs,bH,ho,hr.mono (cU.refl K) hle,hk,fun b hb=>⟨fun o _=>hK b hb o,fun o g ho _=>by omega⟩,aM _⟩
 ·simp at hi;rw [cH (by omega)];exact h.out i (by omega)
 ·by_cases L:i=F.length <;> by_cases I:j=F.length
  ·omega
  ·subst L;rw [bH] at hi;rw [cH I] at hj;exact absurd hi (ak j _ hj)
  ·subst I;rw [bH] at hj;rw [cH L] at hi;exact absurd hj (ak i _ hi)
  ·rw [cH L] at hi;rw [cH I] at hj;exact h.dis i j b' hi hj
 ·by_cases L:i=F.length
  ·subst L;rw [bH] at hi;exact .inr (jZ h.ext.size (hf b' hi))
  ·rw [cH L] at hi;exact h.own i b' hi
def lf (K:Fz) (b:Nat) (cs:List GV):Fz:=fun b' o=>if b'=b then cs[o]? else K b' o
theorem tA {b o:Nat} {cs:List GV} {g:GV} (h:cs[o]?=some g):lf K b cs b o=some g:=by simp [lf,h]
theorem Inv.sk {w':World} {b:Nat} {vs:List Value} {cs:List GV} {E:TypeId} (h:Inv B K β F w) (hn:uM w w' b (.cells vs.toArray E)) (hr:bh K β vs cs) (hp:∀ g∈cs,g.pc=true) :
  cU K (lf K b cs)/\Inv B (lf K b cs) β F w':=by
 have TX:∀ o,K b o=none:=fun o=>by
  cases hk:K b o with
  | none=>rfl
  | some g=>have:=h.fz.lt hk;have:=hn.fresh;omega
 have hle:cU K (lf K b cs):=fun b' o g hg=>by
  by_cases hb:b'=b
  ·subst hb;rw [TX] at hg;cases hg
  ·simp [lf,hb,hg]
 refine ⟨hle,h.ext.step hn.ext (fun j hj=>hj.elim),h.kle.trans hle,h.ble,h.loc,fun b' o g hg=>?_,fun i x hi=>?_,h.out,h.dis,h.own,fun b' o g hg=>?_,h.tab.step hn.ext (fun _ h=>h.elim) hle (fun i b2 h=>.inl ⟨i,h⟩)⟩
 ·by_cases hb:b'=b
  ·subst hb;simp [lf] at hg;obtain ⟨v,hv,fv⟩:=hr.at hg;have yB:=hp g (bF hg);exact ⟨yB,v,wQ hn.blk (by simpa using hv),(fv.mono hle (dp.refl β)).pc yB⟩
  ·have mu:K b' o=some g:=by simpa [lf,hb] using hg
   obtain ⟨L,v,I,h3⟩:=h.fz b' o g mu;exact ⟨L,v,hn.ext.c I (fun h=>h),h3.mono hle (dp.refl _)⟩
 ·refine (h.ob i x hi).ext hn.ext (fun _ _ h=>h) hle (dp.refl β) rfl (fun b' o hb hk=>?_)
  have:b'≠b:=by have:=h.lt hb;have:=hn.fresh;omega
  simp [lf,this,hk]
 ·by_cases hb:b'=b
  ·exact .inr (.inr (by have:=hn.fresh;have:=h.ext.size;omega))
  ·exact h.kn b' o g (by simpa [lf,hb] using hg)
theorem Inv.store {w':World} {i b:Nat} {E:TypeId} {cs zP:List GV} {VI:List Value} (h:Inv B K β F w) (hi:F[i]?=some (.box E cs)) (hb:β i=.fix b) (hs:uO w w' b VI.toArray E)
  (hr:bh K β VI zP):Inv B K β (F.set i (.box E zP)) w':=by
 obtain ⟨b0,vs,L,I,h3,h4⟩:=h.ob i _ hi;rw [hb] at L;cases L
 have ft:(β i).blk=some b:=by rw [hb];rfl
 refine ⟨h.ext.step hs.ext (fun j hj=>?_),h.kle,h.ble,h.loc,h.fz.ext hs.ext (fun b' o g hg he=>?_),fun j x hj=>?_,fun j hj=>h.out j (by simpa using hj),h.dis,h.own,h.kn,h.tab.step hs.ext (fun j hj=>⟨i,by subst hj;exact ft⟩) (cU.refl K) (fun i b2 h=>.inl ⟨i,h⟩)⟩
 ·subst hj;exact (h.own i _ ft).symm
 ·subst he;rw [h4] at hg;cases hg
 ·rw [dB] at hj;split at hj
  ·rename_i gA;split at hj
   ·cases hj;subst gA
    exact ⟨b,VI,hb,hs.blk,hr,h4⟩
   ·cases hj
  ·rename_i gA;refine (h.ob j x hj).ext hs.ext (fun b' bC he=>?_) (cU.refl K) (dp.refl β) rfl (fun _ _ _ h=>h);subst he;exact gA (h.dis i j _ ft bC)
def Bo (K:Fz) (x:Value) (n:Nat) (fl:List GV):Fz:=fun b o=>if x.ownBlock=some b/\o < n then fl[o]? else K b o
theorem zn {x:Value} {n b o:Nat} {fl:List GV} (L:x.ownBlock=some b) (I:o < n):Bo K x n fl b o=fl[o]?:=by unfold Bo;rw [ab ⟨L,I⟩]
theorem w7 {x:Value} {n b o:Nat} {fl:List GV} (h:¬ (x.ownBlock=some b/\o < n)):Bo K x n fl b o=K b o:=by unfold Bo;rw [M h]
theorem Bp {x:Value} {n b o:Nat} {fl:List GV} {g:GV} (h:Bo K x n fl b o=some g):(x.ownBlock=some b/\o < n/\fl[o]?=some g)\/(¬ (x.ownBlock=some b/\o < n)/\K b o=some g):=by
 by_cases hc:x.ownBlock=some b/\o < n
 ·rw [zn hc.1 hc.2] at h;exact .inl ⟨hc.1,hc.2,h⟩
 ·rw [w7 hc] at h;exact .inr ⟨hc,h⟩
theorem Inv.grow {w':World} {i:Nat} {E k fz:Nat} {rows news:List (List GV)} {h0 x:Value} {xs ns:List Value} (h:Inv B K β F w) (hi:F[i]?=some (.vec E k fz rows)) (hb:β i=.gr h0 rows.length)
  (rn:iQ w 0 E k h0 rows.length xs/\bh K β xs rows.flatten) (ho:iQ w' 0 E k x (rows.length+news.length) (xs++ns)) (hx:Ext (fun b=>h0.ownBlock=some b) w w') (hf:∀ b,x.ownBlock=some b->h0.ownBlock=some b\/w.heap.size<=b)
  (hr:bh K β ns news.flatten) (hk:gX k news) (cr:news≠[]) (mf:∀ b,h0.ownBlock=some b->∀ o v,o < fz * k->gq w.heap b o=some v->gq w'.heap b o=some v) :
  ∃ K',cU K K'/\dp β (fY β i (.gr x (rows++news).length))/\Inv B K' (fY β i (.gr x (rows++news).length)) (F.set i (.vec E k fz (rows++news))) w':=by
 obtain ⟨ub,xs',L,I,h3,h4,h5,h6⟩:=h.ob i _ hi;rw [hb] at L;cases L;clear I h3
 have hlen:news.length≠0:=fun h=>cr (gJ h)
 have hle:dp β (fY β i (.gr x (rows++news).length)):=jr (by rw [hb];exact ⟨x,_,rfl,by simp,fun he=>by rw [aU] at he;omega⟩)
 have yn:∀ b,h0.ownBlock=some b->(β i).blk=some b:=fun b bC=>by rw [hb];exact bC
 have Kg:rows.flatten.length=rows.length * k:=by rw [<-rn.2.1];exact rn.1.1
 have aah:fz * k<=rows.flatten.length:=by rw [Kg];exact qW k h6
 have DI:cU K (Bo K x (fz * k) rows.flatten):=fun b o g hg=>by
  by_cases hc:x.ownBlock=some b/\o < fz * k
  ·rw [zn hc.1 hc.2]
   rcases hf b hc.1 with h7 | h7
   ·have Q6:o < rows.flatten.length:=by omega
    have:=(h5 b h7).2 o rows.flatten[o] hc.2 (by simp [Q6]);rw [this] at hg;cases hg;simp [Q6]
   ·have:=h.fz.lt hg;omega
  ·rw [w7 hc];exact hg
 refine ⟨Bo K x (fz * k) rows.flatten,DI,hle,h.ext.step hx (fun j hj=>(h.own i j (yn j hj)).symm),h.kle.trans DI,h.ble.trans hle,h.loc,fun b o g hg=>?_,fun j y hj=>?_,fun j hj=>?_,fun j j' b hj mR=>?_,fun j b hj=>?_,fun b o g hg=>?_,h.tab.step hx (fun j hj=>⟨i,yn j hj⟩) DI (fun j b2 hi=>by rcases qi hi with L | L;(· exact (hf b2 L).imp (fun I=>⟨i,yn b2 I⟩) id);exact .inl ⟨j,L⟩)⟩
 ·rcases Bp hg with ⟨bC,Ab,hg⟩ | ⟨hc,hg⟩
  ·have yB:g.pc=true:=by
    obtain ⟨r,jg,ea⟩:=List.mem_flatten.1 (bF hg);exact (h4 r jg).2 g ea
   obtain ⟨v,hv,fv⟩:=rn.2.at hg;obtain ⟨b2,c,su,_,_,kG⟩:=ho.cells.2 (by intro h0;have:xs=[]:=(List.append_eq_nil_iff.1 h0).1;rw [this] at hv;simp at hv)
   have fg:b2=b:=by rw [su] at bC;cases bC;rfl
   subst fg;have ak:o < xs.length:=(bp hv).1;refine ⟨yB,v,?_,(fv.mono DI hle).pc yB⟩;rw [<-fG];exact kG o v (by rw [ff ak];exact hv)
  ·obtain ⟨hp,v,hv,fv⟩:=h.fz b o g hg;refine ⟨hp,v,?_,fv.mono DI (dp.refl _)⟩
   by_cases h7:h0.ownBlock=some b
   ·by_cases h8:o < fz * k
    ·exact mf b h7 o v h8 hv
    ·rw [(h5 b h7).1 o (by omega)] at hg;cases hg
   ·exact hx.c hv h7
 ·rw [dB] at hj;split at hj
  ·rename_i gA;split at hj
   ·cases hj;subst gA
    refine ⟨x,xs++ns,bH,by simpa using ho,?_,?_,fun b bC=>⟨fun o Ab=>?_,fun o g Ab hg=>?_⟩,by simp;omega⟩
    ·rw [List.flatten_append];exact (rn.2.mono DI hle).app (hr.mono DI hle)
    ·intro r MM
     rcases oI MM with h7 | h7
     ·exact h4 r h7
     ·exact hk r h7
    ·rw [w7 (by omega)]
     rcases hf b bC with h7 | h7
     ·exact (h5 b h7).1 o Ab
     ·cases mx:K b o with
      | none=>rfl
      | some g=>have:=h.fz.lt mx;omega
    ·rw [zn bC Ab];rw [List.flatten_append,ff (by omega)] at hg;exact hg
   ·cases hj
  ·rename_i gA;refine (h.ob j y hj).ext hx (fun b bC he=>?_) DI hle (cH (fun he=>gA he.symm)) (fun b o bC mx=>?_)
   ·exact gA (h.dis i j b (yn b he) bC)
   ·rw [w7];exact mx;rintro ⟨h7,_⟩
    rcases hf b h7 with h8 | h8
    ·exact gA (h.dis i j b (yn b h8) bC)
    ·have:=h.lt bC;omega
 ·have mR:F.length<=j:=by simpa using hj
  have:i < F.length:=(bp hi).1;rw [cH (by omega)];exact h.out j mR
 ·have key:∀ j b,j≠i->(β j).blk=some b->x.ownBlock≠some b:=fun j b FE bC he=>by
   rcases hf b he with h7 | h7
   ·exact FE (h.dis j i b bC (yn b h7))
   ·have:=h.lt bC;omega
  by_cases L:j=i <;> by_cases I:j'=i
  ·omega
  ·subst L;rw [bH] at hj;rw [cH I] at mR;exact absurd hj (key j' b I mR)
  ·subst I;rw [bH] at mR;rw [cH L] at hj;exact absurd mR (key j b L hj)
  ·rw [cH L] at hj;rw [cH I] at mR;exact h.dis j j' b hj mR
 ·by_cases L:j=i
  ·subst L;rw [bH] at hj
   rcases hf b hj with h7 | h7
   ·exact h.own j b (yn b h7)
   ·exact .inr (jZ h.ext.size h7)
  ·rw [cH L] at hj;exact h.own j b hj
 ·rcases Bp hg with ⟨bC,_,_⟩ | ⟨_,hg⟩
  ·rcases hf b bC with h7 | h7
   ·exact .inr (h.own i b (yn b h7))
   ·exact .inr (.inr (jZ h.ext.size h7))
  ·exact h.kn b o g hg
theorem Inv.jv {i E k fz:Nat} {rows:List (List GV)} (h:Inv B K β F w) (hi:F[i]?=some (.vec E k fz rows)) :
  ∃ K',cU K K'/\(∀ x b,β i=.gr x rows.length->x.ownBlock=some b->∀ (o:Nat) g,rows.flatten[o]?=some g->K' b o=some g)/\Inv B K' β (F.set i (.vec E k rows.length rows)) w:=by
 obtain ⟨x,xs,L,I,h3,h4,h5,h6⟩:=h.ob i _ hi
 have Kg:rows.flatten.length=rows.length * k:=by rw [<-h3.1];exact I.1
 have ft:∀ b,x.ownBlock=some b->(β i).blk=some b:=fun b hb=>by rw [L];exact hb
 have hle:cU K (Bo K x (rows.length * k) rows.flatten):=fun b o g hg=>by
  by_cases hc:x.ownBlock=some b/\o < rows.length * k
  ·rw [zn hc.1 hc.2]
   have ak:o < rows.flatten.length:=by omega
   by_cases ho:o < fz * k
   ·have:=(h5 b hc.1).2 o rows.flatten[o] ho (by simp [ak]);rw [this] at hg;cases hg;simp [ak]
   ·rw [(h5 b hc.1).1 o (by omega)] at hg;cases hg
  ·rw [w7 hc];exact hg
 refine ⟨Bo K x (rows.length * k) rows.flatten,hle,fun x' b yG hb o g hg=>?_,h.ext,h.kle.trans hle,h.ble,h.loc,fun b o g hg=>?_,fun j y hj=>?_,fun j hj=>h.out j (by simpa using hj),h.dis,h.own,fun b o g hg=>?_,h.tab.step (S:=ic) (Ext.refl w) (fun _ h=>h.elim) hle (fun i b2 h=>.inl ⟨i,h⟩)⟩
 ·rw [L] at yG;cases yG;rw [zn hb (by rw [<-Kg];exact (bp hg).1)];exact hg
 ·rcases Bp hg with ⟨bC,Ab,hg⟩ | ⟨hc,hg⟩
  ·have yB:g.pc=true:=by
    obtain ⟨r,jg,ea⟩:=List.mem_flatten.1 (bF hg);exact (h4 r jg).2 g ea
   obtain ⟨v,hv,fv⟩:=h3.at hg;obtain ⟨b2,c,su,_,_,kG⟩:=I.cells.2 (by intro h0;rw [h0] at hv;simp at hv)
   have fg:b2=b:=by rw [su] at bC;cases bC;rfl
   subst fg;exact ⟨yB,v,by rw [<-fG];exact kG o v hv,(fv.mono hle (dp.refl β)).pc yB⟩
  ·obtain ⟨h7,v,h8,h9⟩:=h.fz b o g hg;exact ⟨h7,v,h8,h9.mono hle (dp.refl _)⟩
 ·rw [dB] at hj;split at hj
  ·rename_i gA;split at hj
   ·cases hj;subst gA
    refine ⟨x,xs,L,I,h3.mono hle (dp.refl β),h4,fun b hb=>⟨fun o ho=>?_,fun o g ho hg=>?_⟩,aD _⟩
    ·rw [w7 (by omega)];exact (h5 b hb).1 o (jZ (qW k h6) ho)
    ·rw [zn hb ho];exact hg
   ·cases hj
  ·rename_i gA;refine (h.ob j y hj).ext (Ext.refl w) (fun _ _ h=>h) hle (dp.refl β) rfl (fun b o bC mx=>?_) (S:=ic);rw [w7];exact mx;rintro ⟨h7,_⟩;exact gA (h.dis i j b (ft b h7) bC)
 ·rcases Bp hg with ⟨bC,_,_⟩ | ⟨_,hg⟩
  ·exact .inr (h.own i b (ft b bC))
  ·exact h.kn b o g hg
end
mutual
def dX (f:Nat->Nat):GV->GV
 | .v x=>.v x
 | .U=>.U
 | .agg cs=>.agg (lh f cs)
 | .tup cs=>.tup (lh f cs)
 | .sl k rows=>.sl k rows
 | .box cs o=>.box cs o
 | .loc i o=>.loc (f i) o
 | .vec i n=>.vec (f i) n
 | .vp i n k idx off=>.vp (f i) n k idx off
 | .arr i o n=>.arr (f i) o n
 | .fn g a c=>.fn g (lh f a) (lh f c)
def lh (f:Nat->Nat):List GV->List GV
 | []=>[]
 | g::gs=>dX f g::lh f gs
end
theorem kO (f:Nat->Nat) (gs:List GV):lh f gs=gs.map (dX f):=by
 induction gs with
 | nil=>rfl
 | cons g gs ih=>simp [lh,ih]
theorem Rel.Cj {K:Fz} {β:Bt} {f:Nat->Nat} {x:Value} {g:GV} (h:Rel K (fun j=>β (f j)) x g):Rel K β x (dX f g):=by
 induction h with
 | v x=>exact .v x
 | U x=>exact .U x
 | agg vs cs hl h ih =>
  rw [dX,kO]
  refine .agg vs _ (by simpa using hl) fun i v g L I=>?_
  rw [aV] at I
  cases hc:cs[i]? with
  | none=>rw [hc] at I;cases I
  | some c=>rw [hc] at I;cases I;exact ih i v c L hc
 | tup vs cs hl h ih =>
  rw [dX,kO]
  refine .tup vs _ (by simpa using hl) fun i v g L I=>?_
  rw [aV] at I
  cases hc:cs[i]? with
  | none=>rw [hc] at I;cases I
  | some c=>rw [hc] at I;cases I;exact ih i v c L hc
 | sl0 a c k=>exact .sl0 a c k
 | sl b o c k rows h hc=>exact .sl b o c k rows h hc
 | box b o' o cs h=>exact .box b o' o cs h
 | loc i o b h=>exact .loc _ o b h
 | vec i n a c h=>exact .vec _ n a c h
 | vp i n k idx off x h=>exact .vp _ n k idx off x h
 | arr i o n b c h=>exact .arr _ o n b c h
 | fn g xs ys first cap hl kl h h' ih ih' =>
  rw [dX,kO,kO];refine .fn g xs ys _ _ (by simpa using hl) (by simpa using kl) (fun i v g L I=>?_) (fun i v g L I=>?_)
  ·rw [aV] at I
   cases hc:first[i]? with
   | none=>rw [hc] at I;cases I
   | some c=>rw [hc] at I;cases I;exact ih i v c L hc
  ·rw [aV] at I
   cases hc:cap[i]? with
   | none=>rw [hc] at I;cases I
   | some c=>rw [hc] at I;cases I;exact ih' i v c L hc
theorem Rel.B4 {K:Fz} {β:Bt} {f:Nat->Nat} {x:Value} {g:GV} (h:Rel K β x (dX f g)):Rel K (fun j=>β (f j)) x g:=by
 generalize he:dX f g=g' at h
 induction h generalizing g with
 | v x =>
  cases g <;> simp only [dX] at he <;> first | (cases he;done) | skip
  cases he;exact .v x
 | U x =>
  cases g <;> simp only [dX] at he <;> first | (cases he;done) | skip
  exact .U x
 | agg vs cs hl h ih =>
  cases g <;> simp only [dX] at he <;> first | (cases he;done) | skip
  rename_i ds;rw [kO] at he;cases he
  exact .agg vs ds (by simpa using hl) fun i v g L I=>ih i v (dX f g) L (by rw [aV,I];rfl) rfl
 | tup vs cs hl h ih =>
  cases g <;> simp only [dX] at he <;> first | (cases he;done) | skip
  rename_i ds;rw [kO] at he;cases he
  exact .tup vs ds (by simpa using hl) fun i v g L I=>ih i v (dX f g) L (by rw [aV,I];rfl) rfl
 | sl0 a c k =>
  cases g <;> simp only [dX] at he <;> first | (cases he;done) | skip
  cases he;exact .sl0 a c _
 | sl b o c k rows h hc =>
  cases g <;> simp only [dX] at he <;> first | (cases he;done) | skip
  cases he;exact .sl b o c k rows h hc
 | box b o' o cs h =>
  cases g <;> simp only [dX] at he <;> first | (cases he;done) | skip
  cases he;exact .box b o' o cs h
 | loc i o b h =>
  cases g <;> simp only [dX] at he <;> first | (cases he;done) | skip
  cases he;exact .loc _ o b h
 | vec i n a c h =>
  cases g <;> simp only [dX] at he <;> first | (cases he;done) | skip
  cases he;exact .vec _ n a c h
 | vp i n k idx off x h =>
  cases g <;> simp only [dX] at he <;> first | (cases he;done) | skip
  cases he;exact .vp _ n k idx off x h
 | arr i o n b c h =>
  cases g <;> simp only [dX] at he <;> first | (cases he;done) | skip
  cases he;exact .arr _ o n b c h
 | fn g' xs ys first cap hl kl h h' ih ih' =>
  cases g <;> simp only [dX] at he <;> first | (cases he;done) | skip
  rename_i f' ds es;rw [kO,kO] at he;cases he;exact .fn _ xs ys ds es (by simpa using hl) (by simpa using kl) (fun i v g L I=>ih i v (dX f g) L (by rw [aV,I];rfl) rfl)
   (fun i v g L I=>ih' i v (dX f g) L (by rw [aV,I];rfl) rfl)
mutual
def GV.ok (p:Nat->Bool):GV->Bool
 | .loc i _=>p i
 | .vec i _=>p i
 | .vp i _ _ _ _=>p i
 | .arr i _ _=>p i
 | .agg cs=>D7 p cs
 | .tup cs=>D7 p cs
 | .fn _ a c=>D7 p a&&D7 p c
 | .v _=>true
 | .U=>true
 | .sl _ _=>true
 | .box _ _=>true
def D7 (p:Nat->Bool):List GV->Bool
 | []=>true
 | g::gs=>GV.ok p g&&D7 p gs
end
def below (n:Nat):Nat->Bool:=fun i=>Nat.blt i n
def other (n:Nat):Nat->Bool:=fun i=>!Nat.beq i n
abbrev GV.lt (n:Nat) (g:GV):Bool:=g.ok (below n)
theorem wj {p:Nat->Bool} {gs:List GV} (h:D7 p gs=true) {g:GV} (hg:g∈gs):g.ok p=true:=by
 induction gs with
 | nil=>cases hg
 | cons x gs ih =>
  simp only [D7,aH] at h
  rcases dA hg with rfl | hg
  ·exact h.1
  ·exact ih h.2 hg
theorem Rel.res {K:Fz} {β:Bt} {p:Nat->Bool} {x:Value} {g:GV} (h:Rel K β x g) (hl:g.ok p=true):Rel K (ij p β) x g:=by
 induction h with
 | v x=>exact .v x
 | U x=>exact .U x
 | agg vs cs re h ih=>simp only [GV.ok] at hl;exact .agg vs cs re fun i v g L I=>ih i v g L I (wj hl (bF I))
 | tup vs cs re h ih=>simp only [GV.ok] at hl;exact .tup vs cs re fun i v g L I=>ih i v g L I (wj hl (bF I))
 | sl0 a c k=>exact .sl0 a c k
 | sl b o c k rows h hc=>exact .sl b o c k rows h hc
 | box b o' o cs h=>exact .box b o' o cs h
 | loc i o b h=>simp only [GV.ok] at hl;exact .loc _ o b (by rw [iP hl,h])
 | vec i m a c h=>simp only [GV.ok] at hl;exact .vec _ m a c (by rw [iP hl];exact h)
 | vp i m k idx off x h=>simp only [GV.ok] at hl;exact .vp _ m k idx off x (by rw [iP hl];exact h)
 | arr i o m b c h=>simp only [GV.ok] at hl;exact .arr _ o m b c (by rw [iP hl,h])
 | fn g' xs ys first cap re kl h h' ih ih' =>
  simp only [GV.ok,aH] at hl
  exact .fn _ xs ys first cap re kl (fun i v g L I=>ih i v g L I (wj hl.1 (bF I))) (fun i v g L I=>ih' i v g L I (wj hl.2 (bF I)))
def Ob.ok (p:Nat->Bool):Ob->Bool
 | .box _ cs=>D7 p cs
 | _=>true
def Ob.dX (f:Nat->Nat):Ob->Ob
 | .box E cs=>.box E (lh f cs)
 | x=>x
def rq (p:Nat->Bool):List Ob->Bool
 | []=>true
 | x::r=>Ob.ok p x&&rq p r
abbrev xP (n:Nat) (F:List Ob):Bool:=rq (below n) F
theorem Jg {p:Nat->Bool} {gs:List Ob} (h:rq p gs=true) {g:Ob} (hg:g∈gs):g.ok p=true:=by
 induction gs with
 | nil=>cases hg
 | cons x gs ih =>
  simp only [rq,aH] at h
  rcases dA hg with rfl | hg
  ·exact h.1
  ·exact ih h.2 hg
def KV (p:Nat->Bool):List GV->List GV
 | []=>[]
 | g::gs=>(match GV.ok p g with | true=>g | false=>.U)::KV p gs
abbrev J5 (n:Nat) (fr:List GV):List GV:=KV (below n) fr
theorem FR.res {K:Fz} {β:Bt} {p:Nat->Bool} {fr:List GV} {l:List Value} (h:FR K β fr l):FR K (ij p β) (KV p fr) l:=by
 induction h with
 | nil=>exact .nil
 | cons h t ih =>
  rw [KV];split
  ·rename_i hl;exact .cons (h.res hl) ih
  ·exact .cons (.U _) ih
theorem la.res {K:Fz} {β:Bt} {w:World} {p:Nat->Bool} {i:Nat} {x:Ob} (h:la K β w i x) (hi:p i=true) (hx:x.ok p=true):la K (ij p β) w i x:=by
 cases x with
 | gone=>simp only [la] at h |-;rw [iP hi,h]
 | box E cs =>
  obtain ⟨b,vs,L,I,h3,h4⟩:=h;exact ⟨b,vs,by rw [iP hi,L],I,⟨h3.1,fun i v g h5 h6=>(h3.2 i v g h5 h6).res (wj hx (bF h6))⟩,h4⟩
 | vec E k fz rows =>
  obtain ⟨h0,xs,L,I,h3,h4,h5⟩:=h;refine ⟨h0,xs,by rw [iP hi,L],I,⟨h3.1,fun i v g h6 h7=>(h3.2 i v g h6 h7).pc ?_⟩,h4,h5⟩;obtain ⟨r,jg,ea⟩:=List.mem_flatten.1 (bF h7);exact (h4 r jg).2 g ea
 | vech E k rows x =>
  obtain ⟨xs,L,I,h3,h4,h5⟩:=h;refine ⟨xs,by rw [iP hi,L],I,⟨h3.1,fun i v g h6 h7=>(h3.2 i v g h6 h7).pc ?_⟩,h4,h5⟩;obtain ⟨r,jg,ea⟩:=List.mem_flatten.1 (bF h7);exact (h4 r jg).2 g ea
 | lost=>exact fun b hb=>h b (by rw [iP hi] at hb;exact hb)
section
variable {B:Bs} {K:Fz} {β:Bt} {F:List Ob} {w:World}
theorem vG {n i:Nat} (h:i < n):below n i=true:=by simpa [below] using h
theorem Ia {n i:Nat} (h:n<=i):below n i=false:=by
 cases hb:below n i with
 | false=>rfl
 | true=>simp [below] at hb;omega
theorem Inv.cut {n:Nat} (h:Inv B K β F w) (hm:B.m<=n) (hl:xP n (F.take n)=true):Inv B K (ij (below n) β) (F.take n) w:=by
 have dZ:∀ i b,(ij (below n) β i).blk=some b->(β i).blk=some b:=fun i b hi=>by
  simp only [ij] at hi;split at hi
  ·exact hi
  ·cases hi
 refine ⟨h.ext,h.kle,fun i=>?_,h.loc,h.fz,fun i x hi=>?_,fun i hi=>?_,fun i j b hi hj=>h.dis i j b (dZ i b hi) (dZ j b hj),fun i b hi=>h.own i b (dZ i b hi),h.kn,h.tab.step (S:=ic) (Ext.refl w) (fun _ h=>h.elim) (cU.refl K) (fun i b2 I=>.inl ⟨i,dZ i b2 I⟩)⟩
 ·by_cases fi:i < n
  ·rw [iP (vG fi)];exact h.ble i
  ·rw [h.loc i (by omega)];trivial
 ·have ak:=Jg hl (bF hi);rw [getElem?_take] at hi;split at hi
  ·rename_i fi;exact (h.ob i x hi).res (vG fi) ak
  ·cases hi
 ·by_cases fi:i < n
  ·rw [iP (vG fi)];exact h.out i (by simp at hi;omega)
  ·exact zz (Ia (by omega))
theorem Ji {i:Nat}:other i i=false:=by simp [other]
theorem wm {i j:Nat} (h:j≠i):other i j=true:=by
 cases hb:Nat.beq j i with
 | false=>simp [other,hb]
 | true=>exact absurd (Nat.eq_of_beq_eq_true hb) h
theorem Inv.freeze {i:Nat} {E:TypeId} {cs:List GV} (h:Inv B K β F w) (hi:F[i]?=some (.box E cs)) (hp:∀ g∈cs,g.pc=true) (cV:rq (other i) (F.set i .gone)=true) (hm:B.m<=i) :
  ∃ K',cU K K'/\(∀ b,β i=.fix b->∀ (j:Nat) g,cs[j]?=some g->K' b j=some g)/\Inv B K' (ij (other i) β) (F.set i .gone) w:=by
 obtain ⟨b,vs,L,I,h3,h4⟩:=h.ob i _ hi
 have ft:(β i).blk=some b:=by rw [L];rfl
 have hle:cU K (lf K b cs):=fun b' o g hg=>by
  by_cases hb:b'=b
  ·subst hb;rw [h4] at hg;cases hg
  ·simp [lf,hb,hg]
 have dZ:∀ j b',(ij (other i) β j).blk=some b'->j≠i/\(β j).blk=some b':=fun j b' hj=>by
  by_cases hji:j=i
  ·subst hji;rw [zz Ji] at hj;cases hj
  ·rw [iP (wm hji)] at hj;exact ⟨hji,hj⟩
 refine ⟨lf K b cs,hle,fun b' bC j g hg=>?_,h.ext,h.kle.trans hle,fun j=>?_,h.loc,fun b' o g hg=>?_,fun j x hj=>?_,fun j hj=>?_,fun j j' b' hj mR=>?_,fun j b' hj=>?_,fun b' o g hg=>?_,h.tab.step (S:=ic) (Ext.refl w) (fun _ h=>h.elim) hle (fun i b2 I=>.inl ⟨i,(dZ i b2 I).2⟩)⟩
 ·rw [L] at bC;cases bC;exact tA hg
 ·by_cases hji:j=i
  ·subst hji;rw [h.loc j hm];trivial
  ·rw [iP (wm hji)];exact h.ble j
 ·by_cases hb:b'=b
  ·subst hb;simp [lf] at hg;obtain ⟨v,hv,fv⟩:=h3.at hg;have yB:=hp g (bF hg);exact ⟨yB,v,wQ I (by simpa using hv),(fv.mono hle (dp.refl β)).pc yB⟩
  ·have mu:K b' o=some g:=by simpa [lf,hb] using hg
   obtain ⟨h5,v,h6,h7⟩:=h.fz b' o g mu;exact ⟨h5,v,h6,h7.mono hle (dp.refl _)⟩
 ·have eW:=Jg cV (bF hj);rw [dB] at hj;split at hj
  ·rename_i gA;split at hj
   ·cases hj;subst gA;exact zz Ji
   ·cases hj
  ·rename_i gA;refine la.res ?_ (wm (fun he=>gA he.symm)) eW;refine (h.ob j x hj).ext (Ext.refl w) (fun _ _ h=>h) hle (dp.refl β) rfl (fun b' o bC hk=>?_) (S:=ic)
   have:b'≠b:=fun he=>by subst he;exact gA (h.dis i j _ ft bC)
   simp [lf,this,hk]
 ·have:i < F.length:=(bp hi).1
  have mR:F.length<=j:=by simpa using hj
  rw [iP (wm (by omega))];exact h.out j mR
 ·exact h.dis j j' b' (dZ j b' hj).2 (dZ j' b' mR).2
 ·exact h.own j b' (dZ j b' hj).2
 ·by_cases hb:b'=b
  ·subst hb;exact .inr (h.own i _ ft)
  ·exact h.kn b' o g (by simpa [lf,hb] using hg)
end
abbrev du:=Exit->List GV->List Ob->Prop
def gl (B:Bs) (Q:du):mq:=fun e l w=>∃ K β fr F,Inv B K β F w/\FR K β fr l/\Q e fr F
def GW (P:Program) (m:Nat) (c:Code) (Q:du) (fr:List GV) (F:List Ob):Prop :=
 ∀ B K β w l,B.m=m->Inv B K β F w->FR K β fr l->W P c (gl B Q) l w
def GL (P:Program) (m:Nat) (ops:Array Oper) (Q:du) (rest:List Oper) (fr:List GV) (F:List Ob):Prop :=
 ∀ B K β w l,B.m=m->Inv B K β F w->FR K β fr l->WL P ops (gl B Q) rest l w
def be (next:List GV->List Ob->Prop) (Q:du):du
 | .normal,fr,F=>next fr F
 | e,fr,F=>Q e fr F
def bd (id:Nat) (Q:du):du
 | .exit BO,fr,F=>if BO=id then Q .normal fr F else Q (.exit BO) fr F
 | e,fr,F=>Q e fr F
def Wk (m:Nat) (fr:List GV) (F:List Ob) (cJ:List GV) (aO:List Ob):Prop :=
 ∀ B K β w l,B.m=m->Inv B K β F w->FR K β fr l->∃ K' bN,Inv B K' bN aO w/\FR K' bN cJ l
section
variable {P:Program} {m:Nat} {Q:du} {fr:List GV} {F:List Ob} {ops:Array Oper} {rest:List Oper}
theorem Wk.trans {cJ Md:List GV} {aO Cv:List Ob} (h:Wk m fr F cJ aO) (k:Wk m cJ aO Md Cv):Wk m fr F Md Cv:=fun B K β w l hm hI hF=>by
 obtain ⟨K',bN,bs,vP⟩:=h B K β w l hm hI hF;exact k B K' bN w l hm bs vP
theorem GW.wk {c:Code} {cJ:List GV} {aO:List Ob} (h:Wk m fr F cJ aO) (k:GW P m c Q cJ aO):GW P m c Q fr F:=fun B K β w l hm hI hF=>by
 obtain ⟨K',bN,bs,vP⟩:=h B K β w l hm hI hF;exact k B K' bN w l hm bs vP
theorem GL.wk {cJ:List GV} {aO:List Ob} (h:Wk m fr F cJ aO) (k:GL P m ops Q rest cJ aO):GL P m ops Q rest fr F:=fun B K β w l hm hI hF=>by
 obtain ⟨K',bN,bs,vP⟩:=h B K β w l hm hI hF;exact k B K' bN w l hm bs vP
theorem Wk.cut {n:Nat} (hm:m<=n) (hl:xP n (F.take n)=true):Wk m fr F (J5 n fr) (F.take n):=fun B K β w l hB hI hF =>
 ⟨K,ij (below n) β,hI.cut (by omega) hl,hF.res⟩
inductive tP:List GV->List GV->Prop
 | nil:tP [] []
 | U {f:GV} {fs gs:List GV} (h:tP fs gs):tP (f::fs) (.U::gs)
 | eq {f g:GV} {fs gs:List GV} (he:f=g) (h:tP fs gs):tP (f::fs) (g::gs)
theorem FR.ZD {K:Fz} {β:Bt} {l:List Value} {fr cJ:List GV} (h:tP fr cJ) (k:FR K β fr l):FR K β cJ l:=by
 induction h generalizing l with
 | nil=>exact k
 | U h ih=>cases k with | cons k1 k2=>exact .cons (.U _) (ih k2)
 | eq he h ih=>subst he;cases k with | cons k1 k2=>exact .cons k1 (ih k2)
theorem Wk.aE {cJ:List GV} (h:tP fr cJ):Wk m fr F cJ F:=fun B K β w l _ hI hF=>⟨K,β,hI,hF.ZD h⟩
theorem GW.seq {x y:Code} (h:GW P m x (be (GW P m y Q) Q) fr F):GW P m (.seq x y) Q fr F:=fun B K β w l hm hI hF=>by
 refine W.seq (W.mono (h B K β w l hm hI hF) ?_);rintro e l w ⟨K,β,fr,F,hI,hF,hq⟩
 cases e with
 | normal=>exact hq B K β w l hm hI hF
 | _=>exact ⟨K,β,fr,F,hI,hF,hq⟩
theorem GW.skip (h:Q .normal fr F):GW P m .skip Q fr F:=fun B K β w l hm hI hF=>W.skip ⟨K,β,fr,F,hI,hF,h⟩
theorem GW.exit {n:Nat} (h:Q (.exit n) fr F):GW P m (.exit n) Q fr F:=fun B K β w l hm hI hF=>W.exit ⟨K,β,fr,F,hI,hF,h⟩
theorem GW.ret (h:Q .ret fr F):GW P m .ret Q fr F:=fun B K β w l hm hI hF=>W.ret ⟨K,β,fr,F,hI,hF,h⟩
theorem GW.block {id:Nat} {c:Code} (h:GW P m c (bd id Q) fr F):GW P m (.block id c) Q fr F:=fun B K β w l hm hI hF=>by
 refine W.block (W.mono (h B K β w l hm hI hF) ?_);rintro e l w ⟨K,β,fr,F,hI,hF,hq⟩
 cases e with
 | exit BO =>
  simp only [bd] at hq;simp only [UT];split <;> rename_i hh
  ·rw [ab hh] at hq;exact ⟨K,β,fr,F,hI,hF,hq⟩
  ·rw [M hh] at hq;exact ⟨K,β,fr,F,hI,hF,hq⟩
 | _=>exact ⟨K,β,fr,F,hI,hF,hq⟩
theorem Rel.fD {K:Fz} {β:Bt} {x a:Value} (h:Rel K β x (.v a)):x=a:=by cases h;rfl
theorem FR.jI {K:Fz} {β:Bt} {l:List Value} {x:Operand} {a:Value} (h:FR K β fr l) (hx:ba fr x=.v a):Xw.ev l x=a:=Rel.fD (by rw [<-hx];exact h.ev x)
theorem GW.cond {c:Operand} {x y:Code} {t:Bool} (hc:ba fr c=.v (.bool t)) (ht:t=true->GW P m x Q fr F) (hf:t=false->GW P m y Q fr F):GW P m (.cond c x y) Q fr F:=fun B K β w l hm hI hF =>
 W.cond (hF.jI hc) (fun h=>ht h B K β w l hm hI hF) (fun h=>hf h B K β w l hm hI hF)
theorem Lt {c:Operand} {x y:Code} {t:Bool} (hc:ba fr c=.v (.bool t)) (ht:t=true) (h:GW P m x Q fr F):GW P m (.cond c x y) Q fr F:=GW.cond hc (fun _=>h) (fun I=>by rw [ht] at I;cases I)
theorem Ls {c:Operand} {x y:Code} {t:Bool} (hc:ba fr c=.v (.bool t)) (ht:t=false) (h:GW P m y Q fr F):GW P m (.cond c x y) Q fr F:=GW.cond hc (fun I=>by rw [ht] at I;cases I) (fun _=>h)
theorem GW.mono {c:Code} {Q':du} (h:GW P m c Q fr F) (hq:∀ e fr F,Q e fr F->Q' e fr F):GW P m c Q' fr F:=fun B K β w l hm hI hF =>
 W.mono (h B K β w l hm hI hF) fun e l w ⟨K,β,fr,F,hI,hF,q⟩=>⟨K,β,fr,F,hI,hF,hq _ _ _ q⟩
def Bd (m:Nat) (K:List GV->List Ob->Prop) (fr:List GV) (F:List Ob):Prop:=∃ cJ aO,Wk m fr F cJ aO/\K cJ aO
theorem GW.loop {c:Code} {α:Type} (μ:α->Nat) (aaI:α->List GV->List Ob->Prop) (x:α) (h0:Bd m (aaI x) fr F)
  (round:∀ x fr F,aaI x fr F->GW P m c (be (fun cJ aO=>∃ y,Bd m (aaI y) cJ aO/\μ y < μ x) Q) fr F):GW P m (.loop c) Q fr F:=fun B K β w l hm hI hF=>by
 obtain ⟨cJ,aO,hw,h0⟩:=h0;obtain ⟨K',bN,bs,vP⟩:=hw B K β w l hm hI hF;refine W.loop μ (fun x l w=>∃ K β fr F,Inv B K β F w/\FR K β fr l/\aaI x fr F) x ⟨K',bN,cJ,aO,bs,vP,h0⟩ ?_;rintro x l w ⟨K,β,fr,F,hI,hF,hi⟩;refine W.mono (round x fr F hi B K β w l hm hI hF) ?_;rintro e l w ⟨K,β,fr,F,hI,hF,hq⟩
 cases e with
 | normal =>
  obtain ⟨y,⟨cJ,aO,hw,hy⟩,ak⟩:=hq;obtain ⟨K',bN,bs,vP⟩:=hw B K β w l hm hI hF;exact ⟨y,⟨K',bN,cJ,aO,bs,vP,hy⟩,ak⟩
 | _=>exact ⟨K,β,fr,F,hI,hF,hq⟩
theorem GW.region {id:Nat} {ol:List Oper} (h:GL P m ol.toArray Q ol fr F):GW P m (.region id ol.toArray false) Q fr F:=fun B K β w l hm hI hF=>W.region (h B K β w l hm hI hF)
theorem GL.nil (h:Q .normal fr F):GL P m ops Q [] fr F:=fun B K β w l hm hI hF=>WL.nil ⟨K,β,fr,F,hI,hF,h⟩
end
section
variable {next:List GV->List Ob->Prop} {Q:du} {fr:List GV} {F:List Ob} {id BO:Nat}
theorem aW (h:next fr F):be next Q .normal fr F:=h
theorem Fm (h:Q (.exit id) fr F):be next Q (.exit id) fr F:=h
theorem jK (h:Q .ret fr F):be next Q .ret fr F:=h
theorem jb (h:Q .normal fr F):bd id Q .normal fr F:=h
theorem jJ (h:Q .ret fr F):bd id Q .ret fr F:=h
theorem IC (h:Q .normal fr F):bd id Q (.exit id) fr F:=by simpa [bd] using h
end
def GC (P:Program) (f:FuncId) (gs:List GV) (F:List Ob) (R:GV->List Ob->Prop):Prop :=
 ∀ B K β w vs,B.m=F.length->Inv B K β F w->bh K β vs gs->pn P f vs w fun v w'=>∃ K' bN g aO,Inv B K' bN aO w'/\Rel K' bN v g/\R g aO
abbrev GF (P:Program) (f:FuncId) (gs:List GV) (F:List Ob) (g:GV) (aO:List Ob):Prop:=GC P f gs F fun x Δ=>x=g/\Δ=aO
theorem GC.mono {P:Program} {f:FuncId} {gs:List GV} {F:List Ob} {R R':GV->List Ob->Prop} (h:GC P f gs F R) (hr:∀ g F,R g F->R' g F):GC P f gs F R':=fun B K β w vs hm hI hF =>
 (h B K β w vs hm hI hF).mono fun v w' ⟨K',bN,g,aO,L,I,h3⟩=>⟨K',bN,g,aO,L,I,hr _ _ h3⟩
def Fl:Nat->List GV
 | 0=>[]
 | n+1=>.v undef::Fl n
def yh:List GV->Nat->List GV
 | [],n=>Fl n
 | a::r,n=>a::yh r (n - 1)
theorem FR.Gs {K:Fz} {β:Bt} (n:Nat):FR K β (Fl n) (Gs n):=by
 induction n with
 | zero=>exact .nil
 | succ n ih=>exact .cons (.v _) ih
theorem FR.frame {K:Fz} {β:Bt} {vs:List Value} {gs:List GV} (h:bh K β vs gs) (n:Nat):FR K β (yh gs n) (frame vs n):=by
 induction gs generalizing vs n with
 | nil =>
  have:vs=[]:=gJ h.1;subst this;exact FR.Gs n
 | cons g gs ih =>
  cases vs with
  | nil=>have:=h.1;simp at this
  | cons v vs=>obtain ⟨L,I⟩:=h.pI;exact .cons L (ih I _)
def qv (P:Program) (fn:Func) (m:Nat) (R:GV->List Ob->Prop):du:=fun e fr F =>
 (e=.normal\/e=.ret)/\∀ B K β w l,B.m=m->Inv B K β F w->FR K β fr l->∃ v K' bN g aO,(results fn l.toArray).run P w=.ok v w/\Inv B K' bN aO w/\Rel K' bN v g/\R g aO
theorem GC.enter {P:Program} {f:FuncId} {fn:Func} {c:Code} {gs:List GV} {F:List Ob} {R:GV->List Ob->Prop} {n:Nat} {fr:List GV}
  (hf:P.funcs[f]?=some fn) (hn:fn.ntmps=n) (hb:fn.body=some c) (hl:yh gs n=fr) (h:GW P F.length c (qv P fn F.length R) fr F):GC P f gs F R:=fun B K β w vs hm hI hF=>by
 subst hl;refine pn.enter hf hn hb rfl (W.mono (h B K β w _ hm hI (FR.frame hF n)) ?_);rintro e l w ⟨K,β,fr,F,hI,hF,he,hq⟩;obtain ⟨v,K',bN,g,aO,L,I,h3,h4⟩:=hq B K β w l hm hI hF
 rcases he with rfl | rfl
 ·exact ⟨v,L,K',bN,g,aO,I,h3,h4⟩
 ·exact ⟨v,L,K',bN,g,aO,I,h3,h4⟩
section
variable {P:Program} {fn:Func} {m:Nat} {R:GV->List Ob->Prop} {fr:List GV} {F:List Ob} {e:Exit}
theorem TL {n:Nat} (hr:fn.results=#[]) (he:e=.normal\/e=.ret) (hm:m<=n) (hl:xP n (F.take n)=true) (h:R (.tup []) (F.take n)):qv P fn m R e fr F :=
 ⟨he,fun B K β w l hB hI hF=>⟨.tuple #[],K,ij (below n) β,.tup [],F.take n,by rw [results_none hr],hI.cut (by omega) hl,.tup [] [] rfl (fun i v g h=>by simp at h),h⟩⟩
theorem CM {n:Nat} {t:Tmp} {g:GV} (hr:fn.results=#[.tmp t]) (he:e=.normal\/e=.ret) (hg:cB fr t=g) (hm:m<=n) (hl:xP n (F.take n)=true) (lD:g.lt n=true) (h:R g (F.take n)):qv P fn m R e fr F :=
 ⟨he,fun B K β w l hB hI hF=>⟨nth l t,K,ij (below n) β,g,F.take n,by rw [results_tmp hr,jM],hI.cut (by omega) hl,by rw [<-hg] at lD |-;exact (hF.nth t).res lD,h⟩⟩
theorem O9 {n:Nat} {t u:Tmp} {g g':GV} (hr:fn.results=#[.tmp t,.tmp u]) (he:e=.normal\/e=.ret) (hg:cB fr t=g) (mu:cB fr u=g') (hm:m<=n) (hl:xP n (F.take n)=true) (lD:(GV.tup [g,g']).lt n=true) (h:R (.tup [g,g']) (F.take n)):qv P fn m R e fr F :=
 ⟨he,fun B K β w l hB hI hF=>⟨.tuple #[nth l t,nth l u],K,ij (below n) β,.tup [g,g'],F.take n,by rw [results_tmp2 hr,jM,jM],hI.cut (by omega) hl,by
  refine Rel.res ?_ lD;subst hg mu;have hc:bh K β [nth l t,nth l u] [cB fr t,cB fr u]:=.cons (hF.nth t) (.cons (hF.nth u) .nil)
  exact .tup [nth l t,nth l u] _ hc.1 hc.2,h⟩⟩
theorem TM {n:Nat} {t u s:Tmp} {g g' g2:GV} (hr:fn.results=#[.tmp t,.tmp u,.tmp s]) (he:e=.normal\/e=.ret) (hg:cB fr t=g) (mu:cB fr u=g') (fu:cB fr s=g2) (hm:m<=n) (hl:xP n (F.take n)=true) (lD:(GV.tup [g,g',g2]).lt n=true)
  (h:R (.tup [g,g',g2]) (F.take n)):qv P fn m R e fr F :=
 ⟨he,fun B K β w l hB hI hF=>⟨.tuple #[nth l t,nth l u,nth l s],K,ij (below n) β,.tup [g,g',g2],F.take n,by
   rw [<-jM l t,<-jM l u,<-jM l s];simp [results,hr],hI.cut (by omega) hl,by
  refine Rel.res ?_ lD;subst hg mu fu;have hc:bh K β [nth l t,nth l u,nth l s] [cB fr t,cB fr u,cB fr s]:=.cons (hF.nth t) (.cons (hF.nth u) (.cons (hF.nth s) .nil))
  exact .tup [nth l t,nth l u,nth l s] _ hc.1 hc.2,h⟩⟩
theorem Pa {n:Nat} {t:Tmp} {T:TypeId} {k:Nat} [hT:Ty P T true k] {i:Nat} {E:TypeId} {cs:List GV} (hr:fn.results=#[.cell t T]) (he:e=.normal\/e=.ret) (hg:cB fr t=.loc i 0) (bG:F[i]?=some (.box E cs)) (hk:cs.length=k)
  (hm:m<=n) (hl:xP n (F.take n)=true) (lD:(GV.agg cs).lt n=true) (h:R (.agg cs) (F.take n)):qv P fn m R e fr F :=
 ⟨he,fun B K β w l hB hI hF=>by
  obtain ⟨b,vs,L,I,h3,h4⟩:=hI.ob i _ bG
  have hp:nth l t=.pointer (some ⟨b,0,none⟩):=by
   have:=hF.nth t;rw [hg] at this;generalize nth l t=v at this
   cases this with
   | loc _ _ b' bC=>rw [L] at bC;cases bC;rfl
  have kZ:l.toArray.getD t undef=.pointer (some ⟨b,0,none⟩):=by rw [jM,hp]
  have BC:=mG (P:=P) (w:=w) (t:=T) (b:=b) (o:=0) (vs:=vs) (k:=k) (by rw [h3.1,hk]) (fun j v hj=>by
   rw [cL,cell_of_row w b j _ E (0,0) I];simpa using hj)
  have xb:l[t]?.getD undef=.pointer (some ⟨b,0,none⟩):=by simpa using kZ
  exact ⟨.agg vs.toArray,K,ij (below n) β,.agg cs,F.take n,by simp [results,hr,xb,asAddr,BC],hI.cut (by omega) hl,Rel.res (.agg vs cs h3.1 h3.2) lD,h⟩⟩
end
def YG (P:Program) (op:Op) (fr:List GV) (F:List Ob) (g:GV):Prop :=
 ∀ B K β w l,Inv B K β F w->FR K β fr l->∃ v,eS P l w op v/\Rel K β v g
section
variable {P:Program} {m:Nat} {Q:du} {fr:List GV} {F:List Ob} {ops:Array Oper} {rest:List Oper} {d:Option Tmp} {op:Op} {ty:TypeId} {pos:String} {af:Array Edge}
theorem GL.q {g:GV} (hy:YG P op fr F g) (h:GL P m ops Q rest (bx fr d g) F):GL P m ops Q (⟨d,op,ty,pos,af,none⟩::rest) fr F:=fun B K β w l hm hI hF=>by
 obtain ⟨v,hr,hv⟩:=hy B K β w l hI hF;exact WL.v hr (h B K β w _ hm hI (hF.put d hv))
theorem sQ {cJ:List GV} {aO:List Ob} (L:fr=cJ) (I:F=aO) (h:GL P m ops Q rest cJ aO):GL P m ops Q rest fr F:=by subst L;subst I;exact h
theorem GN {cJ:List GV} (L:fr=cJ) (h:GL P m ops Q rest cJ F):GL P m ops Q rest fr F:=by subst L;exact h
theorem YG.v1 {x:Operand} {a v:Value} (hx:ba fr x=.v a) (h:∀ l w,ev l x=a->eS P l w op v):YG P op fr F (.v v):=fun B K β w l hI hF=>⟨v,h l w (hF.jI hx),.v v⟩
theorem YG.v2 {x y:Operand} {a b v:Value} (hx:ba fr x=.v a) (hy:ba fr y=.v b) (h:∀ l w,ev l x=a->ev l y=b->eS P l w op v):YG P op fr F (.v v):=fun B K β w l hI hF=>⟨v,h l w (hF.jI hx) (hF.jI hy),.v v⟩
theorem YG.mv {x:Operand}:YG P (.move x) fr F (ba fr x):=fun B K β w l hI hF=>⟨_,R.mv,hF.ev x⟩
theorem YG.vE {x:Operand}:YG P (.assign x) fr F (ba fr x):=fun B K β w l hI hF=>⟨_,R.vE,hF.ev x⟩
theorem YG.CY {fn:Fn} {first cap:List Operand}:YG P (.makeFunc fn first.toArray cap.toArray) fr F (.fn fn (first.map (ba fr)) (cap.map (ba fr))):=fun B K β w l hI hF =>
 ⟨_,R.CY,by
  have L:=hF.args first
  have I:=hF.args cap
  simpa using Rel.fn fn _ _ _ _ L.1 I.1 L.2 I.2⟩
def CN:GV->Value
 | .v x=>x
 | _=>.nilFunc
def TP (ρ:Operand->Value) (op:Op):Option Value :=
 match op with
 | .binOp _ _ _ _ _=>go ρ op
 | .unOp _ _ _=>go ρ op
 | _=>none
theorem Sj {K:Fz} {β:Bt} {x:Value} {g:GV} (h:Rel K β x g):CN g=x\/CN g=.nilFunc:=by
 cases h <;> first | exact .inl rfl | exact .inr rfl
theorem YG.go {v:Value} (h:TP (fun x=>CN (ba fr x)) op=some v):YG P op fr F (.v v):=fun B K β w l hI hF=>by
 refine ⟨v,Sh ?_,.v v⟩
 have key:∀ x,CN (ba fr x)=ev l x\/CN (ba fr x)=.nilFunc:=fun x=>Sj (hF.ev x)
 unfold TP at h;split at h
 ·rename_i o t x y t';simp only [Xw.go] at h |-
  rcases key x with hx | hx <;> rcases key y with hy | hy <;> rw [hx,hy] at h
  ·exact h
  ·cases hv:ev l x <;> rw [hv] at h <;> cases h
  ·cases h
  ·cases h
 ·rename_i o t x;simp only [Xw.go,w6] at h |-
  rcases key x with hx | hx <;> rw [hx] at h
  ·exact h
  ·cases o <;> simp only at h <;> cases h
 ·cases h
theorem YG.Rq {c a b:Operand} {t:Bool} (hc:ba fr c=.v (.bool t)) (ht:t=true):YG P (.pick c a b) fr F (ba fr a):=fun B K β w l hI hF=>⟨_,R.Rq (hF.jI hc) ht,hF.ev a⟩
theorem YG.Rp {c a b:Operand} {t:Bool} (hc:ba fr c=.v (.bool t)) (ht:t=false):YG P (.pick c a b) fr F (ba fr b):=fun B K β w l hI hF=>⟨_,R.Rp (hF.jI hc) ht,hF.ev b⟩
theorem YG.Zx {x:Operand} {i o:Nat} (hx:ba fr x=.loc i o):YG P (.nilCheck x) fr F (.loc i o):=fun B K β w l hI hF=>by
 have h:=hF.ev x;rw [hx] at h;generalize hv:ev l x=v at h
 cases h with | loc _ _ b hb=>exact ⟨_,R.KP hv,.loc i o b hb⟩
theorem YG.Zw {x:Operand} {cs:List GV} {o:Nat} (hx:ba fr x=.box cs o):YG P (.nilCheck x) fr F (.box cs o):=fun B K β w l hI hF=>by
 have h:=hF.ev x;rw [hx] at h;generalize hv:ev l x=v at h
 cases h with | box b o' _ _ hb=>exact ⟨_,R.KP hv,.box b o' o cs hb⟩
theorem YG.PG {x:Operand} {t:TypeId} [hT:qo P t] {s:ae} (hx:ba fr x=.v (sv s)):YG P (.call ⟨.builtin .len,#[x],#[t]⟩) fr F (.v (ii s.length)):=YG.v1 hx fun l w h=>R.PG h
theorem YG.Wv {x:Operand} {t e:TypeId} {k:Nat} [hT:nX P t e k] {k':Nat} {rows:List (List GV)} (hx:ba fr x=.sl k' rows):YG P (.call ⟨.builtin .len,#[x],#[t]⟩) fr F (.v (ii rows.length)):=fun B K β w l hI hF=>by
 have h:=hF.ev x;rw [hx] at h;generalize hv:ev l x=v at h
 cases h with
 | sl0 a c=>exact ⟨_,R.KG hv,.v _⟩
 | sl b o c _ _ h _=>exact ⟨_,R.KG hv,.v _⟩
theorem YG.Zt {x:Operand} {t e:TypeId} {k:Nat} [hT:nX P t e k] {i n:Nat} (hx:ba fr x=.vec i n):YG P (.call ⟨.builtin .len,#[x],#[t]⟩) fr F (.v (ii n)):=fun B K β w l hI hF=>by
 have h:=hF.ev x;rw [hx] at h;generalize hv:ev l x=v at h
 cases h with | vec _ _ a c h=>exact ⟨_,R.KG hv,.v _⟩
theorem YG.Zs {x:Operand} {t e:TypeId} {k:Nat} [hT:nX P t e k] {a:Option Addr} {n c:Nat} (hx:ba fr x=.v (.slice a n c)):YG P (.call ⟨.builtin .len,#[x],#[t]⟩) fr F (.v (ii n)):=YG.v1 hx fun l w h=>R.KG h
theorem YG.E9 {x y:Operand} {t t':TypeId} {a b:ae} (hx:ba fr x=.v (sv a)) (hy:ba fr y=.v (sv b)):YG P (.binOp .eql t x y t') fr F (.v (.bool (a==b))):=YG.v2 hx hy fun l w h k=>R.E9 h k
theorem YG.Gi {x y:Operand} {t t':TypeId} {a b:ae} (hx:ba fr x=.v (sv a)) (hy:ba fr y=.v (sv b)):YG P (.binOp .neq t x y t') fr F (.v (.bool (!(a==b)))):=YG.v2 hx hy fun l w h k=>R.Gi h k
theorem YG.um {x y:Operand} {t:TypeId} [hT:qo P t] {s:ae} {k:IntKind} {i:Nat} {c:UInt8} (hx:ba fr x=.v (sv s)) (hy:ba fr y=.v (.int k i)) (hc:s[i]?=some c):YG P (.index t x y) fr F (.v (.int .u8 c.toNat)):=YG.v2 hx hy fun l w h k=>R.um h k hc
theorem YG.add {x y:Operand} {t t':TypeId} {a b:Int} (hx:ba fr x=.v (ii a)) (hy:ba fr y=.v (ii b)) (hb : -9223372036854775808<=a+b/\a+b<=9223372036854775807):YG P (.binOp .add t x y t') fr F (.v (ii (a+b))):=YG.v2 hx hy fun l w h k=>R.add h k hb.1 hb.2
theorem YG.Aw {x y:Operand} {t t':TypeId} {a b:Nat} (hx:ba fr x=.v (ii a)) (hy:ba fr y=.v (ii b)) (hb:a+b<=9223372036854775807):YG P (.binOp .add t x y t') fr F (.v (ii ((a+b:Nat):Int))):=YG.v2 hx hy fun l w h k=>R.Aw h k hb
theorem YG.xX {x y:Operand} {t t':TypeId} {a:Nat} (hx:ba fr x=.v (ii a)) (hy:ba fr y=.v (ii 1)) (hb:a+1<=9223372036854775807):YG P (.binOp .add t x y t') fr F (.v (ii ((a+1:Nat):Int))):=YG.v2 hx hy fun l w h k=>R.xX h k hb
theorem YG.sub {x y:Operand} {t t':TypeId} {a b:Int} (hx:ba fr x=.v (ii a)) (hy:ba fr y=.v (ii b)) (hb : -9223372036854775808<=a - b/\a - b<=9223372036854775807):YG P (.binOp .sub t x y t') fr F (.v (ii (a - b))):=YG.v2 hx hy fun l w h k=>R.sub h k hb.1 hb.2
theorem YG.mul {x y:Operand} {t t':TypeId} {a b:Int} (hx:ba fr x=.v (ii a)) (hy:ba fr y=.v (ii b)) (hb : -9223372036854775808<=a * b/\a * b<=9223372036854775807):YG P (.binOp .mul t x y t') fr F (.v (ii (a * b))):=YG.v2 hx hy fun l w h k=>R.mul h k hb.1 hb.2
theorem YG.cat {x y:Operand} {t t':TypeId} {a b:ae} (hx:ba fr x=.v (sv a)) (hy:ba fr y=.v (sv b)) (hb:a.length+b.length<=9223372036854775807):YG P (.binOp .add t x y t') fr F (.v (sv (a++b))):=YG.v2 hx hy fun l w h k=>R.cat h k hb
theorem YG.GX {x:Operand} {t:TypeId} [hT:qo P t] {s:ae} {lo hi:Operand} {k k':IntKind} {i j:Nat} (hx:ba fr x=.v (sv s)) (gT:ba fr lo=.v (.int k i)) (nC:ba fr hi=.v (.int k' j)) (hb:i<=j/\j<=s.length):YG P (.slice t x (some lo) (some hi) none) fr F (.v (sv ((s.take j).drop i))) :=
 fun B K β w l hI hF=>⟨_,R.Qb (hF.jI hx) ⟨k,hF.jI gT⟩ ⟨k',hF.jI nC⟩ hb.1 hb.2,.v _⟩
theorem YG.GS {x:Operand} {t:TypeId} [hT:qo P t] {s:ae} {lo:Operand} {k:IntKind} {i:Nat} (hx:ba fr x=.v (sv s)) (gT:ba fr lo=.v (.int k i)) (hb:i<=s.length):YG P (.slice t x (some lo) none none) fr F (.v (sv (s.drop i))) :=
 fun B K β w l hI hF=>⟨_,by
  have:=R.Qb (P:=P) (w:=w) (l:=l) (t:=t) (lo:=some lo) (hi:=none) (i:=i) (j:=s.length) (hF.jI hx) ⟨k,hF.jI gT⟩ rfl hb (aD _);rw [b7] at this
  exact this,.v _⟩
theorem YG.GR {x:Operand} {t:TypeId} [hT:qo P t] {s:ae} {hi:Operand} {k:IntKind} {j:Nat} (hx:ba fr x=.v (sv s)) (nC:ba fr hi=.v (.int k j)) (hb:j<=s.length):YG P (.slice t x none (some hi) none) fr F (.v (sv (s.take j))) :=
 fun B K β w l hI hF=>⟨_,R.Qb (P:=P) (w:=w) (l:=l) (t:=t) (lo:=none) (hi:=some hi) (i:=0) (j:=j) (hF.jI hx) rfl ⟨k,hF.jI nC⟩ (aM _) hb,.v _⟩
theorem YG.ext {x:Operand} {i:Nat} {cs:List GV} {g:GV} (hx:ba fr x=.tup cs) (hg:cs[i]?=some g):YG P (.extract x i) fr F g:=fun B K β w l hI hF=>by
 have h:=hF.ev x;rw [hx] at h;generalize hv:ev l x=v at h
 cases h with
 | tup vs _ hl h =>
  have hi:i < vs.length:=by rw [hl];exact (bp hg).1
  exact ⟨vs[i],R.extract hv (by simp [hi]),h i _ g (by simp [hi]) hg⟩
theorem YG.xc {x y:Operand} {t e:TypeId} {k:Nat} [hT:nX P t e k] {rows:List (List GV)} {kk:IntKind} {i:Nat} {r:List GV} (hx:ba fr x=.sl k rows) (hy:ba fr y=.v (.int kk i)) (hr:rows[i]?=some r):YG P (.indexAddr t x y) fr F (.box r 0):=fun B K β w l hI hF=>by
 have h:=hF.ev x;rw [hx] at h;have hi:=(bp hr).1;generalize hv:ev l x=v at h
 cases h with
 | sl0 a c=>simp at hi
 | sl b o c _ _ h _=>exact ⟨_,R.yH hv (hF.jI hy) hi,.box b (o+i * k) 0 r (h i r hr).2⟩
theorem YG.TF {x:Operand} {s:TypeId} {f off k:Nat} {agg:Bool} [hT:dO P s f off k agg] {i o:Nat} (hx:ba fr x=.loc i o):YG P (.fieldAddr s x f) fr F (.loc i (o+off)):=fun B K β w l hI hF=>by
 have h:=hF.ev x;rw [hx] at h;generalize hv:ev l x=v at h
 cases h with | loc _ _ b hb=>exact ⟨_,R.O3 hv,.loc i _ b hb⟩
theorem YG.TD {x:Operand} {s:TypeId} {f off k:Nat} {agg:Bool} [hT:dO P s f off k agg] {cs:List GV} {o:Nat} (hx:ba fr x=.box cs o):YG P (.fieldAddr s x f) fr F (.box cs (o+off)):=fun B K β w l hI hF=>by
 have h:=hF.ev x;rw [hx] at h;generalize hv:ev l x=v at h
 cases h with | box b o' _ _ hb=>exact ⟨_,R.O3 hv,by rw [fP];exact .box b o' _ cs hb⟩
theorem YG.XV {x:Operand} {t:TypeId} [hT:Ty P t false 1] {i o:Nat} {E:TypeId} {cs:List GV} {g:GV} (hx:ba fr x=.loc i o) (bG:F[i]?=some (.box E cs)) (hg:cs[o]?=some g):YG P (.load t x) fr F g:=fun B K β w l hI hF=>by
 have h:=hF.ev x;rw [hx] at h;generalize hv:ev l x=v at h
 cases h with
 | loc _ _ b hb =>
  obtain ⟨b',vs,L,I,h3,h4⟩:=hI.ob i _ bG;rw [hb] at L;cases L;obtain ⟨u,hu,hr⟩:=h3.at hg;exact ⟨u,R.ld hv (wQ I (by simpa using hu)),hr⟩
theorem YG.XT {x:Operand} {t:TypeId} [hT:Ty P t false 1] {cs:List GV} {o:Nat} {g:GV} (hx:ba fr x=.box cs o) (hg:cs[o]?=some g):YG P (.load t x) fr F g:=fun B K β w l hI hF=>by
 have h:=hF.ev x;rw [hx] at h;generalize hv:ev l x=v at h
 cases h with
 | box b o' _ _ hb =>
  obtain ⟨hp,u,hu,hr⟩:=hI.fz _ _ _ (hb o g hg);exact ⟨u,R.ld hv hu,hr.pc hp⟩
theorem uy {k:Nat} {rows:List (List GV)} (hk:gX k rows) {i j:Nat} {r:List GV} {g:GV} (hr:rows[i]?=some r) (hg:r[j]?=some g):rows.flatten[i * k+j]?=some g:=by
 induction rows generalizing i with
 | nil=>simp at hr
 | cons a rows ih =>
  have ha:a.length=k:=(hk a (mem_cons_self)).1
  cases i with
  | zero =>
   cases hr;have hj:=(bp hg).1;rw [Nat.zero_mul,cL,flatten_cons,ff hj];exact hg
  | succ i =>
   rw [flatten_cons,eE (by rw [ha,Nat.succ_mul];omega),ha];rw [show (i+1) * k+j - k=i * k+j by rw [Nat.succ_mul];omega];exact ih (fun r hr=>hk r (di _ hr)) (by simpa using hr)
theorem YG.PD {x:Operand} {t:TypeId} {k:Nat} [hT:Ty P t true k] {i o:Nat} {E:TypeId} {cs gs:List GV} (hx:ba fr x=.loc i o) (bG:F[i]?=some (.box E cs)) (hg:(cs.drop o).take k=gs) (hk:gs.length=k):YG P (.load t x) fr F (.agg gs):=fun B K β w l hI hF=>by
 have h:=hF.ev x;rw [hx] at h;generalize hv:ev l x=v at h
 cases h with
 | loc _ _ b hb =>
  obtain ⟨b',vs,L,I,h3,h4⟩:=hI.ob i _ bG;rw [hb] at L;cases L;have h5:=(h3.drop o).take k;rw [hg] at h5;refine ⟨.agg ((vs.drop o).take k).toArray,R.XW hv (by rw [h5.1,hk]) (fun j v hj=>?_),.agg _ _ h5.1 h5.2⟩;rw [getElem?_take] at hj;split at hj
  ·rw [getElem?_drop] at hj;exact wQ I (by simpa using hj)
  ·cases hj
theorem wT {K:Fz} {β:Bt} {H:Array Obj} {b:Nat}:∀ (gs:List GV) (o:Nat),(∀ (j:Nat) g,gs[j]?=some g->∃ v,gq H b (o+j)=some v/\Rel K β v g)->∃ vs:List Value,bh K β vs gs/\∀ (j:Nat) v,vs[j]?=some v->gq H b (o+j)=some v
 | [],o,_=>⟨[],.nil,fun j v h=>by simp at h⟩
 | g::gs,o,h=>by
  obtain ⟨v,hv,hr⟩:=h 0 g rfl;obtain ⟨vs,L,I⟩:=wT gs (o+1) (fun j g' hg=>by rw [show o+1+j=o+(j+1) by omega];exact h (j+1) g' hg);refine ⟨v::vs,.cons hr L,fun j u hj=>?_⟩
  cases j with
  | zero=>cases hj;exact hv
  | succ j=>rw [show o+(j+1)=o+1+j by omega];exact I j u hj
theorem YG.U0 {x:Operand} {t:TypeId} {k:Nat} [hT:Ty P t true k] {cs gs:List GV} {o:Nat} (hx:ba fr x=.box cs o) (hg:(cs.drop o).take k=gs) (hk:gs.length=k):YG P (.load t x) fr F (.agg gs):=fun B K β w l hI hF=>by
 have h:=hF.ev x;rw [hx] at h;generalize hv:ev l x=v at h
 cases h with
 | box b o' _ _ hb =>
  obtain ⟨vs,L,I⟩:=wT (K:=K) (β:=β) (H:=w.heap) (b:=b) gs (o'+o) (fun j g hj=>by
   have mR:cs[o+j]?=some g:=by
    rw [<-hg,getElem?_take] at hj;split at hj
    ·rw [getElem?_drop] at hj;exact hj
    ·cases hj
   obtain ⟨hp,u,hu,hr⟩:=hI.fz _ _ _ (hb (o+j) g mR)
   exact ⟨u,by rw [fP];exact hu,hr.pc hp⟩)
  exact ⟨.agg vs.toArray,R.XW hv (by rw [L.1,hk]) I,.agg _ _ L.1 L.2⟩
def mr:GV->Option (List GV)
 | .v x=>match KS x with
  | true=>some [.v x]
  | false=>none
 | .agg cs=>some cs
 | .U=>none
 | .tup _=>none
 | .vp _ _ _ _ _=>none
 | .sl k rows=>some [.sl k rows]
 | .box cs o=>some [.box cs o]
 | .loc i o=>some [.loc i o]
 | .vec i n=>some [.vec i n]
 | .arr i o n=>some [.arr i o n]
 | .fn f a c=>some [.fn f a c]
def oO:List GV->Nat->List GV->List GV
 | cs,_,[]=>cs
 | cs,o,v::r=>oO (bo cs o v) (o+1) r
def zm (pl:Nat->Option (Nat × Nat)):List GV->List (Nat × GV)->Option (List GV)
 | cs,[]=>some cs
 | cs,(i,g)::r=>match pl i with
  | none=>none
  | some (o,k)=>match mr g with
   | none=>none
   | some gs=>if gs.length≠k || decide (o+gs.length > cs.length) then none else zm pl (oO cs o gs) r
theorem Rel.cells {K:Fz} {β:Bt} {x:Value} {g:GV} {gs:List GV} (h:Rel K β x g) (hg:mr g=some gs):∃ vs:List Value,x.cells=vs.toArray/\bh K β vs gs:=by
 have one:∀ {x:Value} {g:GV},Rel K β x g->x.cells=#[x]->∃ vs:List Value,x.cells=vs.toArray/\bh K β vs [g]:=fun hr hc=>⟨[_],hc,.cons hr .nil⟩
 cases h with
 | v x =>
  simp only [mr] at hg;split at hg
  ·rename_i ho;cases hg;exact one (.v _) (xt ho).1
  ·cases hg
 | U x=>cases hg
 | agg vs cs hl h=>cases hg;exact ⟨vs,rfl,hl,h⟩
 | tup vs cs hl h=>cases hg
 | sl0 a c k=>cases hg;exact one (.sl0 a c k) rfl
 | sl b o c k rows h hc=>cases hg;exact one (.sl b o c k rows h hc) rfl
 | box b o' o cs h=>cases hg;exact one (.box b o' o cs h) rfl
 | loc i o b h=>cases hg;exact one (.loc i o b h) rfl
 | vec i n a c h=>cases hg;exact one (.vec i n a c h) rfl
 | vp i n k idx off x h=>cases hg
 | arr i o n b c h=>cases hg;exact one (.arr i o n b c h) rfl
 | fn f xs ys first cap hl kl h h'=>cases hg;exact one (.fn f xs ys first cap hl kl h h') rfl
def ml:List GV->Bool
 | []=>true
 | g::gs=>g.one&&ml gs
def oy:List GV->Bool
 | []=>true
 | g::gs=>g.pc&&oy gs
theorem lp {gs:List GV} (h:oy gs=true):∀ g∈gs,g.pc=true:=by
 induction gs with
 | nil=>intro g hg;cases hg
 | cons x gs ih =>
  simp only [oy,aH] at h;intro g hg
  rcases dA hg with rfl | hg
  ·exact h.1
  ·exact ih h.2 g hg
theorem bh.l8 {K:Fz} {β:Bt} {vs:List Value} {gs:List GV} (h:bh K β vs gs) (ho:ml gs=true):l8 vs=true:=by
 induction gs generalizing vs with
 | nil=>have:vs=[]:=gJ h.1;subst this;rfl
 | cons g gs ih =>
  cases vs with
  | nil=>have:=h.1;simp at this
  | cons v vs =>
   simp only [ml,aH] at ho;obtain ⟨L,I⟩:=h.pI;have h3:=(xt (L.one ho.1)).2;have h4:=ih I ho.2;simp only [Xw.l8,all_cons,aH] at h4 |-;exact ⟨h3,h4⟩
end
theorem bh.iF {K:Fz} {β:Bt} {us:List Value} {hs:List GV} (k:bh K β us hs):∀ {vs:List Value} {gs:List GV} (o:Nat),bh K β vs gs->bh K β (iF vs o us) (oO gs o hs):=by
 have hu:∀ {vs:List Value} {gs:List GV} (o:Nat) {v:Value} {g:GV},Rel K β v g->bh K β vs gs->bh K β (fC vs o v) (bo gs o g):=by
  intro vs
  induction vs with
  | nil =>
   intro gs o v g hv h;have:gs=[]:=gJ h.1.symm;subst this;exact .nil
  | cons x vs ih =>
   intro gs o v g hv h
   cases gs with
   | nil=>have:=h.1;simp at this
   | cons y gs =>
    obtain ⟨L,I⟩:=h.pI
    cases o with
    | zero=>exact .cons hv I
    | succ o=>exact .cons L (ih o hv I)
 induction us generalizing hs with
 | nil =>
  intro vs gs o h;have:hs=[]:=gJ k.1.symm;subst this;exact h
 | cons u us ih =>
  intro vs gs o h
  cases hs with
  | nil=>have:=k.1;simp at this
  | cons g hs =>
   obtain ⟨L,I⟩:=k.pI;exact ih I (o+1) (hu o L h)
theorem w5 {K:Fz} {β:Bt} {pl:Nat->Option (Nat × Nat)} {l:List Value} {fr:List GV} (hF:FR K β fr l):∀ (parts:List (Nat × Operand)) (vs:List Value) (gs cs:List GV),bh K β vs gs ->
  zm pl gs (parts.map fun x=>(x.1,ba fr x.2))=some cs->∃ us,qu pl vs (parts.map fun x=>(x.1,ev l x.2))=some us/\bh K β us cs
 | [],vs,gs,cs,h,hf=>by cases hf;exact ⟨vs,rfl,h⟩
 | (i,x)::r,vs,gs,cs,h,hf=>by
  simp only [List.map_cons,zm] at hf;simp only [List.map_cons,qu]
  cases hp:pl i with
  | none=>rw [hp] at hf;cases hf
  | some y =>
   obtain ⟨o,k⟩:=y;rw [hp] at hf;simp only at hf |-
   cases hg:mr (ba fr x) with
   | none=>rw [hg] at hf;cases hf
   | some hs =>
    rw [hg] at hf;simp only at hf;obtain ⟨us,jS,km⟩:=(hF.ev x).cells hg
    have dE:(ev l x).cells.size=hs.length:=by rw [jS];simpa using km.1
    rw [dE,h.1];split at hf
    ·cases hf
    ·rename_i hc;rw [M hc]
     have jc:(ev l x).cells.toList=us:=by rw [jS]
     rw [jc];exact w5 hF r _ _ cs (km.iF o h) hf
section
variable {P:Program} {m:Nat} {Q:du} {fr:List GV} {F:List Ob} {ops:Array Oper} {rest:List Oper} {d:Option Tmp} {op:Op} {ty:TypeId} {pos:String} {af:Array Edge}
def lQ (z:List Value):List GV:=z.map .v
theorem YG.build {t:TypeId} {pl:List (Nat × Nat)} {z:List Value} [hT:uN P t pl z] {parts:List (Nat × Operand)} {cs:List GV} (hf:zm (fun i=>pl[i]?) (lQ z) (parts.map fun x=>(x.1,ba fr x.2))=some cs) :
  YG P (.build t parts.toArray) fr F (.agg cs):=fun B K β w l hI hF=>by
 obtain ⟨us,L,I⟩:=w5 hF parts z _ cs bh.self hf;exact ⟨_,R.build L,.agg us cs I.1 I.2⟩
theorem nE {K:Fz} {β:Bt} {l:List Value} {t:Nat} (h:FR K β fr l) (ht:jj fr t=true):jj l t=true:=by
 induction h generalizing t with
 | nil=>cases ht
 | cons _ _ ih=>cases t with | zero=>rfl | succ t=>exact ih ht
theorem rL {l:List Value} {t:Nat} (h:jj l t=true) (u:Value):nth (fC l t u) t=u:=by
 induction l generalizing t with
 | nil=>cases h
 | cons x l ih=>cases t with | zero=>rfl | succ t=>exact ih h
theorem jE {l:List Value} {t t':Nat} (h:t'≠t) (u:Value):nth (fC l t u) t'=nth l t':=by
 induction l generalizing t t' with
 | nil=>rfl
 | cons x l ih=>cases t with
  | zero=>cases t' with | zero=>exact absurd rfl h | succ t'=>rfl
  | succ t=>cases t' with | zero=>rfl | succ t'=>exact ih (fun e=>h (by rw [e]))
theorem GL.alloc {t:TypeId} {z:Value} {cs:List GV} [hT:qY P t z] (hz:lQ z.cells.toList=cs) (h:GL P m ops Q rest (bx fr d (.loc F.length 0)) (F++[.box t cs])):GL P m ops Q (⟨d,.alloc t,ty,pos,af,none⟩::rest) fr F:=fun B K β w l hm hI hF=>by
 refine WL.alloc (z:=z) fun b w' hn=>?_
 have bs:=hI.add (vs:=z.cells.toList) (cs:=cs) (E:=t) (by simpa using hn) (by rw [<-hz];exact bh.self);exact h B K _ w' _ hm bs ((hF.mono (cU.refl K) (jr (by rw [hI.out _ (aD _)];trivial))).put d (.loc _ 0 b bH))
theorem GL.box {t:TypeId} {x:Operand} {cs:List GV} (hx:mr (ba fr x)=some cs) (h:GL P m ops Q rest (bx fr d (.loc F.length 0)) (F++[.box t cs])):GL P m ops Q (⟨d,.box t x,ty,pos,af,none⟩::rest) fr F:=fun B K β w l hm hI hF=>by
 obtain ⟨vs,L,I⟩:=(hF.ev x).cells hx
 refine WL.box rfl fun b w' hn=>?_
 rw [L] at hn;have bs:=hI.add hn I;exact h B K _ w' _ hm bs ((hF.mono (cU.refl K) (jr (by rw [hI.out _ (aD _)];trivial))).put d (.loc _ 0 b bH))
def oset:List Ob->Nat->Ob->List Ob
 | [],_,_=>[]
 | _::l,0,x=>x::l
 | y::l,n+1,x=>y::oset l n x
theorem bf (l:List Ob) (i:Nat) (x:Ob):oset l i x=l.set i x:=by
 induction l generalizing i with
 | nil=>rfl
 | cons y l ih=>cases i with | zero=>rfl | succ i=>simp [oset,ih]
theorem sD:∀ (us:List Value) (vs:List Value) (o:Nat),uA vs.toArray o us=(iF vs o us).toArray
 | [],vs,o=>rfl
 | u::us,vs,o=>by rw [uA,iF,y7];exact sD us _ _
theorem GL.st {x y:Operand} {t:TypeId} {agg:Bool} {k:Nat} [hT:Ty P t agg k] {i o:Nat} {E:TypeId} {cs gs:List GV} (hx:ba fr x=.loc i o) (bG:F[i]?=some (.box E cs)) (hy:mr (ba fr y)=some gs) (hk:gs.length=k) (L:ml gs=true)
  (hl:Nat.ble (o+k) cs.length=true) (h:GL P m ops Q rest (bx fr d (.v undef)) (oset F i (.box E (oO cs o gs)))):GL P m ops Q (⟨d,.store t x y,ty,pos,af,none⟩::rest) fr F:=fun B K β w l hm hI hF=>by
 have hr:=hF.ev x;rw [hx] at hr;generalize hv:ev l x=v at hr
 cases hr with
 | loc _ _ b hb =>
  obtain ⟨b',vs,I,h3,h4,h5⟩:=hI.ob i _ bG;rw [hb] at I;cases I;obtain ⟨us,jS,km⟩:=(hF.ev y).cells hy
  have kl:o+k<=cs.length:=by simpa using hl
  refine WL.st (t:=t) hv rfl h3 (by rw [jS];simpa [hk] using km.1) (by rw [size_toArray,h4.1];exact kl) (by rw [jS];simpa using km.l8 L) fun w' hs=>?_
  rw [jS,List.toList_toArray,sD] at hs;have bs:=hI.store bG hb hs (km.iF o h4);rw [<-bf] at bs;exact h B K β w' _ hm bs (hF.put d (.v _))
def chunk:Nat->Nat->List GV->List (List GV)
 | 0,_,_=>[]
 | n+1,k,gs=>gs.take k::chunk n k (gs.drop k)
theorem wU {k:Nat}:∀ (n:Nat) (gs:List GV),gs.length=n * k->(chunk n k gs).flatten=gs/\(chunk n k gs).length=n/\∀ r∈chunk n k gs,r.length=k/\∀ g∈r,g∈gs
 | 0,gs,h=>by
  have:gs=[]:=gJ (by simpa using h);subst this;exact ⟨rfl,rfl,fun r hr=>by cases hr⟩
 | n+1,gs,h=>by
  have hk:k<=gs.length:=by rw [h,Nat.succ_mul];omega
  obtain ⟨L,I,h3⟩:=wU (k:=k) n (gs.drop k) (by rw [iK,h,Nat.succ_mul];omega);refine ⟨by rw [chunk,flatten_cons,L,List.take_append_drop],by rw [chunk,length_cons,I],fun r hr=>?_⟩;rw [chunk] at hr
  rcases dA hr with rfl | hr
  ·exact ⟨by simp [hk],fun g hg=>List.mem_of_mem_take hg⟩
  ·obtain ⟨h4,h5⟩:=h3 r hr;exact ⟨h4,fun g hg=>List.mem_of_mem_drop (h5 g hg)⟩
def zs:Nat->List Value->List GV
 | 0,_=>[]
 | n+1,z=>lQ z++zs n z
theorem Hh {K:Fz} {β:Bt} {n k:Nat} {z:List Value} (hz:z.length=k) (hk:0 < k):bh K β ((List.range (n * k)).map fun j=>z.getD (j % k) undef) (zs n z):=by
 induction n with
 | zero=>simpa [zs] using bh.nil
 | succ n ih =>
  have he:(List.range ((n+1) * k)).map (fun j=>z.getD (j % k) undef)=(List.range k).map (fun j=>z.getD (j % k) undef)++(List.range (n * k)).map fun j=>z.getD (j % k) undef:=by
   rw [Nat.succ_mul,Nat.add_comm,List.range_add,iL,List.map_map]
   congr 1
   apply List.map_congr_left;intro j _;simp
  rw [he,zs];refine bh.app ?_ ih
  have:(List.range k).map (fun j=>z.getD (j % k) undef)=z:=by
   apply List.ext_getElem
   ·simp [hz]
   ·intro j L I;simp at L;simp [Nat.mod_eq_of_lt L,fM I]
  rw [this];exact bh.self
theorem GL.XX {t e:TypeId} {k:Nat} {z:List Value} [hT:qn P t e k z] {n:Nat} {parts:List (Nat × Operand)} {cs:List GV} (hn:Nat.ble (n * k) 16777216=true) (hf:zm (fun i=>some (i * k,k)) (zs n z) (parts.map fun x=>(x.1,ba fr x.2))=some cs)
  (hl:Nat.beq cs.length (n * k)=true) (hp:oy cs=true) (h:GL P m ops Q rest (bx fr d (.sl k (chunk n k cs))) F):GL P m ops Q (⟨d,.buildSlice t n parts.toArray,ty,pos,af,none⟩::rest) fr F:=fun B K β w l hm hI hF=>by
 obtain ⟨us,L,I⟩:=w5 hF parts _ _ cs (Hh (n:=n) hT.zl hT.pos) hf
 have kl:cs.length=n * k:=by simpa using hl
 refine WL.CZ (by simpa using hn) L fun b w' sX=>?_
 obtain ⟨hle,bs⟩:=hI.sk sX I (lp hp);obtain ⟨c1,c2,c3⟩:=wU n cs kl;refine h B _ β w' _ hm bs ((hF.mono hle (dp.refl β)).put d ?_)
 have mg:gX k (chunk n k cs):=fun r hr=>⟨(c3 r hr).1,fun g hg=>lp hp g ((c3 r hr).2 g hg)⟩
 have:=Rel.sl (K:=lf K b cs) (β:=β) b 0 n k (chunk n k cs) (fun i r hr=>⟨(mg r (bF hr)).1,fun j g hg=>by
  rw [cL];exact tA (by have:=uy mg hr hg;rw [c1] at this;exact this)⟩) (by rw [c2];exact aD _)
 rw [c2] at this;exact this
theorem GL.XY {t e:TypeId} {k:Nat} {z:List Value} [hT:qn P t e k z] {n:Nat} {parts:List (Nat × Operand)} {cs:List GV} (hn:Nat.ble (n * k) 16777216=true) (hf:zm (fun i=>some (i * k,k)) (zs n z) (parts.map fun x=>(x.1,ba fr x.2))=some cs)
  (hl:Nat.beq cs.length (n * k)=true) (hp:oy cs=true) (h:GL P m ops Q rest (bx fr d (.vec F.length n)) (F++[.vec e k 0 (chunk n k cs)])):GL P m ops Q (⟨d,.buildSlice t n parts.toArray,ty,pos,af,none⟩::rest) fr F:=fun B K β w l hm hI hF=>by
 obtain ⟨us,L,I⟩:=w5 hF parts _ _ cs (Hh (n:=n) hT.zl hT.pos) hf
 have kl:cs.length=n * k:=by simpa using hl
 have BD:n * k<=16777216:=by simpa using hn
 have bV:n<=16777216:=jZ (Nat.le_mul_of_pos_right n hT.pos) BD
 refine WL.CZ BD L fun b w' sX=>?_
 obtain ⟨c1,c2,c3⟩:=wU n cs kl
 have mg:gX k (chunk n k cs):=fun r hr=>⟨(c3 r hr).1,fun g hg=>lp hp g ((c3 r hr).2 g hg)⟩
 have how:=iQ.Vd sX (n:=n) (k:=k) (by rw [I.1,kl]) (by simp only [maxLen];omega);have bs:=hI.EW (x:=.slice (some ⟨b,0,none⟩) n n) (xs:=us) (rows:=chunk n k cs) sX.ext (by rw [c2];exact how.base (aM _)) (fun b' bC=>by cases bC;rw [sX.fresh];exact aD _) (by rw [c1];exact I) mg;refine h B K _ w' _ hm bs ((hF.mono (cU.refl K) (jr (by rw [hI.out _ (aD _)];trivial))).put d ?_);exact .vec _ n _ n ⟨_,_,bH,by rw [c2];exact aD _,fun _=>rfl⟩
def P4 (x:Operand) (t:Tmp):Bool :=
 match x with
 | .tmp t'=>!Nat.beq t' t
 | _=>true
theorem Tw {l:List Value} {x:Operand} {t:Tmp} (h:P4 x t=true) (u:Value):ev (put l (some t) u) x=ev l x:=by
 cases x with
 | tmp t'=>exact jE (fun e=>by subst e;simp [P4] at h) u
 | _=>rfl
theorem GL.push {x s:Operand} {t e k gS:Nat} {z:List Value} [hT:oZ P t e k gS] [hZ:qn P t e k z] {d1:Tmp} {N6:TypeId} {Gr:String} {LA:Array Edge} {i n fz:Nat} {rows:List (List GV)} {gs:List GV}
  (hx:mr (ba fr x)=some gs) (hk:Nat.beq gs.length k=true) (L:ml gs=true) (hp:oy gs=true) (hs:ba fr s=.vec i n) (UI:P4 s d1=true) (hd:jj fr d1=true) (bG:F[i]?=some (.vec e k fz rows)) (hn:rows.length=n)
  (hb:(n+1<=9223372036854775807/\(n+1) * gS<=140737488355328)/\k<=16777216)
  (h:GL P m ops Q rest (bx (bx fr (some d1) U) d (.vec i (n+1))) (oset F i (.vec e k fz (rows++[gs])))) :
  GL P m ops Q (⟨some d1,.buildSlice t 1 #[(0,x)],N6,Gr,LA,none⟩::⟨d,.call ⟨.builtin .append,#[s,.tmp d1],#[t,t]⟩,ty,pos,af,none⟩::rest) fr F:=fun B K β w l hm hI hF=>by
 subst hn;obtain ⟨us,jS,km⟩:=(hF.ev x).cells hx;obtain ⟨h0,xs,o1,o2,o3,o4,o5,o6⟩:=hI.ob i _ bG;have uh:=hF.ev s;rw [hs] at uh
 have rl:ev l s=h0:=by
  generalize hv:ev l s=v at uh
  cases uh with
  | vec _ _ a c hh =>
   obtain ⟨h',m',e1,e2,e3⟩:=hh;rw [o1] at e1;cases e1;exact e3 rfl
 have My:=nE hF hd
 have mx:gs.length=k:=by simpa using hk
 refine WL.push (base:=0) (v:=h0) (vs:=us) (val:=ev l x) (xs:=xs) (n:=rows.length) rfl (fun u=>by rw [Tw UI];exact rl) (fun u=>rL My u) jS (by rw [km.1,mx]) (km.l8 L) o2 hb.1.1 hb.1.2 hb.2 (aM _) ?_;intro u v' w' how iw uW vU
 obtain ⟨K',hK,rp,bs⟩:=hI.grow bG o1 ⟨o2,o3⟩ (news:=[gs]) (ns:=us) how iw uW (by simpa using km) (fun r hr=>by simp at hr;subst hr;exact ⟨mx,lp hp⟩) (by simp) (fun b bC o v ho hv=>by
  rcases vU with h7 | h7
  ·exact h7.c hv (fun h=>h)
  ·have gT:o < xs.length:=by rw [o2.1];exact xE ho (qW k o6)
   obtain ⟨b2,c2,qc,_,_,kG⟩:=o2.cells.2 (by intro h0;rw [h0] at gT;simp at gT)
   have fg:b2=b:=by rw [qc] at bC;cases bC;rfl
   subst fg;have DW:=kG o xs[o] (by simp [gT]);rw [fG,hv] at DW;cases DW;obtain ⟨b3,c3,MA,_,_,Mv⟩:=how.cells.2 (by intro h0;have:xs=[]:=(List.append_eq_nil_iff.1 h0).1;rw [this] at gT;simp at gT)
   have ym:b3=b2:=by rw [MA,bC] at h7;cases h7;rfl
   subst ym
   rw [<-fG];exact Mv o _ (by rw [ff gT];simp [gT]))
 rw [<-bf] at bs;refine h B K' _ w' _ hm bs (((hF.mono hK rp).put (some d1) (.U u)).put d ?_);obtain ⟨a,c,rfl⟩:=how.shape;exact .vec i _ a c ⟨_,_,bH,by simp,fun _=>rfl⟩
theorem Wk.C1 {t:Nat} {a:Option Addr} {c:Nat} (E k:Nat) (ht:cB fr t=.v (.slice none 0 0)):Wk m fr F (bo fr t (.vec F.length 0)) (F++[.vec E k 0 []]):=fun B K β w l hm hI hF=>by
 have cV:β F.length=.no:=hI.out _ (aD _);have bs:=hI.EW (w':=w) (E:=E) (k:=k) (x:=.slice none 0 0) (xs:=[]) (rows:=[]) (Ext.refl w) (iQ.nil w 0 E k) (fun b hb=>by cases hb) bh.nil (fun r hr=>by cases hr);refine ⟨K,_,bs,?_⟩;have vP:=hF.mono (cU.refl K) (jr (i:=F.length) (x:=.gr (.slice none 0 0) ([]:List (List GV)).length) (by rw [cV];trivial));have hv:nth l t=.slice none 0 0:=Rel.fD (by rw [<-ht];exact hF.nth t)
 have hu:∀ (l:List Value) (t:Nat) (v:Value),nth l t=v->(∃ a n c,v=.slice a n c)->fC l t v=l:=by
  intro l
  induction l with
  | nil=>intro t v _ _;rfl
  | cons x l ih =>
   intro t v L I
   cases t with
   | zero=>simp only [nth] at L;subst L;rfl
   | succ t=>simp only [nth] at L;simp only [fC];rw [ih t v L I]
 have:=vP.fC t (v:=.slice none 0 0) (g:=.vec F.length 0) (.vec _ 0 none 0 ⟨_,_,bH,aD _,fun _=>rfl⟩);rw [hu l t _ hv ⟨_,_,_,rfl⟩] at this;exact this
theorem G7 {l:List Value} {t:Nat} (h:jj l t=true):fC l t (nth l t)=l:=by
 induction l generalizing t with
 | nil=>cases h
 | cons x l ih=>cases t with | zero=>rfl | succ t=>simp only [fC,nth];rw [ih h]
theorem Wk.jv {t i n E k fz:Nat} {rows:List (List GV)} (ht:cB fr t=.vec i n) (fi:jj fr t=true) (bG:F[i]?=some (.vec E k fz rows)) (hn:rows.length=n):Wk m fr F (bo fr t (.sl k rows)) (oset F i (.vec E k n rows)):=fun B K β w l hm hI hF=>by
 subst hn;obtain ⟨h0,xs,o1,o2,o3,o4,o5,o6⟩:=hI.ob i _ bG;obtain ⟨K',hK,DP,bs⟩:=hI.jv bG;rw [<-bf] at bs;refine ⟨K',β,bs,?_⟩;have hr:=hF.nth t;rw [ht] at hr
 have fv:Rel K' β (nth l t) (.sl k rows):=by
  generalize nth l t=v at hr
  cases hr with
  | vec _ _ a c hh =>
   obtain ⟨h',m',e1,e2,e3⟩:=hh;rw [o1] at e1;cases e1;have e4:=e3 rfl
   rcases o2.2 with ⟨e5,e6⟩ | ⟨g,cap,cu,e5,_,_,rf,_⟩
   ·have:rows=[]:=gJ e6;subst this;exact .sl0 _ _ _
   ·rw [e5] at e4;cases e4;refine .sl g 0 _ k rows (fun j r hr=>⟨(o4 r (bF hr)).1,fun q g' mu=>?_⟩) rf;rw [cL];exact DP _ g o1 (by rw [e5];rfl) _ g' (uy o4 hr mu)
 have:=(hF.mono hK (dp.refl β)).fC t fv;rw [G7 (nE hF fi)] at this;exact this
def pf (i:Nat) (cs:List GV):GV->GV
 | .loc j o=>match Nat.beq j i with
  | true=>.box cs o
  | false=>.loc j o
 | g=>match g.ok (other i) with
  | true=>g
  | false=>.U
theorem Rel.Z6 {K K':Fz} {β:Bt} {i b:Nat} {cs:List GV} {x:Value} {g:GV} (h:Rel K β x g) (hk:cU K K') (hb:β i=.fix b) (hc:∀ (j:Nat) g,cs[j]?=some g->K' b j=some g):Rel K' (ij (other i) β) x (pf i cs g):=by
 have gen:∀ {g:GV},Rel K β x g->Rel K' (ij (other i) β) x (match g.ok (other i) with | true=>g | false=>.U):=by
  intro g h;split
  ·rename_i ho;exact (h.mono hk (dp.refl β)).res ho
  ·exact .U _
 cases g with
 | loc j o =>
  simp only [pf];split
  ·rename_i hj
   have hj:j=i:=by simpa using hj
   subst hj
   cases h with
   | loc _ _ b' bC =>
    rw [hb] at bC;cases bC;have:=Rel.box (K:=K') (β:=ij (other j) β) b 0 o cs (fun q g hg=>by rw [cL];exact hc q g hg);rw [cL] at this;exact this
  ·rename_i hj
   have hj:j≠i:=by intro e;subst e;simp at hj
   exact (h.mono hk (dp.refl β)).res (wm hj)
 | _=>exact gen h
def pS (i:Nat) (cs:List GV):List GV->List GV
 | []=>[]
 | g::gs=>pf i cs g::pS i cs gs
theorem Wk.freeze {i:Nat} {E:TypeId} {cs:List GV} (bG:F[i]?=some (.box E cs)) (hp:oy cs=true) (cV:rq (other i) (oset F i .gone)=true) (hm:m<=i):Wk m fr F (pS i cs fr) (oset F i .gone):=fun B K β w l hB hI hF=>by
 rw [bf] at cV |-;obtain ⟨b,vs,L,I,h3,h4⟩:=hI.ob i _ bG;obtain ⟨K',hK,DP,bs⟩:=hI.freeze bG (lp hp) cV (by omega);refine ⟨K',_,bs,?_⟩;clear hI bs cV bG
 induction hF with
 | nil=>exact .nil
 | cons h t ih=>exact .cons (h.Z6 hK L (DP b L)) ih
end
def ct:List Nat->Nat->Nat->Nat
 | [],n,j=>n+j
 | i::_,_,0=>i
 | _::r,n,j+1=>ct r n j
def dm:List Ob->List Nat->List Ob->List Ob
 | F,[],xs=>F++xs
 | F,_::_,[]=>F
 | F,i::r,x::xs=>dm (oset F i x) r xs
def iZ:List Nat->Nat->Bool
 | [],_=>true
 | i::r,n=>Nat.blt i n&&!(r.contains i)&&iZ r n
theorem Db {aL:List Nat} {n j:Nat} (h:aL.length<=j):ct aL n j=n+(j - aL.length):=by
 induction aL generalizing j with
 | nil=>simp [ct]
 | cons i r ih =>
  cases j with
  | zero=>simp at h
  | succ j=>rw [ct,ih (by simpa using h)];simp
theorem SP {aL:List Nat} {n j:Nat} (h:j < aL.length):∃ i∈aL,ct aL n j=i:=by
 induction aL generalizing j with
 | nil=>simp at h
 | cons i r ih =>
  cases j with
  | zero=>exact ⟨i,by simp,rfl⟩
  | succ j=>obtain ⟨x,L,I⟩:=ih (j:=j) (by simpa using h);exact ⟨x,by simp [L],I⟩
theorem Gl {aL:List Nat} {n:Nat} (h:iZ aL n=true):∀ i∈aL,i < n:=by
 induction aL with
 | nil=>intro i hi;cases hi
 | cons x r ih =>
  simp only [iZ,aH] at h;intro i hi
  rcases dA hi with rfl | hi
  ·simpa using h.1.1
  ·exact ih h.2 i hi
theorem A7 {aL:List Nat} {n:Nat} (h:iZ aL n=true):∀ {j j':Nat},ct aL n j=ct aL n j'->j=j':=by
 induction aL with
 | nil=>intro j j' he;simp only [ct] at he;omega
 | cons x r ih =>
  have ak:=Gl h;simp only [iZ,aH,Bool.not_eq_true'] at h
  have hx:∀ j,ct r n j≠x:=fun j he=>by
   by_cases hj:j < r.length
   ·obtain ⟨i,hi,I⟩:=SP (n:=n) hj;rw [he] at I;subst I;have:=h.1.2;rw [nu.2 hi] at this;cases this
   ·have:=Db (n:=n) (Nat.le_of_not_lt hj);have:=ak x (by simp);omega
  intro j j' he
  cases j with
  | zero=>cases j' with
   | zero=>rfl
   | succ j'=>exact absurd he.symm (hx j')
  | succ j=>cases j' with
   | zero=>exact absurd he (hx j)
   | succ j'=>rw [ih h.2 he]
theorem HR {aL:List Nat} {n:Nat}:∀ {F xs:List Ob},F.length=n->iZ aL n=true->aL.length<=xs.length ->
  (∀ j,(dm F aL xs)[ct aL n j]?=xs[j]?)/\(∀ i,(∀ j,ct aL n j≠i)->(dm F aL xs)[i]?=F[i]?)/\(dm F aL xs).length=n+(xs.length - aL.length):=by
 induction aL with
 | nil =>
  intro F xs hn _ _;refine ⟨fun j=>?_,fun i hi=>?_,by simp [dm,hn]⟩
  ·simp only [dm,ct];rw [eE (by omega)];congr 1;omega
  ·simp only [dm,ct] at hi |-
   by_cases ak:i < n
   ·rw [ff (by omega)]
   ·exact absurd (by omega) (hi (i - n))
 | cons x r ih =>
  intro F xs hn eW hl;have FC:=@A7 (x::r) n eW;have ak:=Gl eW x (by simp)
  cases xs with
  | nil=>simp at hl
  | cons y ys =>
   simp only [iZ,aH,Bool.not_eq_true'] at eW;obtain ⟨L,I,h3⟩:=ih (F:=oset F x y) (xs:=ys) (by rw [bf];simpa using hn) eW.2 (by simpa using hl)
   have hx:∀ j,ct r n j≠x:=fun j he=>by
    have:=@FC (j+1) 0 he;omega
   refine ⟨fun j=>?_,fun i hi=>?_,by simp only [dm,h3,length_cons];omega⟩
   ·cases j with
    | zero =>
     simp only [dm,ct];rw [I x hx,bf,dB];simp [hn,ak]
    | succ j=>simp only [dm,ct];exact L j
   ·simp only [dm];rw [I i (fun j=>hi (j+1)),bf,dB];rw [M (by intro e;exact hi 0 e)]
theorem la.B4 {K:Fz} {β:Bt} {w:World} {f:Nat->Nat} {j:Nat} {x:Ob} (h:la K β w (f j) (x.dX f)):la K (fun j=>β (f j)) w j x:=by
 cases x with
 | gone=>exact h
 | box E cs =>
  obtain ⟨b,vs,L,I,h3,h4⟩:=h;rw [kO] at h3;exact ⟨b,vs,L,I,⟨by simpa using h3.1,fun i v g h5 h6=>(h3.2 i v (dX f g) h5 (by rw [aV,h6];rfl)).B4⟩,h4⟩
 | vec E k fz rows =>
  obtain ⟨h0,xs,L,I,h3,h4,h5⟩:=h;refine ⟨h0,xs,L,I,⟨h3.1,fun i v g h6 h7=>(h3.2 i v g h6 h7).pc ?_⟩,h4,h5⟩;obtain ⟨r,jg,ea⟩:=List.mem_flatten.1 (bF h7);exact (h4 r jg).2 g ea
 | vech E k rows x =>
  obtain ⟨xs,L,I,h3,h4,h5⟩:=h;refine ⟨xs,L,I,⟨h3.1,fun i v g h6 h7=>(h3.2 i v g h6 h7).pc ?_⟩,h4,h5⟩;obtain ⟨r,jg,ea⟩:=List.mem_flatten.1 (bF h7);exact (h4 r jg).2 g ea
 | lost=>exact h
theorem la.Cj {K:Fz} {β:Bt} {w:World} {f:Nat->Nat} {j:Nat} {x:Ob} (h:la K (fun j=>β (f j)) w j x):la K β w (f j) (x.dX f):=by
 cases x with
 | gone=>exact h
 | box E cs =>
  obtain ⟨b,vs,L,I,h3,h4⟩:=h;refine ⟨b,vs,L,I,?_,h4⟩;rw [kO];refine ⟨by simpa using h3.1,fun i v g h5 h6=>?_⟩;rw [aV] at h6
  cases hc:cs[i]? with
  | none=>rw [hc] at h6;cases h6
  | some c=>rw [hc] at h6;cases h6;exact (h3.2 i v c h5 hc).Cj
 | vec E k fz rows =>
  obtain ⟨h0,xs,L,I,h3,h4,h5⟩:=h;refine ⟨h0,xs,L,I,⟨h3.1,fun i v g h6 h7=>(h3.2 i v g h6 h7).pc ?_⟩,h4,h5⟩;obtain ⟨r,jg,ea⟩:=List.mem_flatten.1 (bF h7);exact (h4 r jg).2 g ea
 | vech E k rows x =>
  obtain ⟨xs,L,I,h3,h4,h5⟩:=h;refine ⟨xs,L,I,⟨h3.1,fun i v g h6 h7=>(h3.2 i v g h6 h7).pc ?_⟩,h4,h5⟩;obtain ⟨r,jg,ea⟩:=List.mem_flatten.1 (bF h7);exact (h4 r jg).2 g ea
 | lost=>exact h
section
variable {K:Fz} {β:Bt} {F:List Ob} {w:World} {B:Bs}
theorem Inv.enter {aL:List Nat} {iM:List Ob} (h:Inv B K β F w) (eW:iZ aL F.length=true) (hl:iM.length=aL.length) (bG:∀ j x,iM[j]?=some x->F[ct aL F.length j]?=some (x.dX (ct aL F.length))) :
  Inv (cur K (fun j=>β (ct aL F.length j)) iM w) K (fun j=>β (ct aL F.length j)) iM w:=by
 have cV:∀ i,iM.length<=i->β (ct aL F.length i)=.no:=fun i hi=>by
  rw [Db (by omega)];exact h.out _ (by omega)
 exact ⟨Ext.refl w,cU.refl K,dp.refl _,cV,h.fz,fun i x hi=>(h.ob _ _ (bG i x hi)).B4,cV,fun i j b hi hj=>A7 eW (h.dis _ _ b hi hj),fun i b hb=>.inl ⟨i,hb⟩,fun _ _ _ h=>.inl h,h.tab.step (S:=ic) (Ext.refl w) (fun _ h=>h.elim) (cU.refl K) (fun i b2 I=>.inl ⟨_,I⟩)⟩
theorem Inv.leave {aL:List Nat} {iM rV:List Ob} {K':Fz} {Bc:Bt} {w':World} (h:Inv B K β F w) (eW:iZ aL F.length=true) (hl:iM.length=aL.length) (kl:aL.length<=rV.length)
  (hI:Inv (cur K (fun j=>β (ct aL F.length j)) iM w) K' Bc rV w') :
  ∃ bN,cU K K'/\dp β bN/\(∀ j,bN (ct aL F.length j)=Bc j)/\Inv B K' bN (dm F aL (rV.map (Ob.dX (ct aL F.length)))) w':=by
 obtain ⟨s1,s2,s3⟩:=HR (aL:=aL) (n:=F.length) (F:=F) (xs:=rV.map (Ob.dX (ct aL F.length))) rfl eW (by simpa using kl);rw [bP] at s3;generalize hf:ct aL F.length=f at *
 have FC:∀ {j j'},f j=f j'->j=j':=by subst hf;exact A7 eW
 have mw:∀ j,aL.length<=j->f j=F.length+(j - aL.length):=fun j hj=>by subst hf;exact Db hj
 have YT:∀ i,F.length<=i->f (aL.length+(i - F.length))=i:=fun i hi=>by rw [mw _ (by omega)];omega
 have ⟨bN,hβ1,hβ2⟩:∃ bN:Bt,(∀ j,bN (f j)=Bc j)/\∀ i,(∀ j,f j≠i)->bN i=β i:=by
  classical
  refine ⟨fun i=>if h:∃ j,f j=i then Bc (Classical.choose h) else β i,fun j=>?_,fun i hi=>?_⟩
  ·have hex:∃ j',f j'=f j:=⟨j,rfl⟩;simp only;rw [dif_pos hex,FC (Classical.choose_spec hex)]
  ·simp only;rw [dif_neg (fun ⟨j,hj⟩=>hi j hj)]
 have TT:dp β bN:=fun i=>by
  by_cases hi:∃ j,f j=i
  ·obtain ⟨j,rfl⟩:=hi;rw [hβ1];exact hI.ble j
  ·rw [hβ2 i (fun j hj=>hi ⟨j,hj⟩)];exact ru.refl _
 have Kh:∀ b,blocks (fun j=>β (f j)) b->blocks β b:=fun b ⟨j,hj⟩=>⟨f j,hj⟩
 have im:∀ i b,(bN i).blk=some b->blocks β b\/w.heap.size<=b:=fun i b hb=>by
  by_cases hi:∃ j,f j=i
  ·obtain ⟨j,rfl⟩:=hi;rw [hβ1] at hb;exact (hI.own j b hb).imp (Kh b) id
  ·rw [hβ2 i (fun j hj=>hi ⟨j,hj⟩)] at hb;exact .inl ⟨i,hb⟩
 have so:∀ i b,(∀ j,f j≠i)->(β i).blk=some b->¬ blocks (fun j=>β (f j)) b:=fun i b hi hb ⟨j,hj⟩=>hi j (h.dis _ _ b hj hb)
 refine ⟨bN,hI.kle,TT,hβ1,h.NH (X7:=F) ?_⟩;refine ⟨hI.ext.mono (fun k _ hk=>Kh k hk),hI.kle,TT,h.out,hI.fz,fun i x hi=>?_,fun i hi=>?_,fun i i' b hi pB=>?_,im,fun b o g hg=>?_,⟨hI.tab.le,hI.tab.pow,hI.tab.spc,fun i b hb=>(im i b hb).elim (fun ⟨j,hj⟩=>h.tab.free j b hj) (fun hs=>⟨by have:=h.tab.pow.lt;have hs:w.heap.size<=b:=hs;omega,by have:=h.tab.spc.lt;have hs:w.heap.size<=b:=hs;omega⟩)⟩⟩
 ·by_cases hj:∃ j,f j=i
  ·obtain ⟨j,rfl⟩:=hj;rw [s1 j,aV] at hi
   cases hc:rV[j]? with
   | none=>rw [hc] at hi;cases hi
   | some c =>
    rw [hc] at hi;cases hi;refine la.Cj ?_;have:=hI.ob j c hc;rw [show (fun j=>bN (f j))=Bc from funext hβ1];exact this
  ·have mR:∀ j,f j≠i:=fun j h=>hj ⟨j,h⟩
   rw [s2 i mR] at hi;refine (h.ob i x hi).ext hI.ext (fun b hb=>so i b mR hb) hI.kle TT (hβ2 i mR) (fun b o hb hk=>?_)
   cases mx:K' b o with
   | none=>rfl
   | some g =>
    rcases hI.kn b o g mx with h7 | h7 | h7
    ·have h7:K b o=some g:=h7;rw [hk] at h7;cases h7
    ·exact absurd h7 (so i b mR hb)
    ·have:=h.lt hb;have h7:w.heap.size<=b:=h7;omega
 ·rw [s3] at hi;have L:=YT i (by omega);rw [<-L,hβ1];exact hI.out _ (by omega)
 ·by_cases L:∃ j,f j=i <;> by_cases I:∃ j,f j=i'
  ·obtain ⟨j,rfl⟩:=L;obtain ⟨j',rfl⟩:=I;rw [hβ1] at hi pB;rw [hI.dis j j' b hi pB]
  ·obtain ⟨j,rfl⟩:=L
   have q9:∀ j,f j≠i':=fun j h=>I ⟨j,h⟩
   rw [hβ1] at hi;rw [hβ2 i' q9] at pB
   rcases hI.own j b hi with h7 | h7
   ·exact absurd h7 (so i' b q9 pB)
   ·have:=h.lt pB;have h7:w.heap.size<=b:=h7;omega
  ·obtain ⟨j,rfl⟩:=I
   have c7:∀ j,f j≠i:=fun j h=>L ⟨j,h⟩
   rw [hβ1] at pB;rw [hβ2 i c7] at hi
   rcases hI.own j b pB with h7 | h7
   ·exact absurd h7 (so i b c7 hi)
   ·have:=h.lt hi;have h7:w.heap.size<=b:=h7;omega
  ·rw [hβ2 i (fun j h=>L ⟨j,h⟩)] at hi;rw [hβ2 i' (fun j h=>I ⟨j,h⟩)] at pB;exact h.dis i i' b hi pB
 ·rcases hI.kn b o g hg with h7 | h7 | h7
  ·exact .inl h7
  ·exact .inr (.inl (Kh b h7))
  ·exact .inr (.inr h7)
end
section
variable {P:Program} {m:Nat} {Q:du} {fr:List GV} {F:List Ob} {ops:Array Oper} {rest:List Oper} {d:Option Tmp} {op:Op} {ty:TypeId} {pos:String} {af:Array Edge}
def seen (f:Nat->Nat) (F:List Ob):List Nat->List Ob->Prop
 | [],[]=>True
 | i::r,x::xs=>F[i]?=some (x.dX f)/\seen f F r xs
 | _,_=>False
theorem Eg {f:Nat->Nat} {F:List Ob} {n:Nat}:∀ {aL:List Nat} {iM:List Ob},seen f F aL iM->iM.length=aL.length/\∀ j x,iM[j]?=some x->F[ct aL n j]?=some (x.dX f)
 | [],[],_=>⟨rfl,fun j x h=>by simp at h⟩
 | i::r,y::ys,h=>by
  obtain ⟨L,I⟩:=h;obtain ⟨h3,h4⟩:=Eg (n:=n) I;refine ⟨by simp [h3],fun j x hx=>?_⟩
  cases j with
  | zero=>cases hx;exact L
  | succ j=>exact h4 j x hx
 | [],_::_,h=>h.elim
 | _::_,[],h=>h.elim
theorem GL.calls {f:FuncId} {aL:List Nat} {gs:List GV} {iM:List Ob} {R:GV->List Ob->Prop} {vs:List Value->List Value} (hr:∀ K β w l,FR K β fr l->bh K β (vs l) (lh (ct aL F.length) gs)/\(execOp (ev l) ⟨d,op,ty,pos,af,none⟩).run P w=.ok (.enter f (vs l).toArray) w)
  (eW:iZ aL F.length=true) (bG:seen (ct aL F.length) F aL iM) (hc:GC P f gs iM R)
  (h:∀ g aO,R g aO->aL.length<=aO.length/\GL P m ops Q rest (bx fr d (dX (ct aL F.length) g)) (dm F aL (aO.map (Ob.dX (ct aL F.length))))) :
  GL P m ops Q (⟨d,op,ty,pos,af,none⟩::rest) fr F:=fun B K β w l hm hI hF=>by
 obtain ⟨hl,hs⟩:=Eg (n:=F.length) bG;obtain ⟨ha,hr⟩:=hr K β w l hF;have hIc:=hI.enter eW hl hs
 have Bw:bh K (fun j=>β (ct aL F.length j)) (vs l) gs:=by
  rw [kO] at ha;exact ⟨by simpa using ha.1,fun i v g h5 h6=>(ha.2 i v (dX _ g) h5 (by rw [aV,h6];rfl)).B4⟩
 refine WL.calls hr (hc _ K _ w _ rfl hIc Bw) ?_;rintro v w' ⟨K',Bc,g,aO,bs,fv,hR⟩;obtain ⟨kl,h⟩:=h g aO hR;obtain ⟨bN,hK,hB,rp,rb⟩:=hI.leave eW hl kl bs;refine h B K' bN w' _ hm rb ((hF.mono hK hB).put d (Rel.Cj ?_));rw [show (fun j=>bN (ct aL F.length j))=Bc from funext rp];exact fv
theorem GL.ED {f:FuncId} [hf:aJ P f] (aL:List Nat) {x:Operand} {first cap:List GV} {args:List Operand} {lP:Array TypeId} {gs:List GV} {iM:List Ob} {R:GV->List Ob->Prop} (hc:GC P f gs iM R) (hx:ba fr x=.fn (.func f) first cap) (ha:first++args.map (ba fr)++cap=lh (ct aL F.length) gs) (eW:iZ aL F.length=true)
  (bG:seen (ct aL F.length) F aL iM) (h:∀ g aO,R g aO->aL.length<=aO.length/\GL P m ops Q rest (bx fr d (dX (ct aL F.length) g)) (dm F aL (aO.map (Ob.dX (ct aL F.length))))) :
  GL P m ops Q (⟨d,.call ⟨.value x,args.toArray,lP⟩,ty,pos,af,none⟩::rest) fr F :=
 GL.calls (vs:=fun l=>match ev l x with | .func _ a c=>a.toList++args.map (ev l)++c.toList | _=>[]) (fun K β w l hF=>by
  have hr:=hF.ev x;rw [hx] at hr;generalize hv:ev l x=v at hr
  cases hr with
  | fn _ xs ys _ _ L I h3 h4 =>
   refine ⟨?_,?_⟩
   ·rw [<-ha];exact (bh.app (bh.app ⟨L,h3⟩ (hF.args args)) ⟨I,h4⟩)
   ·simp [execOp,resolve,hv,Deferred.ofValue,invoke,mF]) eW bG hc h
theorem GL.VY {f:FuncId} [hf:aJ P f] (aL:List Nat) {x:Operand} {args:List Operand} {lP:Array TypeId} {gs:List GV} {iM:List Ob} {R:GV->List Ob->Prop} (hc:GC P f gs iM R) (hx:ba fr x=.v (.func (.func f) #[] #[])) (ha:args.map (ba fr)=lh (ct aL F.length) gs) (eW:iZ aL F.length=true)
  (bG:seen (ct aL F.length) F aL iM) (h:∀ g aO,R g aO->aL.length<=aO.length/\GL P m ops Q rest (bx fr d (dX (ct aL F.length) g)) (dm F aL (aO.map (Ob.dX (ct aL F.length))))) :
  GL P m ops Q (⟨d,.call ⟨.value x,args.toArray,lP⟩,ty,pos,af,none⟩::rest) fr F :=
 GL.calls (vs:=fun l=>args.map (ev l)) (fun K β w l hF=>⟨by rw [<-ha];exact hF.args args,by
  have hv:=hF.jI hx
  simp [execOp,resolve,hv,Deferred.ofValue,invoke,mF]⟩) eW bG hc h
end
def ot (ops:List Oper) (fr:List GV):Nat->Option (Option Bool):=fun j =>
 match jj ops j,(sN ops j).dst with
 | true,some t=>match jj fr t,cB fr t with
  | true,.v (.bool c)=>some (some c)
  | true,.v (.tuple _)=>some none
  | _,_=>none
 | _,_=>none
section
variable {P:Program} {m:Nat} {Q:du} {fr:List GV} {F:List Ob} {ops:Array Oper} {rest:List Oper} {d:Option Tmp} {op:Op} {ty:TypeId} {pos:String} {af:Array Edge}
theorem vO {K:Fz} {β:Bt} {l:List Value} {j:Nat} {b:Bool} {c:Option Bool} (hF:FR K β fr l) (h:ot ops.toList fr j=some c):DX (some (j,b)) ops.toList l=true/\gv ops.toList l (j,b)=c:=by
 unfold ot at h;split at h
 ·rename_i t L I;split at h
  ·rename_i c' h3 h4;cases h;have hv:nth l t=.bool c':=Rel.fD (by rw [<-h4];exact hF.nth t);have hl:=nE hF h3;simp only [DX,gv,L,I,hl,hv,Bool.and_self];exact ⟨trivial,trivial⟩
  ·rename_i vs h3 h4;cases h;have hv:nth l t=.tuple vs:=Rel.fD (by rw [<-h4];exact hF.nth t);have hl:=nE hF h3;simp only [DX,gv,L,I,hl,hv,Bool.and_self];exact ⟨trivial,trivial⟩
  ·cases h
 ·cases h
theorem GL.gt {gd:Nat × Bool} {c:Bool} (hv:ot ops.toList fr gd.1=some (some c)) (hc:c=gd.2) (h:GL P m ops Q (⟨d,op,ty,pos,af,none⟩::rest) fr F):GL P m ops Q (⟨d,op,ty,pos,af,some gd⟩::rest) fr F:=fun B K β w l hm hI hF=>by
 obtain ⟨L,I⟩:=vO (b:=gd.2) hF hv;exact Xw.GT L I hc (h B K β w l hm hI hF)
theorem GL.gf {gd:Nat × Bool} {c:Bool} (hv:ot ops.toList fr gd.1=some (some c)) (hc:c=!gd.2) (h:GL P m ops Q rest (bx fr d (.v undef)) F):GL P m ops Q (⟨d,op,ty,pos,af,some gd⟩::rest) fr F:=fun B K β w l hm hI hF=>by
 obtain ⟨L,I⟩:=vO (b:=gd.2) hF hv;exact Xw.GF L I hc (h B K β w _ hm hI (hF.put d (.v _)))
theorem GL.gu {gd:Nat × Bool} (hv:ot ops.toList fr gd.1=some none) (h:GL P m ops Q rest (bx fr d (.v undef)) F):GL P m ops Q (⟨d,op,ty,pos,af,some gd⟩::rest) fr F:=fun B K β w l hm hI hF=>by
 obtain ⟨L,I⟩:=vO (b:=gd.2) hF hv;exact Xw.GU L I (h B K β w _ hm hI (hF.put d (.v _)))
end
def gG (ops:List Oper) (fr:List GV):Option (Nat × Bool)->Option Bool
 | none=>some true
 | some (j,b)=>match ot ops fr j with
  | some (some c)=>some (c==b)
  | some none=>some false
  | none=>none
theorem IA {ops:Array Oper} {K:Fz} {β:Bt} {fr:List GV} {l:List Value} {o:Oper} {c:Bool} (hF:FR K β fr l) (h:gG ops.toList fr o.guard=some c):Region.wanted o (yielded ops (act l).tmps)=c:=by
 obtain ⟨d,op,ty,pos,af,gd⟩:=o
 cases gd with
 | none=>simp only [gG] at h;cases h;rfl
 | some gd =>
  obtain ⟨j,b⟩:=gd;simp only [gG] at h;split at h
  ·rename_i c' hc;cases h;obtain ⟨L,I⟩:=vO (b:=b) hF hc;rw [wJ L]
   cases zW:(c'==b) with
   | true=>exact Of I (by simpa using zW)
   | false=>exact Oe I (by cases c' <;> cases b <;> simp_all)
  ·rename_i hc;cases h;obtain ⟨L,I⟩:=vO (b:=b) hF hc;rw [wJ L];exact Og I
  ·cases h
def D8 (P:Program) (o:Oper) (e:Operand->Value) (w:World) (Kv:Value->World->Prop):Prop :=
 match (execOp e o).run P w with
 | .ok (.value v) w'=>Kv v w'
 | .ok .skip w'=>Kv undef w'
 | .ok (.enter f args) w'=>Calls P f args w' fun e Ry=>∃ v,e=.returned v/\Kv v Ry
 | .ok (.row row args) w'=>Rows P row args w' Kv
 | _=>False
theorem Ve {P:Program} {o:Oper} {a:Act} {w:World} {Kv:Value->World->Prop} {next:Act->World->Prop} {Q:Exit->Act->World->Prop} (h:D8 P o a.eval w Kv) (hn:∀ v w',Kv v w'->next (a.put o.dst v) w'):o.wp P a w next Q:=by
 unfold D8 at h;unfold Oper.wp;generalize (execOp a.eval o).run P w=r at *
 cases r with
 | ok n w' =>
  cases n <;> simp only [Oper.upon] at h |- <;> first
   | exact hn _ _ h
   | exact Calls.mono h (fun e Ry ⟨v,he,hv⟩=>by subst he;exact hn _ _ hv)
   | exact Rows.mono h (fun _ _ hv=>hn _ _ hv)
   | exact h.elim
 | halt x w'=>exact h.elim
theorem VK {P:Program} {o:Oper} {a:Act} {w:World} {Kv:Value->World->Prop} {next:Act->World->Prop} {Q:Exit->Act->World->Prop} (h:o.wp P a w next Q) (hQ:∀ c a w,¬ Q (.panic c) a w) (hQ':∀ a w,¬ Q .outgrown a w) (hn:∀ v w',next (a.put o.dst v) w'->Kv v w')
  (hd:∀ d w',¬ next ({ a with defers:=d::a.defers }.put o.dst undef) w'):D8 P o a.eval w Kv:=by
 unfold D8;unfold Oper.wp at h;generalize (execOp a.eval o).run P w=r at *
 cases r with
 | ok n w' =>
  cases n <;> simp only [Oper.upon] at h |- <;> first
   | exact hn _ _ h
   | exact Calls.mono h (fun e Ry he=>by
     cases e with
     | returned v=>exact ⟨v,rfl,hn _ _ he⟩
     | panicked c=>exact (hQ _ _ _ he).elim
     | outgrown=>obtain ⟨a0,w0,hf⟩:=he;exact (hQ' _ _ hf).elim)
   | exact Rows.mono h (fun _ _ hv=>hn _ _ hv)
   | exact h.elim
   | exact absurd h (hd _ _)
 | halt x w' =>
  cases x <;> simp only [Oper.upon] at h
  exact (hQ _ _ _ h).elim
def c8 (ts:List Nat):Nat->List GV->List GV
 | _,[]=>[]
 | k,g::gs=>(match ts.contains k with | true=>g | false=>.U)::c8 ts (k+1) gs
theorem FR.mask {K:Fz} {β:Bt} {ts:List Nat} {fr:List GV} {l:List Value} (h:FR K β fr l):∀ k,FR K β (c8 ts k fr) l:=by
 induction h with
 | nil=>intro k;exact .nil
 | cons h t ih =>
  intro k;rw [c8];split
  ·exact .cons h (ih _)
  ·exact .cons (.U _) (ih _)
theorem PN {ts:List Nat} {d:Option Tmp} {g:GV} (hd:∀ t,d=some t->t ∉ ts) (fr:List GV):c8 ts 0 (bx fr d g)=c8 ts 0 fr:=by
 cases d with
 | none=>rfl
 | some t =>
  have hd:=hd t rfl
  have gen:∀ (fr:List GV) (k t:Nat),k+t ∉ ts->c8 ts k (bo fr t g)=c8 ts k fr:=by
   intro fr
   induction fr with
   | nil=>intro k t _;rfl
   | cons x fr ih =>
    intro k t h
    cases t with
    | zero =>
     have hc:ts.contains k=false:=by
      cases hb:ts.contains k with
      | false=>rfl
      | true=>exact absurd (nu.1 hb) (by simpa using h)
     simp only [bo,c8,hc]
    | succ t=>simp only [bo,c8];rw [ih (k+1) t (by rw [show k+1+t=k+(t+1) by omega];exact h)]
  exact gen fr 0 t (by simpa using hd)
section
variable {P:Program} {ops:Array Oper}
def YQ (P:Program) (ops:Array Oper) (i:Nat) (g:GV) (fr:List GV) (F:List Ob):Prop :=
 ∃ o c,ops[i]?=some o/\gG ops.toList (c8 (o.looksAt ops) 0 fr) o.guard=some c/\match c with
  | true=>YG P o.op (c8 (o.looksAt ops) 0 fr) F g
  | false=>g=.v undef
abbrev lT:=List (Nat × GV × List GV)
def GA (P:Program) (o:Oper) (Kt:GV->List Ob->Prop) (fr:List GV) (F:List Ob):Prop :=
 ∀ B K β w l,Inv B K β F w->FR K β fr l->D8 P o (ev l) w fun v w'=>∃ K' bN g aO,cU K K'/\dp β bN/\Inv B K' bN aO w'/\(∀ fr l,FR K' bN fr l->FR K' bN (bx fr o.dst g) (put l o.dst v))/\Kt g aO
def GI (P:Program) (ops:Array Oper) (i:Nat) (Kt:GV->List Ob->Prop) (fr:List GV) (F:List Ob):Prop :=
 ∃ o c,ops[i]?=some o/\gG ops.toList fr o.guard=some c/\match c with
  | true=>GA P o Kt fr F
  | false=>Kt (.v undef) F
def lV (ops:Array Oper) (i:Nat):Option Tmp:=(ops[i]?).bind (·.dst)
def waits (ops:Array Oper) (i j:Nat):Bool:=match ops[i]? with
 | some o=>o.after.any fun e=>Region.binds .any e&&e.on==j
 | none=>false
def stay (ops:Array Oper) (i:Nat) (bb:lT):lT:=bb.filter fun p=>!waits ops i p.1
def ql (P:Program) (ops:Array Oper) (Q:List GV->List Ob->Prop):Nat->lT->Array Bool->List GV->List Ob->Prop
 | 0,_,listed,fr,F=>Region.ready .any ops listed=[]/\Q fr F
 | n+1,bb,listed,fr,F=>(Region.ready .any ops listed=[]->Q fr F) /\
   ∀ i∈Region.ready .any ops listed,GI P ops i (fun g aO=>(∀ p∈stay ops i bb,YQ P ops p.1 p.2.1 p.2.2 aO)/\ql P ops Q n (stay ops i bb) (listed.setIfInBounds i true) (bx fr (lV ops i) g) aO) fr F
theorem GA.mono {o:Oper} {Kt EU:GV->List Ob->Prop} {fr:List GV} {F:List Ob} (h:GA P o Kt fr F) (hk:∀ g aO,Kt g aO->EU g aO):GA P o EU fr F:=fun B K β w l hI hF=>by
 have:=h B K β w l hI hF;unfold D8 at *;generalize (execOp (ev l) o).run P w=r at *
 have key:∀ v w',(∃ K' bN g aO,cU K K'/\dp β bN/\Inv B K' bN aO w'/\(∀ fr l,FR K' bN fr l->FR K' bN (bx fr o.dst g) (put l o.dst v))/\Kt g aO)->∃ K' bN g aO,cU K K'/\dp β bN/\Inv B K' bN aO w'/\(∀ fr l,FR K' bN fr l->FR K' bN (bx fr o.dst g) (put l o.dst v))/\EU g aO :=
  fun v w' ⟨K',bN,g,aO,L,I,h3,h4,h5⟩=>⟨K',bN,g,aO,L,I,h3,h4,hk _ _ h5⟩
 cases r with
 | ok n w'=>cases n <;> simp only at this |- <;> first
   | exact key _ _ this
   | exact Calls.mono this (fun e Ry ⟨v,he,hv⟩=>⟨v,he,key _ _ hv⟩)
   | exact Rows.mono this (fun _ _ hv=>key _ _ hv)
   | exact this.elim
 | halt x w'=>exact this.elim
theorem GI.mono {i:Nat} {Kt EU:GV->List Ob->Prop} {fr:List GV} {F:List Ob} (h:GI P ops i Kt fr F) (hk:∀ g aO,Kt g aO->EU g aO):GI P ops i EU fr F:=by
 obtain ⟨o,c,L,I,h3⟩:=h;refine ⟨o,c,L,I,?_⟩
 cases c with
 | true=>exact GA.mono h3 hk
 | false=>exact hk _ _ h3
theorem ql.QE {Q:List GV->List Ob->Prop}:∀ (n:Nat) (bb ej:lT) (listed:Array Bool) (fr:List GV) (F:List Ob),(∀ p∈ej,p∈bb)->ql P ops Q n bb listed fr F->ql P ops Q n ej listed fr F
 | 0,_,_,_,_,_,_,h=>h
 | n+1,bb,ej,listed,fr,F,hs,h=>⟨h.1,fun i hi=>(h.2 i hi).mono fun g aO ⟨L,I⟩=>by
  have o9:∀ p∈stay ops i ej,p∈stay ops i bb:=fun p hp=>by
   simp only [stay,mem_filter] at hp |-;exact ⟨hs p hp.1,hp.2⟩
  exact ⟨fun p hp=>L p (o9 p hp),ql.QE n _ _ _ _ _ o9 I⟩⟩
theorem ql.sound {m:Nat} {Q:List GV->List Ob->Prop} {B:Bs} {Q':du} (hm:B.m=m) (hQ:∀ fr F,Q fr F->Q' .normal fr F):∀ (n:Nat) (bb:lT) (listed:Array Bool) (fr:List GV) (F:List Ob) (K:Fz) (β:Bt) (w:World) (l:List Value),
  ql P ops Q n bb listed fr F->Inv B K β F w->FR K β fr l->wpAny P .any ops (lift (gl B Q')) n listed (act l) w
 | 0,_,_,fr,F,K,β,w,l,h,hI,hF=>⟨h.1,l,rfl,K,β,fr,F,hI,hF,hQ _ _ h.2⟩
 | n+1,bb,listed,fr,F,K,β,w,l,h,hI,hF=>by
  refine ⟨fun h0=>⟨l,rfl,K,β,fr,F,hI,hF,hQ _ _ (h.1 h0)⟩,fun i hi=>?_⟩;obtain ⟨o,c,ho,hg,hc⟩:=h.2 i hi;have hw:=IA hF hg;unfold wpOp;simp only [ho,hw]
  have hd:lV ops i=o.dst:=by simp [lV,ho]
  cases c with
  | true =>
   simp only [if_true];refine .inl (Ve (by rw [og];exact hc B K β w l hI hF) ?_);rintro v w' ⟨K',bN,g,aO,hK,hB,bs,hf,L,I⟩;rw [pZ];rw [hd] at I;exact ql.sound hm hQ n _ _ _ _ K' bN w' _ I bs (hf _ _ (hF.mono hK hB))
  | false =>
   simp only [Bool.false_eq_true,if_false];rw [pZ];obtain ⟨L,I⟩:=hc;rw [hd] at I;exact ql.sound hm hQ n _ _ _ _ K β w _ I hI (hF.put o.dst (.v _))
theorem Hv {fr:List GV} {t t':Nat} (h:t'≠t) (g:GV):cB (bo fr t g) t'=cB fr t':=by
 induction fr generalizing t t' with
 | nil=>rfl
 | cons x l ih=>cases t with
  | zero=>cases t' with | zero=>exact absurd rfl h | succ t'=>rfl
  | succ t=>cases t' with | zero=>rfl | succ t'=>exact ih (fun e=>h (by rw [e]))
theorem IW {fr:List GV} {t t':Nat} {g:GV}:jj (bo fr t g) t'=jj fr t':=by
 induction fr generalizing t t' with
 | nil=>rfl
 | cons x l ih=>cases t with
  | zero=>cases t' <;> rfl
  | succ t=>cases t' with | zero=>rfl | succ t'=>exact ih
theorem TJ {o:Oper} {fr:List GV} {d:Option Tmp} {g:GV} (h:∀ t,d=some t->t ∉ o.looksAt ops):gG ops.toList (bx fr d g) o.guard=gG ops.toList fr o.guard:=by
 cases d with
 | none=>rfl
 | some t =>
  have h:=h t rfl;obtain ⟨d',op,ty,pos,af,gd⟩:=o
  cases gd with
  | none=>rfl
  | some gd =>
   obtain ⟨j,b⟩:=gd
   have cr:∀ t',jj ops.toList j=true->(sN ops.toList j).dst=some t'->t'≠t:=fun t' hj FU he=>by
    subst he;apply h;have mR:=Jd ops.toList j (BP hj);simp only [Array.toArray_toList] at mR;simp [Oper.looksAt,mR,FU]
   have hv:ot ops.toList (bo fr t g) j=ot ops.toList fr j:=by
    unfold ot
    cases fi:jj ops.toList j with
    | false=>rfl
    | true =>
     cases hd:(sN ops.toList j).dst with
     | none=>rfl
     | some t' =>
      simp only;rw [IW,Hv (cr t' fi hd)]
   simp only [gG,bx,hv]
theorem YQ.at {i:Nat} {g:GV} {fr:List GV} {F:List Ob} {o:Oper} (h:YQ P ops i g fr F) (ho:ops[i]?=some o) {B:Bs} {K:Fz} {β:Bt} {w:World} {l:List Value} (hI:Inv B K β F w) (hF:FR K β fr l):∃ v,Rel K β v g/\((Region.wanted o (yielded ops (act l).tmps)=true/\(execOp (ev l) o).run P w=.ok (.value v) w)\/(Region.wanted o (yielded ops (act l).tmps)=false/\v=undef)):=by
 obtain ⟨o',c,L,I,h3⟩:=h;rw [ho] at L;cases L;have hw:=IA (hF.mask (ts:=o.looksAt ops) 0) I
 cases c with
 | true =>
  obtain ⟨v,hr,hv⟩:=h3 B K β w l hI (hF.mask 0);exact ⟨v,hv,.inl ⟨hw,by obtain ⟨d,op,ty,pos,af,gd⟩:=o;exact hr d ty pos af⟩⟩
 | false=>subst h3;exact ⟨undef,.v _,.inr ⟨hw,rfl⟩⟩
theorem GI.comm {i j:Nat} {g:GV} {oi oj:Oper} {Kt:GV->List Ob->Prop} {fr:List GV} {F:List Ob} (hi:ops[i]?=some oi) (hj:ops[j]?=some oj) (QQ:oi.apart ops oj=true) (hsj:∀ cs b,oj.op≠.select cs b) (hy:YQ P ops i g fr F)
  (h:GI P ops j Kt (bx fr oi.dst g) F):GI P ops j Kt fr F:=by
 obtain ⟨a1,a2,a3⟩:=Oper.apart_spec QQ;obtain ⟨o,c,L,I,h3⟩:=h;rw [hj] at L;cases L;rw [TJ a1] at I;refine ⟨oj,c,hj,I,?_⟩
 cases c with
 | false=>exact h3
 | true =>
  intro B K β w l hI hF;obtain ⟨v,hv,_⟩:=hy.at hi hI hF;have:=h3 B K β w (put l oi.dst v) hI (hF.put _ hv)
  have he:execOp (ev (put l oi.dst v)) oj=execOp (ev l) oj:=by
   have:=execOp_put oj hsj (act l) oi.dst v a1;rw [pZ,og,og] at this;exact this
  unfold D8 at this |-;rw [he] at this;exact this
theorem ql.first {Q:List GV->List Ob->Prop} {i:Nat} {oi:Oper} {g:GV} {py:List GV} (hi:ops[i]?=some oi) (Ph:∀ (j:Nat) (o:Oper) cs b,ops[j]?=some o->o.op≠.select cs b) :
  ∀ (n:Nat) (bb:lT) (listed:Array Bool) (fr:List GV) (F:List Ob),
   (∀ j oj,ops[j]?=some oj->j≠i->listed.getD j true=false->(∀ e∈oj.after,Region.binds .any e=true->e.on≠i)->oi.apart ops oj=true) ->
   i∈Region.ready .any ops listed->c8 (oi.looksAt ops) 0 fr=c8 (oi.looksAt ops) 0 py->YQ P ops i g py F->(∀ p∈bb,YQ P ops p.1 p.2.1 p.2.2 F) ->
   ql P ops Q n ((i,g,py)::bb) (listed.setIfInBounds i true) (bx fr oi.dst g) F->ql P ops Q (n+1) bb listed fr F:=by
 have hd:lV ops i=oi.dst:=by simp [lV,hi]
 have VG:∀ {fr:List GV} {F:List Ob},c8 (oi.looksAt ops) 0 fr=c8 (oi.looksAt ops) 0 py->YQ P ops i g py F->YQ P ops i g fr F:=by
  rintro fr F hm ⟨o,c,L,I,h3⟩;rw [hi] at L;cases L;exact ⟨oi,c,hi,by rw [hm];exact I,by rw [hm];exact h3⟩
 have self:∀ (n:Nat) (bb:lT) (listed:Array Bool) (fr:List GV) (F:List Ob),c8 (oi.looksAt ops) 0 fr=c8 (oi.looksAt ops) 0 py->YQ P ops i g py F->(∀ p∈bb,YQ P ops p.1 p.2.1 p.2.2 F) ->
   ql P ops Q n ((i,g,py)::bb) (listed.setIfInBounds i true) (bx fr oi.dst g) F ->
   GI P ops i (fun g aO=>(∀ p∈stay ops i bb,YQ P ops p.1 p.2.1 p.2.2 aO)/\ql P ops Q n (stay ops i bb) (listed.setIfInBounds i true) (bx fr (lV ops i) g) aO) fr F:=by
  intro n bb listed fr F ug hy hp H
  have cz:∀ p∈stay ops i bb,p∈bb:=fun p hp=>by simp only [stay,mem_filter] at hp;exact hp.1
  have H':ql P ops Q n (stay ops i bb) (listed.setIfInBounds i true) (bx fr (lV ops i) g) F:=by
   rw [hd];exact ql.QE n _ _ _ _ _ (fun p hp=>di _ (cz p hp)) H
  obtain ⟨o,c,L,I,h3⟩:=VG ug hy;rw [hi] at L;cases L
  have q9:gG ops.toList fr oi.guard=some c:=by
   obtain ⟨d',op,ty,pos,af,gd⟩:=oi
   cases gd with
   | none=>exact I
   | some gd =>
    obtain ⟨j,b⟩:=gd;simp only [gG] at I |-
    have hv:∀ x,ot ops.toList (c8 (Oper.looksAt ops ⟨d',op,ty,pos,af,some (j,b)⟩) 0 fr) j=some x->ot ops.toList fr j=some x:=by
     intro x hx;unfold ot at hx |-
     cases fi:jj ops.toList j with
     | false=>rw [fi] at hx;cases hx
     | true =>
      rw [fi] at hx
      cases hdt:(sN ops.toList j).dst with
      | none=>rw [hdt] at hx;cases hx
      | some t =>
       rw [hdt] at hx;simp only at hx |-
       have sV:∀ (ts:List Nat) (fr:List GV) (k t:Nat),jj (c8 ts k fr) t=jj fr t:=by
        intro ts fr
        induction fr with
        | nil=>intro k t;rfl
        | cons x fr ih=>intro k t;cases t with | zero=>rfl | succ t=>exact ih (k+1) t
       have hgn:∀ (ts:List Nat) (fr:List GV) (k t:Nat) ,cB (c8 ts k fr) t=cB fr t\/cB (c8 ts k fr) t=.U:=by
        intro ts fr
        induction fr with
        | nil=>intro k t;exact .inl rfl
        | cons x fr ih =>
         intro k t
         cases t with
         | zero=>simp only [c8,cB];split <;> first | exact .inl rfl | exact .inr rfl
         | succ t=>exact ih (k+1) t
       rw [sV] at hx
       rcases hgn (Oper.looksAt ops ⟨d',op,ty,pos,af,some (j,b)⟩) fr 0 t with h | h
       ·rw [h] at hx;exact hx
       ·rw [h] at hx
        split at hx <;> first | (rename_i h5;cases h5;done) | cases hx
    split at I
    ·rename_i c' hc;rw [hv _ hc];exact I
    ·rename_i hc;rw [hv _ hc];exact I
    ·cases I
  refine ⟨oi,c,hi,q9,?_⟩
  have kZ:∀ p∈stay ops i bb,YQ P ops p.1 p.2.1 p.2.2 F:=fun p hq=>hp p (cz p hq)
  cases c with
  | true =>
   intro B K β w l hI hF;obtain ⟨v,hr,hv⟩:=h3 B K β w l hI (hF.mask 0)
   have nQ:(execOp (ev l) oi).run P w=.ok (.value v) w:=by obtain ⟨d,op,ty,pos,af,gd⟩:=oi;exact hr d ty pos af
   unfold D8;rw [nQ];exact ⟨K,β,g,F,cU.refl K,dp.refl β,hI,fun fr l hf=>hf.put _ hv,kZ,H'⟩
  | false =>
   simp only at h3;subst h3;exact ⟨kZ,H'⟩
 intro n
 induction n with
 | zero =>
  intro bb listed fr F _ hr ug hy hp H;refine ⟨fun h=>(by rw [h] at hr;cases hr),fun j hj=>?_⟩
  by_cases hji:j=i
  ·subst hji;exact self 0 bb listed fr F ug hy hp H
  ·have:=ready_mono hj hji;rw [H.1] at this;cases this
 | succ n ih =>
  intro bb listed fr F QU hr ug hy hp H;refine ⟨fun h=>(by rw [h] at hr;cases hr),fun j hj=>?_⟩
  by_cases hji:j=i
  ·subst hji;exact self (n+1) bb listed fr F ug hy hp H
  ·have L:=H.2 j (ready_mono hj hji);obtain ⟨Uq,oj,MJ,aY⟩:=mem_ready.1 hj
   have UB:∀ e∈oj.after,Region.binds .any e=true->e.on≠i:=fun e he hb heq=>by
    have L:=aY e he hb;have h0:=(mem_ready.1 hr).1;rw [heq] at L
    rcases Nat.lt_or_ge i listed.size with h' | h'
    ·simp [h'] at h0 L;rw [h0] at L;cases L
    ·simp [Array.getElem?_eq_none h'] at L
   have QQ:=QU j oj MJ hji Uq UB;obtain ⟨a1,a2,a3⟩:=Oper.apart_spec QQ
   have sX:waits ops j i=false:=by
    simp only [waits,MJ];rw [Array.any_eq_false'];intro e he hb;simp only [aH,beq_iff_eq] at hb;exact UB e he hb.1 hb.2
   have cz:stay ops j ((i,g,py)::bb)=(i,g,py)::stay ops j bb:=by
    simp [stay,List.filter_cons,sX]
   rw [cz] at L;have I:=GI.comm hi MJ QQ (fun cs b=>Ph j oj cs b MJ) (VG ug hy) L
   have Xm:lV ops j=oj.dst:=by simp [lV,MJ]
   have Un:∀ k ok,ops[k]?=some ok->k≠i->(listed.setIfInBounds j true).getD k true=false ->
     (∀ e∈ok.after,Region.binds .any e=true->e.on≠i)->oi.apart ops ok=true:=fun k ok hk dI XK cV=>by
    refine QU k ok hk dI ?_ cV
    by_cases hjk:j=k
    ·subst hjk;exact Uq
    ·rw [getD_set_ne true hjk] at XK;exact XK
   refine I.mono fun gj aO ⟨h3,h4⟩=>⟨fun p hp=>h3 p (di _ hp),?_⟩
   refine ih (stay ops j bb) (listed.setIfInBounds j true) (bx fr (lV ops j) gj) aO Un (ready_mono hr (Ne.symm hji)) ?_ (h3 (i,g,py) (mem_cons_self)) (fun p hp=>h3 p (di _ hp)) ?_
   ·rw [<-ug,Xm];exact PN a3 fr
   ·rw [Array.setIfInBounds_comm _ _ hji]
    have Wc:bx (bx fr (lV ops j) gj) oi.dst g=bx (bx fr oi.dst g) (lV ops j) gj:=by
     rw [Xm]
     cases hdi:oi.dst with
     | none=>rfl
     | some t =>
      cases hdj':oj.dst with
      | none=>rfl
      | some u =>
       have cr:t≠u:=fun e=>a2 t hdi (by rw [hdj',e])
       have gen:∀ (fr:List GV) (t u:Nat),t≠u->bo (bo fr u gj) t g=bo (bo fr t g) u gj:=by
        intro fr
        induction fr with
        | nil=>intro t u _;rfl
        | cons x fr ih =>
         intro t u h
         cases t with
         | zero=>cases u with | zero=>exact absurd rfl h | succ u=>rfl
         | succ t=>cases u with | zero=>rfl | succ u=>simp only [bo];rw [ih t u (fun e=>h (by rw [e]))]
       exact gen fr t u cr
    rw [Wc];exact h4
inductive Ot where
 | nil
 | q (i:Nat) (r:Ot)
 | a (i:Nat) (r:Ot)
 | f (i:Nat) (r:Ot) (j:Nat) (s:Ot)
def Ot.len:Ot->Nat
 | .nil=>0
 | .q _ r=>r.len+1
 | .a _ r=>r.len+1
 | .f _ r _ _=>r.len+1
def ux (ops:Array Oper):Ot->Array Bool->Bool
 | .nil,listed=>(Region.ready .any ops listed).isEmpty
 | .q i r,listed=>(Region.ready .any ops listed).contains i&&Region.free .any ops listed i&&ux ops r (listed.setIfInBounds i true)
 | .a i r,listed=>(Region.ready .any ops listed==[i])&&ux ops r (listed.setIfInBounds i true)
 | .f i r j s,listed=>(Region.ready .any ops listed==[i,j])&&ux ops r (listed.setIfInBounds i true)&&ux ops s (listed.setIfInBounds j true)&&(r.len==s.len)
def GO (P:Program) (ops:Array Oper) (Q:List GV->List Ob->Prop):Ot->lT->List GV->List Ob->Prop
 | .nil,_,fr,F=>Q fr F
 | .q i r,bb,fr,F=>∃ g,YQ P ops i g fr F/\GO P ops Q r ((i,g,fr)::bb) (bx fr (lV ops i) g) F
 | .a i r,bb,fr,F=>GI P ops i (fun g aO=>(∀ p∈stay ops i bb,YQ P ops p.1 p.2.1 p.2.2 aO)/\GO P ops Q r (stay ops i bb) (bx fr (lV ops i) g) aO) fr F
 | .f i r j s,bb,fr,F=>GI P ops i (fun g aO=>(∀ p∈stay ops i bb,YQ P ops p.1 p.2.1 p.2.2 aO)/\GO P ops Q r (stay ops i bb) (bx fr (lV ops i) g) aO) fr F/\GI P ops j (fun g aO=>(∀ p∈stay ops j bb,YQ P ops p.1 p.2.1 p.2.2 aO)/\GO P ops Q s (stay ops j bb) (bx fr (lV ops j) g) aO) fr F
theorem GO.fork {ops:Array Oper} {Q:List GV->List Ob->Prop} {i j:Nat} {r s:Ot} {bb:lT} {fr:List GV} {F:List Ob} (L:GO P ops Q (.a i r) bb fr F) (I:GO P ops Q (.a j s) bb fr F):GO P ops Q (.f i r j s) bb fr F:=⟨L,I⟩
theorem GO.all {ol:List Oper} {Q:List GV->List Ob->Prop} (hs:Region.noSelect ol.toArray=true):∀ (ord:Ot) (bb:lT) (listed:Array Bool) (fr:List GV) (F:List Ob),
  ux ol.toArray ord listed=true->(∀ p∈bb,YQ P ol.toArray p.1 p.2.1 p.2.2 F)->GO P ol.toArray Q ord bb fr F->ql P ol.toArray Q ord.len bb listed fr F
 | .nil,bb,listed,fr,F,ho,_,h=>⟨by simpa [ux] using ho,h⟩
 | .q i r,bb,listed,fr,F,ho,hp,h=>by
  simp only [ux,aH] at ho;obtain ⟨⟨hr,hf⟩,ho⟩:=ho;obtain ⟨g,hy,h⟩:=h
  have CP:i∈Region.ready .any ol.toArray listed:=by simpa using hr
  obtain ⟨_,o,hi,_⟩:=mem_ready.1 CP
  have hd:lV ol.toArray i=o.dst:=by simp only [lV,hi];rfl
  rw [hd] at h
  exact ql.first hi (Region.noSelect_spec hs) _ bb listed fr F (Region.free_spec hi hf) CP rfl hy hp (GO.all hs r _ _ _ _ ho (fun p kZ=>by
   rcases dA kZ with rfl | kZ
   ·exact hy
   ·exact hp p kZ) h)
 | .a i r,bb,listed,fr,F,ho,hp,h=>by
  simp only [ux,aH,beq_iff_eq] at ho;obtain ⟨hr,ho⟩:=ho;refine ⟨fun h0=>by rw [h0] at hr;simp at hr,fun j hj=>?_⟩;rw [hr,List.mem_singleton] at hj;subst hj
  exact GI.mono h fun g aO ⟨L,I⟩=>⟨L,GO.all hs r _ _ _ _ ho L I⟩
 | .f i r j s,bb,listed,fr,F,ho,hp,h=>by
  simp only [ux,aH,beq_iff_eq] at ho;obtain ⟨⟨⟨hr,ho1⟩,ho2⟩,hl⟩:=ho;refine ⟨fun h0=>by rw [h0] at hr;simp at hr,fun k hk=>?_⟩;rw [hr] at hk;simp only [List.mem_cons,List.not_mem_nil,or_false] at hk
  rcases hk with rfl | rfl
  ·exact GI.mono h.1 fun g aO ⟨L,I⟩=>⟨L,GO.all hs r _ _ _ _ ho1 L I⟩
  ·exact GI.mono h.2 fun g aO ⟨L,I⟩=>⟨L,by
    have:=GO.all hs s _ _ _ _ ho2 L I
    rw [<-hl] at this;exact this⟩
theorem GW.draw {m id:Nat} {ol:List Oper} {Q:du} {fr:List GV} {F:List Ob} (ord:Ot) (hm:P.follows .mixedOrders=true)
  (eW:(Region.noSelect ol.toArray&&(ord.len==ol.length)&&ux ol.toArray ord (Array.replicate ol.toArray.size false))=true)
  (h:GO P ol.toArray (Q .normal) ord [] fr F):GW P m (.region id ol.toArray true) Q fr F:=fun B K β w l hB hI hF=>by
 simp only [aH,beq_iff_eq] at eW;obtain ⟨⟨hs,hl⟩,ho⟩:=eW;refine wp_region_any hm ?_;have L:=GO.all hs ord [] _ fr F ho (fun p hp=>by cases hp) h;rw [hl] at L;have I:=ql.sound (Q':=Q) hB (fun fr F h=>h) _ _ _ _ _ K β w.drew l L (hI.same (Ext.drew w)) hF;simpa using I
end
def kr:List Oper->Nat->Option Oper
 | [],_=>none
 | o::_,0=>some o
 | _::r,n+1=>kr r n
theorem rE {ol:List Oper} {i:Nat} {o:Oper} (h:kr ol i=some o):ol.toArray[i]?=some o:=by
 have:∀ (ol:List Oper) (i:Nat),kr ol i=ol[i]?:=by
  intro ol
  induction ol with
  | nil=>intro i;rfl
  | cons x ol ih=>intro i;cases i with | zero=>rfl | succ i=>simpa [kr] using ih i
 rw [this] at h;simpa using h
section
variable {P:Program} {Q:List GV->List Ob->Prop} {ol:List Oper} {r:Ot} {bb:lT} {fr:List GV} {F:List Ob} {i:Nat} {g:GV} {d:Option Tmp} {op:Op} {ty:TypeId} {pos:String} {af:Array Edge} {gd:Nat × Bool}
theorem vL {o:Oper} (h:kr ol i=some o):lV ol.toArray i=o.dst:=by simp only [lV,rE h];rfl
theorem GO.more {ops:Array Oper}:∀ (r:Ot) (bb ej:lT) (fr:List GV) (F:List Ob),(∀ p∈ej,p∈bb\/∀ F,YQ P ops p.1 p.2.1 p.2.2 F)->GO P ops Q r bb fr F->GO P ops Q r ej fr F
 | .nil,_,_,_,_,_,h=>h
 | .q i r,bb,ej,fr,F,hs,⟨g,L,I⟩=>⟨g,L,GO.more r _ _ _ _ (fun p hp=>by
   rcases dA hp with rfl | hp
   ·exact .inl (mem_cons_self)
   ·exact (hs p hp).imp (di _) id) I⟩
 | .a i r,bb,ej,fr,F,hs,h=>GI.mono h fun g aO ⟨L,I⟩=>by
   have o9:∀ p∈stay ops i ej,p∈stay ops i bb\/∀ F,YQ P ops p.1 p.2.1 p.2.2 F:=fun p hp=>by
    simp only [stay,mem_filter] at hp |-;exact (hs p hp.1).imp (fun h=>⟨h,hp.2⟩) id
   exact ⟨fun p hp=>(o9 p hp).elim (L p) (fun h=>h aO),GO.more r _ _ _ _ o9 I⟩
 | .f i r j s,bb,ej,fr,F,hs,h=>by
   have o9:∀ k,∀ p∈stay ops k ej,p∈stay ops k bb\/∀ F,YQ P ops p.1 p.2.1 p.2.2 F:=fun k p hp=>by
    simp only [stay,mem_filter] at hp |-;exact (hs p hp.1).imp (fun h=>⟨h,hp.2⟩) id
   exact ⟨GI.mono h.1 fun g aO ⟨L,I⟩=>⟨fun p hp=>(o9 i p hp).elim (L p) (fun h=>h aO),GO.more r _ _ _ _ (o9 i) I⟩,GI.mono h.2 fun g aO ⟨L,I⟩=>⟨fun p hp=>(o9 j p hp).elim (L p) (fun h=>h aO),GO.more s _ _ _ _ (o9 j) I⟩⟩
theorem GO.skip {ops:Array Oper} {x:Nat × GV × List GV} (hx:∀ F,YQ P ops x.1 x.2.1 x.2.2 F) (h:GO P ops Q r bb fr F):GO P ops Q r (x::bb) fr F:=by
 refine GO.more r bb _ fr F (fun p hp=>?_) h
 rcases dA hp with he | hp
 ·subst he;exact .inr hx
 ·exact .inl hp
theorem GO.yq {o:Oper} (hi:kr ol i=some o) (hy:YQ P ol.toArray i g fr F) (h:GO P ol.toArray Q r ((i,g,fr)::bb) (bx fr o.dst g) F):GO P ol.toArray Q (.q i r) bb fr F :=
 ⟨g,hy,by rw [vL hi];exact h⟩
theorem GO.yp {o:Oper} (hi:kr ol i=some o) (hy:∀ F,YQ P ol.toArray i g fr F) (h:GO P ol.toArray Q r bb (bx fr o.dst g) F):GO P ol.toArray Q (.q i r) bb fr F :=
 GO.yq hi (hy F) (GO.skip hy h)
theorem CL {c:Bool} {ops:List Oper} (hv:ot ops fr gd.1=some (some c)) (hc:c=gd.2):gG ops fr (some gd)=some true:=by
 obtain ⟨j,b⟩:=gd;simp only at hv hc;simp only [gG,hv,hc];simp
theorem Fi {c:Bool} {ops:List Oper} (hv:ot ops fr gd.1=some (some c)) (hc:c=!gd.2):gG ops fr (some gd)=some false:=by
 obtain ⟨j,b⟩:=gd;simp only at hv hc;simp only [gG,hv,hc];simp
theorem TK {ops:List Oper} (hv:ot ops fr gd.1=some none):gG ops fr (some gd)=some false:=by
 obtain ⟨j,b⟩:=gd;simp only at hv;simp only [gG,hv]
theorem YQ.t {o:Oper} (hi:kr ol i=some o) (hg:gG ol (c8 (o.looksAt ol.toArray) 0 fr) o.guard=some true) (hy:YG P o.op (c8 (o.looksAt ol.toArray) 0 fr) F g):YQ P ol.toArray i g fr F:=⟨o,true,rE hi,hg,hy⟩
theorem YQ.f {o:Oper} (hi:kr ol i=some o) (hg:gG ol (c8 (o.looksAt ol.toArray) 0 fr) o.guard=some false):YQ P ol.toArray i (.v undef) fr F:=⟨o,false,rE hi,hg,rfl⟩
theorem OQ (hi:kr ol i=some ⟨d,op,ty,pos,af,none⟩) (hy:YG P op (c8 (Oper.looksAt ol.toArray ⟨d,op,ty,pos,af,none⟩) 0 fr) F g) (h:GO P ol.toArray Q r ((i,g,fr)::bb) (bx fr d g) F):GO P ol.toArray Q (.q i r) bb fr F :=
 GO.yq hi (YQ.t hi rfl hy) h
theorem OP (hi:kr ol i=some ⟨d,op,ty,pos,af,none⟩) (hy:∀ F,YG P op (c8 (Oper.looksAt ol.toArray ⟨d,op,ty,pos,af,none⟩) 0 fr) F g) (h:GO P ol.toArray Q r bb (bx fr d g) F):GO P ol.toArray Q (.q i r) bb fr F :=
 GO.yp hi (fun F=>YQ.t hi rfl (hy F)) h
theorem ZO {c:Bool} (hi:kr ol i=some ⟨d,op,ty,pos,af,some gd⟩) (hv:ot ol (c8 (Oper.looksAt ol.toArray ⟨d,op,ty,pos,af,some gd⟩) 0 fr) gd.1=some (some c)) (hc:c=gd.2) (hy:YG P op (c8 (Oper.looksAt ol.toArray ⟨d,op,ty,pos,af,some gd⟩) 0 fr) F g)
  (h:GO P ol.toArray Q r ((i,g,fr)::bb) (bx fr d g) F):GO P ol.toArray Q (.q i r) bb fr F :=
 GO.yq hi (YQ.t hi (CL hv hc) hy) h
theorem W6 {c:Bool} (hi:kr ol i=some ⟨d,op,ty,pos,af,some gd⟩) (hv:ot ol (c8 (Oper.looksAt ol.toArray ⟨d,op,ty,pos,af,some gd⟩) 0 fr) gd.1=some (some c)) (hc:c=gd.2) (hy:∀ F,YG P op (c8 (Oper.looksAt ol.toArray ⟨d,op,ty,pos,af,some gd⟩) 0 fr) F g)
  (h:GO P ol.toArray Q r bb (bx fr d g) F):GO P ol.toArray Q (.q i r) bb fr F :=
 GO.yp hi (fun F=>YQ.t hi (CL hv hc) (hy F)) h
theorem ZK {c:Bool} (hi:kr ol i=some ⟨d,op,ty,pos,af,some gd⟩) (hv:ot ol (c8 (Oper.looksAt ol.toArray ⟨d,op,ty,pos,af,some gd⟩) 0 fr) gd.1=some (some c)) (hc:c=!gd.2) (h:GO P ol.toArray Q r bb (bx fr d (.v undef)) F):GO P ol.toArray Q (.q i r) bb fr F :=
 GO.yp hi (fun F=>YQ.f hi (Fi hv hc)) h
theorem ZL (hi:kr ol i=some ⟨d,op,ty,pos,af,some gd⟩) (hv:ot ol (c8 (Oper.looksAt ol.toArray ⟨d,op,ty,pos,af,some gd⟩) 0 fr) gd.1=some none) (h:GO P ol.toArray Q r bb (bx fr d (.v undef)) F):GO P ol.toArray Q (.q i r) bb fr F :=
 GO.yp hi (fun F=>YQ.f hi (TK hv)) h
theorem I8:∀ (fr:List GV) (ts:List Nat) (k t:Nat),k+t∈ts->cB (c8 ts k fr) t=cB fr t
 | [],_,_,_,_=>rfl
 | g::fr,ts,k,0,h=>by
  have hc:ts.contains k=true:=nu.2 (by simpa using h);simp only [c8,hc,cB]
 | g::fr,ts,k,t+1,h=>by
  simp only [c8,cB];exact I8 fr ts (k+1) t (by rw [show k+1+t=k+(t+1) by omega];exact h)
theorem wa {o:Oper} {ops:Array Oper} {x:Operand} (h:x∈o.op.operands.toList):ba (c8 (o.looksAt ops) 0 fr) x=ba fr x:=by
 cases x with
 | tmp t =>
  refine I8 fr _ 0 t ?_;rw [cL];refine List.mem_append_left _ (List.mem_filterMap.2 ⟨.tmp t,h,rfl⟩)
 | _=>rfl
theorem ZN {x:Operand} (hi:kr ol i=some ⟨d,.move x,ty,pos,af,none⟩) (h:GO P ol.toArray Q r bb (bx fr d (ba fr x)) F):GO P ol.toArray Q (.q i r) bb fr F :=
 OP hi (fun F=>by
  have:=YG.mv (P:=P) (x:=x) (F:=F) (fr:=c8 (Oper.looksAt ol.toArray ⟨d,.move x,ty,pos,af,none⟩) 0 fr)
  rw [wa (by simp [Op.operands])] at this;exact this) h
theorem ZM {x:Operand} (hi:kr ol i=some ⟨d,.assign x,ty,pos,af,none⟩) (h:GO P ol.toArray Q r bb (bx fr d (ba fr x)) F):GO P ol.toArray Q (.q i r) bb fr F :=
 OP hi (fun F=>by
  have:=YG.vE (P:=P) (x:=x) (F:=F) (fr:=c8 (Oper.looksAt ol.toArray ⟨d,.assign x,ty,pos,af,none⟩) 0 fr)
  rw [wa (by simp [Op.operands])] at this;exact this) h
theorem Yb {x:Operand} {c:Bool} (hi:kr ol i=some ⟨d,.move x,ty,pos,af,some gd⟩) (hv:ot ol (c8 (Oper.looksAt ol.toArray ⟨d,.move x,ty,pos,af,some gd⟩) 0 fr) gd.1=some (some c)) (hc:c=gd.2) (h:GO P ol.toArray Q r bb (bx fr d (ba fr x)) F):GO P ol.toArray Q (.q i r) bb fr F :=
 W6 hi hv hc (fun F=>by
  have:=YG.mv (P:=P) (x:=x) (F:=F) (fr:=c8 (Oper.looksAt ol.toArray ⟨d,.move x,ty,pos,af,some gd⟩) 0 fr)
  rw [wa (by simp [Op.operands])] at this;exact this) h
theorem Ya {c a b:Operand} {t:Bool} (hi:kr ol i=some ⟨d,.pick c a b,ty,pos,af,none⟩) (hc:ba (c8 (Oper.looksAt ol.toArray ⟨d,.pick c a b,ty,pos,af,none⟩) 0 fr) c=.v (.bool t)) (ht:t=true) (h:GO P ol.toArray Q r bb (bx fr d (ba fr a)) F):GO P ol.toArray Q (.q i r) bb fr F :=
 OP hi (fun F=>by
  have:=YG.Rq (P:=P) (F:=F) (a:=a) (b:=b) hc ht
  rw [wa (by simp [Op.operands])] at this;exact this) h
theorem X9 {c a b:Operand} {t:Bool} (hi:kr ol i=some ⟨d,.pick c a b,ty,pos,af,none⟩) (hc:ba (c8 (Oper.looksAt ol.toArray ⟨d,.pick c a b,ty,pos,af,none⟩) 0 fr) c=.v (.bool t)) (ht:t=false) (h:GO P ol.toArray Q r bb (bx fr d (ba fr b)) F):GO P ol.toArray Q (.q i r) bb fr F :=
 OP hi (fun F=>by
  have:=YG.Rp (P:=P) (F:=F) (a:=a) (b:=b) hc ht
  rw [wa (by simp [Op.operands])] at this;exact this) h
inductive jQ (P:Program) (ops:Array Oper) (i:Nat) (aO:List Ob):lT->lT->Prop
 | n:jQ P ops i aO [] []
 | w {j:Nat} {g:GV} {py:List GV} {bb ej:lT} (hw:waits ops i j=true) (h:jQ P ops i aO bb ej):jQ P ops i aO ((j,g,py)::bb) ej
 | y {j:Nat} {g:GV} {py:List GV} {bb ej:lT} (hy:YQ P ops j g py aO) (h:jQ P ops i aO bb ej):jQ P ops i aO ((j,g,py)::bb) ((j,g,py)::ej)
theorem vi {ops:Array Oper} {q p:Nat × GV × List GV} (h:p∈stay ops i (q::bb)):(p=q/\waits ops i q.1=false)\/p∈stay ops i bb:=by
 simp only [stay,mem_filter] at h |-
 rcases dA h.1 with he | kZ
 ·subst he;exact .inl ⟨rfl,by simpa using h.2⟩
 ·exact .inr ⟨kZ,h.2⟩
theorem jQ.spec {ops:Array Oper} {aO:List Ob} {ej:lT} (h:jQ P ops i aO bb ej):(∀ p∈stay ops i bb,YQ P ops p.1 p.2.1 p.2.2 aO)/\∀ p∈stay ops i bb,p∈ej:=by
 induction h with
 | n=>exact ⟨fun p hp=>(by cases hp),fun p hp=>(by cases hp)⟩
 | w hw h ih =>
  refine ⟨fun p hp=>?_,fun p hp=>?_⟩
  ·rcases vi hp with ⟨_,I⟩ | kZ
   ·simp only at I;rw [hw] at I;cases I
   ·exact ih.1 p kZ
  ·rcases vi hp with ⟨_,I⟩ | kZ
   ·simp only at I;rw [hw] at I;cases I
   ·exact ih.2 p kZ
 | y hy h ih =>
  refine ⟨fun p hp=>?_,fun p hp=>?_⟩
  ·rcases vi hp with ⟨he,_⟩ | kZ
   ·subst he;exact hy
   ·exact ih.1 p kZ
  ·rcases vi hp with ⟨he,_⟩ | kZ
   ·subst he;exact mem_cons_self
   ·exact di _ (ih.2 p kZ)
def Ts (fr:List GV):Option Tmp->Bool
 | none=>true
 | some t=>jj fr t
def fk (P:Program) (Q:List GV->List Ob->Prop) (ol:List Oper) (i:Nat) (r:Ot) (bb:lT) (fr:List GV) (d:Option Tmp) (cJ:List GV) (aO:List Ob):Prop :=
 ∃ g ej,cJ=bx fr d g/\jQ P ol.toArray i aO bb ej/\GO P ol.toArray Q r ej (bx fr d g) aO
theorem GA.of {o:Oper} {Kt:GV->List Ob->Prop} {R:List GV->List Ob->Prop} {ops:Array Oper} (hg:o.guard=none) (hd:Ts fr o.dst=true) (hR:∀ cJ aO,R cJ aO->∃ g,cJ=bx fr o.dst g/\Kt g aO) (h:GL P F.length ops (be R (fun _ _ _=>False)) [o] fr F):GA P o Kt fr F:=fun B K β w l hI hF=>by
 have L:=h (cur K β F w) K β w l rfl hI.here hF;obtain ⟨d,op,ty,pos,af,gd⟩:=o;simp only at hg;subst hg;simp only at L hd;unfold WL wpList at L;rw [ab (by rfl)] at L
 rcases L with L | ⟨_,a0,w0,hf⟩
 ·rw [<-og];refine VK L (fun c a w' hf=>?_) (fun a w' hf=>?_) ?_ ?_
  ·obtain ⟨l',_,_,_,_,_,_,_,hq⟩:=hf;exact hq
  ·obtain ⟨l',_,_,_,_,_,_,_,hq⟩:=hf;exact hq
  ·rintro v w' ⟨l',hl,K',bN,cJ,aO,bs,vP,hq⟩;obtain ⟨g,rfl,hk⟩:=hR cJ aO hq;rw [pZ] at hl
   have kl:put l d v=l':=by
    have:=congrArg (fun a:Act=>a.tmps.toList) hl;simpa [act] using this
   subst kl;refine ⟨K',bN,g,aO,bs.kle,bs.ble,hI.NH bs,fun Md l2 I=>?_,hk⟩
   cases d with
   | none=>exact I
   | some t =>
    refine I.fC t ?_;have hv:=vP.nth t;have h3:nth (put l (some t) v) t=v:=rL (nE hF hd) v
    have h4:cB (bx fr (some t) g) t=g:=by
     have gen:∀ (fr:List GV) (t:Nat),jj fr t=true->cB (bo fr t g) t=g:=by
      intro fr
      induction fr with
      | nil=>intro t h;cases h
      | cons x fr ih=>intro t h;cases t with | zero=>rfl | succ t=>exact ih t h
     exact gen fr t hd
    rw [h3,h4] at hv;exact hv
  ·rintro d' w' ⟨l',hl,_⟩;have:=congrArg (fun a:Act=>a.defers) hl
   cases d <;> simp [act,Act.put] at this
 ·obtain ⟨l',_,_,_,_,_,_,_,hq⟩:=hf;exact hq.elim
theorem fk.kt {cJ:List GV} {aO:List Ob} (h:fk P Q ol i r bb fr d cJ aO):∃ g,cJ=bx fr d g/\((∀ p∈stay ol.toArray i bb,YQ P ol.toArray p.1 p.2.1 p.2.2 aO)/\GO P ol.toArray Q r (stay ol.toArray i bb) (bx fr d g) aO):=by
 obtain ⟨g,ej,L,I,h3⟩:=h;obtain ⟨h4,h5⟩:=I.spec;exact ⟨g,L,h4,GO.more r _ _ _ _ (fun p hp=>.inl (h5 p hp)) h3⟩
theorem OA (hi:kr ol i=some ⟨d,op,ty,pos,af,none⟩) (hd:Ts fr d=true) (h:GL P F.length ol.toArray (be (fk P Q ol i r bb fr d) (fun _ _ _=>False)) [⟨d,op,ty,pos,af,none⟩] fr F):GO P ol.toArray Q (.a i r) bb fr F:=by
 refine ⟨_,true,rE hi,rfl,?_⟩
 exact (GA.of (o:=⟨d,op,ty,pos,af,none⟩) rfl hd (fun cJ aO hq=>fk.kt hq) h).mono fun g aO ⟨L,I⟩=>⟨L,by rw [vL hi];exact I⟩
theorem Qx {c:Bool} (hi:kr ol i=some ⟨d,op,ty,pos,af,some gd⟩) (hd:Ts fr d=true) (hv:ot ol fr gd.1=some (some c)) (hc:c=gd.2) (h:GL P F.length ol.toArray (be (fk P Q ol i r bb fr d) (fun _ _ _=>False)) [⟨d,op,ty,pos,af,none⟩] fr F):GO P ol.toArray Q (.a i r) bb fr F:=by
 refine ⟨_,true,rE hi,CL hv hc,?_⟩
 have:=(GA.of (o:=⟨d,op,ty,pos,af,none⟩) rfl hd (fun cJ aO hq=>fk.kt hq) h).mono (EU:=fun g aO=>(∀ p∈stay ol.toArray i bb,YQ P ol.toArray p.1 p.2.1 p.2.2 aO)/\GO P ol.toArray Q r (stay ol.toArray i bb) (bx fr (lV ol.toArray i) g) aO) fun g aO ⟨L,I⟩=>⟨L,by rw [vL hi];exact I⟩
 exact this
theorem ZI {c:Bool} {ej:lT} (hi:kr ol i=some ⟨d,op,ty,pos,af,some gd⟩) (hv:ot ol fr gd.1=some (some c)) (hc:c=!gd.2) (hs:jQ P ol.toArray i F bb ej) (h:GO P ol.toArray Q r ej (bx fr d (.v undef)) F):GO P ol.toArray Q (.a i r) bb fr F :=
 ⟨_,false,rE hi,Fi hv hc,hs.spec.1,by rw [vL hi];exact GO.more r _ _ _ _ (fun p hp=>.inl (hs.spec.2 p hp)) h⟩
theorem ZJ {ej:lT} (hi:kr ol i=some ⟨d,op,ty,pos,af,some gd⟩) (hv:ot ol fr gd.1=some none) (hs:jQ P ol.toArray i F bb ej) (h:GO P ol.toArray Q r ej (bx fr d (.v undef)) F):GO P ol.toArray Q (.a i r) bb fr F :=
 ⟨_,false,rE hi,TK hv,hs.spec.1,by rw [vL hi];exact GO.more r _ _ _ _ (fun p hp=>.inl (hs.spec.2 p hp)) h⟩
theorem GO.nil (h:Q fr F):GO P ol.toArray Q .nil bb fr F:=h
theorem fk.mk {ej:lT} (hs:jQ P ol.toArray i F bb ej) {py:List GV} (h:GO P ol.toArray Q r ej (bx py d g) F):fk P Q ol i r bb py d (bx py d g) F:=⟨g,ej,rfl,hs,h⟩
theorem pb {ops:Array Oper} {cJ:List GV} {aO:List Ob} (L:fr=cJ) (I:F=aO) (h:GO P ops Q r bb cJ aO):GO P ops Q r bb fr F:=by subst L;subst I;exact h
theorem W5 {ops:Array Oper} {cJ:List GV} (L:fr=cJ) (h:GO P ops Q r bb cJ F):GO P ops Q r bb fr F:=by subst L;exact h
end
theorem GW.range {P:Program} {m:Nat} {Q:du} {fr:List GV} {F:List Ob} {B C r1 r2:Nat} {body:Code} {tb ti tn ta:Tmp} {T1 T2 T3 T4 T5 T6 T7:TypeId} {p1 p2 p3:String} {a1 a2 a3:Array Edge} (n:Nat) (aaI:Nat->List GV->List Ob->Prop)
  (h0:Bd m (aaI 0) fr F) (hn:n<=1099511627776)
  (hI:∀ k fr F,aaI k fr F->cB fr ti=.v (ii k)/\cB fr tn=.v (ii n)/\jj fr tb=true)
  (Wb:∀ k fr F,k < n->aaI k fr F->GW P m body (bd C (be (fun cJ aO=>cB cJ ti=.v (ii k)/\jj cJ ta=true/\Bd m (aaI (k+1)) (bo (bo cJ ta (.v (ii ((k+1:Nat):Int)))) ti (.v (ii ((k+1:Nat):Int)))) aO) (bd B Q))) (bo fr tb (.v (.bool true))) F)
  (w9:∀ fr F,aaI n fr F->Q .normal (bo fr tb (.v (.bool false))) F) :
  GW P m (.loop (.seq (.region r1 [(⟨some tb,.binOp .lss T1 (.tmp ti) (.tmp tn) T2,T3,p1,a1,none⟩:Oper)].toArray false) (.seq (.cond (.tmp tb) .skip (.exit B))
   (.seq (.block C body) (.region r2 [(⟨some ta,.binOp .add T4 (.tmp ti) (.const (.int .i64 1)) T5,T6,p2,a2,none⟩:Oper),⟨some ti,.move (.tmp ta),T7,p3,a3,none⟩].toArray false))))) (bd B Q) fr F:=by
 have zZ:∀ (fr:List GV) (t:Nat) (g:GV),jj fr t=true->cB (bo fr t g) t=g:=by
  intro fr
  induction fr with
  | nil=>intro t g h;cases h
  | cons x fr ih=>intro t g h;cases t with | zero=>rfl | succ t=>exact ih t g h
 refine GW.loop (fun k:Nat=>n - k) (fun k fr F=>k<=n/\aaI k fr F) 0 ?_ ?_
 ·obtain ⟨cJ,aO,hw,h⟩:=h0;exact ⟨cJ,aO,hw,aM _,h⟩
 rintro k fr F ⟨hk,hi⟩;obtain ⟨L,I,h3⟩:=hI k fr F hi;refine GW.seq (GW.region (GL.q (YG.go (v:=.bool (decide ((k:Int) < (n:Int)))) ?_) (GL.nil (aW ?_))))
 ·simp only [TP,Xw.go,ba,L,I,CN,Kc,ii,KY,Kd]
 by_cases ak:k < n
 ·have hd:decide ((k:Int) < (n:Int))=true:=by simpa using ak
  simp only [bx,hd];refine GW.seq (Lt (zZ fr tb _ h3) rfl (GW.skip (aW (GW.seq (GW.block ?_)))));refine GW.mono (Wb k fr F ak hi) ?_;intro e cJ aO hq;have key:∀ cJ aO,(cB cJ ti=.v (ii k)/\jj cJ ta=true/\Bd m (aaI (k+1)) (bo (bo cJ ta (.v (ii ((k+1:Nat):Int)))) ti (.v (ii ((k+1:Nat):Int)))) aO) ->
    GW P m (.region r2 [(⟨some ta,.binOp .add T4 (.tmp ti) (.const (.int .i64 1)) T5,T6,p2,a2,none⟩:Oper),⟨some ti,.move (.tmp ta),T7,p3,a3,none⟩].toArray false) (be (fun cJ aO=>∃ y:Nat,Bd m (fun fr F=>y<=n/\aaI y fr F) cJ aO/\n - y < n - k) (bd B Q)) cJ aO:=by
   rintro cJ aO ⟨h5,h6,Md,Cv,hw,h7⟩;refine GW.region (GL.q (YG.xX (a:=k) h5 rfl (by omega)) (GL.q YG.mv (GL.nil (aW ⟨k+1,⟨Md,Cv,?_,ak,h7⟩,by omega⟩))));have h8:ba (bo cJ ta (.v (ii ((k+1:Nat):Int)))) (.tmp ta)=.v (ii ((k+1:Nat):Int)):=zZ cJ ta _ h6;simp only [bx,h8];exact hw
  cases e with
  | normal=>exact key cJ aO hq
  | exit id =>
   simp only [bd] at hq |-;split <;> rename_i hh
   ·rw [ab hh] at hq;exact key cJ aO hq
   ·rw [M hh] at hq;exact hq
  | goto _=>exact hq
  | ret=>exact hq
  | panic _=>exact hq
  | outgrown=>exact hq
 ·have vS:k=n:=by omega
  have hd:decide ((k:Int) < (n:Int))=false:=by simpa using ak
  simp only [bx,hd];refine GW.seq (Ls (zZ fr tb _ h3) rfl (GW.exit (Fm (Fm (IC ?_)))));subst vS;exact w9 fr F hi
def mn (g g':GV):Prop:=∀ K β x,Rel K β x g->Rel K β x g'
def kD (gs hs:List GV):Prop:=∀ K β vs,bh K β vs gs->bh K β vs hs
theorem mn.refl {g:GV}:mn g g:=fun _ _ _ h=>h
theorem mn.U {g:GV}:mn g .U:=fun _ _ _ _=>.U _
theorem mn.nil {k:Nat}:mn (.v (.slice none 0 0)) (.sl k []):=fun K β x h=>by
 rw [Rel.fD h];exact .sl0 _ _ _
theorem kD.nil:kD [] []:=fun _ _ _ h=>h
theorem kD.refl {gs:List GV}:kD gs gs:=fun _ _ _ h=>h
theorem kD.cons {g h:GV} {gs hs:List GV} (L:mn g h) (I:kD gs hs):kD (g::gs) (h::hs):=fun K β vs hv=>by
 cases vs with
 | nil=>have:=hv.1;simp at this
 | cons v vs=>obtain ⟨a,b⟩:=hv.pI;exact .cons (L K β v a) (I K β vs b)
theorem mn.agg {gs hs:List GV} (h:kD gs hs):mn (.agg gs) (.agg hs):=fun K β x hx=>by
 cases hx with
 | agg vs _ hl h'=>obtain ⟨a,b⟩:=h K β vs ⟨hl,h'⟩;exact .agg vs hs a b
theorem mn.tup {gs hs:List GV} (h:kD gs hs):mn (.tup gs) (.tup hs):=fun K β x hx=>by
 cases hx with
 | tup vs _ hl h'=>obtain ⟨a,b⟩:=h K β vs ⟨hl,h'⟩;exact .tup vs hs a b
inductive Tf:List GV->List GV->Prop
 | nil:Tf [] []
 | cons {f g:GV} {fs gs:List GV} (h:mn f g) (t:Tf fs gs):Tf (f::fs) (g::gs)
section
variable {P:Program} {m:Nat} {Q:du} {fr:List GV} {F:List Ob} {ops:Array Oper} {rest:List Oper} {d:Option Tmp} {op:Op} {ty:TypeId} {pos:String} {af:Array Edge}
theorem Wk.cells (i:Nat) {E:TypeId} {cs ds:List GV} (hi:F[i]?=some (.box E cs)) (h:kD cs ds):Wk m fr F fr (oset F i (.box E ds)):=fun B K β w l _ hI hF=>by
 rw [bf];refine ⟨K,β,⟨hI.ext,hI.kle,hI.ble,hI.loc,hI.fz,fun j x hj=>?_,fun j hj=>hI.out j (by simpa using hj),hI.dis,hI.own,hI.kn,hI.tab⟩,hF⟩;rw [dB] at hj;split at hj
 ·rename_i gA;split at hj
  ·cases hj;subst gA
   obtain ⟨b,vs,L,I,h3,h4⟩:=hI.ob i _ hi;exact ⟨b,vs,L,I,h K β vs h3,h4⟩
  ·cases hj
 ·exact hI.ob j x hj
theorem GL.EC {f:FuncId} [hf:aJ P f] (aL:List Nat) {args:List Operand} {lP:Array TypeId} {gs:List GV} {iM:List Ob} {R:GV->List Ob->Prop} (hc:GC P f gs iM R) (ha:kD (args.map (ba fr)) (lh (ct aL F.length) gs)) (eW:iZ aL F.length=true)
  (bG:seen (ct aL F.length) F aL iM) (h:∀ g aO,R g aO->aL.length<=aO.length/\GL P m ops Q rest (bx fr d (dX (ct aL F.length) g)) (dm F aL (aO.map (Ob.dX (ct aL F.length))))) :
  GL P m ops Q (⟨d,.call ⟨.value (.func f),args.toArray,lP⟩,ty,pos,af,none⟩::rest) fr F :=
 GL.calls (vs:=fun l=>args.map (ev l)) (fun K β w l hF=>⟨ha K β _ (hF.args args),by simp [execOp,resolve,ev,Deferred.ofValue,invoke,mF]⟩) eW bG hc h
theorem GL.JY {f:FuncId} [hf:aJ P f] (aL:List Nat) {args:List Operand} {lP:Array TypeId} {gs:List GV} {iM rV:List Ob} {g:GV} (hc:GF P f gs iM g rV) (ha:kD (args.map (ba fr)) (lh (ct aL F.length) gs)) (eW:iZ aL F.length=true)
  (bG:seen (ct aL F.length) F aL iM) (hl:Nat.ble aL.length rV.length=true) (h:GL P m ops Q rest (bx fr d (dX (ct aL F.length) g)) (dm F aL (rV.map (Ob.dX (ct aL F.length))))) :
  GL P m ops Q (⟨d,.call ⟨.value (.func f),args.toArray,lP⟩,ty,pos,af,none⟩::rest) fr F :=
 GL.EC aL hc ha eW bG fun g' aO ⟨L,I⟩=>by subst L;subst I;exact ⟨by simpa using hl,h⟩
end
section
variable {P:Program} {fr:List GV} {F:List Ob} {g:GV}
theorem K.bin {o:BinOp} {t t':TypeId} {x y:Operand} (h:YG P (.binOp o t x y t') fr F g):YG P (.binOp o t x y t') fr F g:=h
theorem K.ld {t:TypeId} {x:Operand} (h:YG P (.load t x) fr F g):YG P (.load t x) fr F g:=h
theorem K.TC {t:TypeId} {x:Operand} {i:Nat} (h:YG P (.fieldAddr t x i) fr F g):YG P (.fieldAddr t x i) fr F g:=h
theorem K.len {t:TypeId} {x:Operand} (h:YG P (.call ⟨.builtin .len,#[x],#[t]⟩) fr F g):YG P (.call ⟨.builtin .len,#[x],#[t]⟩) fr F g:=h
theorem K.nck {x:Operand} (h:YG P (.nilCheck x) fr F g):YG P (.nilCheck x) fr F g:=h
theorem K.idx {t:TypeId} {x y:Operand} (h:YG P (.indexAddr t x y) fr F g):YG P (.indexAddr t x y) fr F g:=h
theorem K.pick {a b c:Operand} (h:YG P (.pick a b c) fr F g):YG P (.pick a b c) fr F g:=h
theorem K.NQ {t:TypeId} {x:Operand} {a b c:Option Operand} (h:YG P (.slice t x a b c) fr F g):YG P (.slice t x a b c) fr F g:=h
theorem K.CY {f:Fn} {a b:Array Operand} (h:YG P (.makeFunc f a b) fr F g):YG P (.makeFunc f a b) fr F g:=h
end
theorem GC.le {P:Program} {f:FuncId} {gs:List GV} {F aO:List Ob} {g g':GV} (h:GF P f gs F g aO) (hg:mn g g'):GF P f gs F g' aO:=fun B K β w vs hm hI hF =>
 (h B K β w vs hm hI hF).mono fun v w' ⟨K',bN,x,Δ,L,I,h3,h4⟩=>by subst h3;subst h4;exact ⟨K',bN,g',_,L,hg _ _ _ I,rfl,rfl⟩
section
variable {P:Program} {fn:Func} {m:Nat} {fr:List GV} {F aO:List Ob} {e:Exit} {g:GV}
theorem yg {R:GV->List Ob->Prop} (h:qv P fn m (fun x Δ=>∃ y,mn x y/\R y Δ) e fr F):qv P fn m R e fr F :=
 ⟨h.1,fun B K β w l hm hI hF=>by
  obtain ⟨v,K',bN,x,Δ,L,I,h3,y,h4,h5⟩:=h.2 B K β w l hm hI hF
  exact ⟨v,K',bN,y,Δ,L,I,h4 _ _ _ h3,h5⟩⟩
end
end Go.Xg
