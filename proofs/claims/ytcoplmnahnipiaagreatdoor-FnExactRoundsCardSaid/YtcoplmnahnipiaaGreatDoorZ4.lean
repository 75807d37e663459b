/- Part 4 of proofs that are told in their last texts. -/
import Derived.WalkKit
import Derived.KernelRfl
import Derived.Orders
open List (all_cons eq_nil_of_length_eq_zero flatten_cons getElem?_append_left getElem?_drop getElem?_map getElem?_set getElem?_take length_cons map_nil map_toArray mem_cons_of_mem mem_cons_self mem_filter mem_of_getElem? size_toArray)
set_option linter.unusedVariables false
set_option linter.unusedSimpArgs false
set_option maxRecDepth 100000
namespace Go.Xw
open Go.RowKit
def nth:List Value->Nat->Value
 | [],_=>undef
 | v::_,0=>v
 | _::l,n+1=>nth l n
def eK:List Value->Nat->Value->List Value
 | [],_,_=>[]
 | _::l,0,v=>v::l
 | x::l,n+1,v=>x::eK l n v
def ev (l:List Value):Operand->Value
 | .tmp t=>nth l t
 | .const v=>v
 | .global g=>.pointer (some ⟨g,0,none⟩)
 | .func f=>.func (.func f) #[] #[]
def put (l:List Value) (d:Option Tmp) (v:Value):List Value :=
 match d with | some d=>eK l d v | none=>l
theorem jt (l:List Value) (t:Nat):l.toArray.getD t undef=nth l t:=by
 induction l generalizing t with
 | nil=>simp [nth]
 | cons x l ih =>
  cases t with
  | zero=>simp [nth]
  | succ t=>rw [nth,<-ih];simp [Array.getD]
theorem xC (l:List Value) (t:Nat) (v:Value):l.toArray.setIfInBounds t v=(eK l t v).toArray:=by
 have h:∀ (l:List Value) t,eK l t v=l.set t v:=by
  intro l
  induction l with
  | nil=>intro t;rfl
  | cons x l ih=>intro t;cases t with | zero=>rfl | succ t=>simp [eK,ih]
 rw [h];simp
def act (l:List Value):Act:=⟨l.toArray,[]⟩
theorem mz (l:List Value):(act l).eval=ev l:=by
 funext x;cases x <;> first | rfl | exact jt l _
theorem oB (l:List Value) (d:Option Tmp) (v:Value):(act l).put d v=act (put l d v):=by
 cases d with
 | none=>rfl
 | some d=>simp only [act,Act.put,put];rw [xC]
abbrev kO:=Exit->List Value->World->Prop
def lift (Q:kO):Exit->Act->World->Prop:=fun e a w=>∃ l,a=act l/\Q e l w
def W (P:Program) (c:Code) (Q:kO) (l:List Value) (w:World):Prop:=c.wp P (lift Q) (act l) w
def WL (P:Program) (ops:Array Oper) (Q:kO) (rest:List Oper) (l:List Value) (w:World):Prop :=
 wpList P ops (lift Q) rest (act l) w
def Xc (next:List Value->World->Prop) (Q:kO):kO
 | .normal,l,w=>next l w
 | e,l,w=>Q e l w
def Uq (id:Nat) (Q:kO):kO
 | .exit Aw,l,w=>if Aw=id then Q .normal l w else Q (.exit Aw) l w
 | e,l,w=>Q e l w
section
variable {P:Program} {Q:kO} {l:List Value} {w:World} {ops:Array Oper} {rest:List Oper}
theorem W.seq {x y:Code} (h:W P x (Xc (W P y Q) Q) l w):W P (.seq x y) Q l w:=by
 refine wp_seq (wp_mono h ?_);rintro e a w ⟨l,rfl,hq⟩
 cases e <;> first | exact hq | exact ⟨l,rfl,hq⟩
theorem W.skip (h:Q .normal l w):W P .skip Q l w:=wp_skip ⟨l,rfl,h⟩
theorem W.exit {n:Nat} (h:Q (.exit n) l w):W P (.exit n) Q l w:=wp_exit ⟨l,rfl,h⟩
theorem W.ret (h:Q .ret l w):W P .ret Q l w:=wp_ret ⟨l,rfl,h⟩
theorem W.block {id:Nat} {c:Code} (h:W P c (Uq id Q) l w):W P (.block id c) Q l w:=by
 refine wp_block (wp_mono h ?_);rintro e a w ⟨l,rfl,hq⟩
 cases e with
 | exit Aw =>
  simp only [Uq] at hq;simp only [Exit.inBlock];split <;> rename_i hh
  ·rw [if_pos hh] at hq;exact ⟨l,rfl,hq⟩
  ·rw [if_neg hh] at hq;exact ⟨l,rfl,hq⟩
 | normal=>exact ⟨l,rfl,hq⟩
 | goto _=>exact ⟨l,rfl,hq⟩
 | ret=>exact ⟨l,rfl,hq⟩
 | panic _=>exact ⟨l,rfl,hq⟩
 | outgrown=>exact ⟨l,rfl,hq⟩
theorem W.cond {c:Operand} {x y:Code} {t:Bool} (hc:ev l c=.bool t) (ht:t=true->W P x Q l w) (hf:t=false->W P y Q l w):W P (.cond c x y) Q l w:=by
 refine wp_cond_split (t:=t) (by rw [mz];exact hc) ht hf
theorem W.mono {c:Code} {Q':kO} (h:W P c Q l w) (hq:∀ e l w,Q e l w->Q' e l w):W P c Q' l w :=
 wp_mono h fun _ _ _ ⟨l,ha,q⟩=>⟨l,ha,hq _ _ _ q⟩
theorem W.loop {c:Code} {α:Type} (μ:α->Nat) (I:α->List Value->World->Prop) (x:α) (h0:I x l w)
  (round:∀ x l w,I x l w->W P c (Xc (fun l' w'=>∃ y,I y l' w'/\μ y < μ x) Q) l w):W P (.loop c) Q l w:=by
 have key:∀ n x l w,μ x=n->I x l w->∀ (b:Frame) (k:List Item) (cs:List Frame),
   ∃ e a' w',lift Q e a' w'/\Arrives P (lone (b.at (act l) (.code c::.inLoop c::k)) cs w) b k cs e a' w':=by
  intro n
  induction n using Nat.strongRecOn with
  | _ n ih =>
   intro x l w hn hI b k cs;obtain ⟨e,aag,Cd,hq,wV⟩:=round x l w hI b (.inLoop c::k) cs;obtain ⟨BM,rfl,hq⟩:=hq
   cases e with
   | normal =>
    obtain ⟨y,VE,ar⟩:=hq;obtain ⟨Xn,Xk,Yo,VN,RI⟩:=ih (μ y) (hn ▸ ar) y BM Cd rfl VE b k cs;exact ⟨Xn,Xk,Yo,VN,.of_steps (Steps.trans wV (.one step_inLoop)) RI⟩
   | exit id=>exact ⟨_,_,Cd,⟨BM,rfl,hq⟩,.pass (x:=.inLoop c) rfl (fun _ _=>.inl (by simp)) wV⟩
   | goto _=>exact ⟨_,_,Cd,⟨BM,rfl,hq⟩,.pass (x:=.inLoop c) rfl (fun _ _=>.inl (by simp)) wV⟩
   | ret=>exact ⟨_,_,Cd,⟨BM,rfl,hq⟩,.pass (x:=.inLoop c) rfl (fun _ _=>.inl (by simp)) wV⟩
   | panic ch=>exact ⟨_,_,Cd,⟨BM,rfl,hq⟩,.pass (x:=.inLoop c) rfl (fun _ _=>.inl (by simp)) wV⟩
   | outgrown=>exact ⟨_,_,Cd,⟨BM,rfl,hq⟩,.pass (x:=.inLoop c) rfl (fun _ _=>.inl (by simp)) wV⟩
 intro b k cs;obtain ⟨e,a',w',hq,wV⟩:=key _ x l w rfl h0 b k cs;exact ⟨e,a',w',hq,.of_steps (.one step_loop) wV⟩
theorem W.region {id:Nat} {ol:List Oper} (h:WL P ol.toArray Q ol l w):W P (.region id ol.toArray false) Q l w :=
 wp_region_lit h
theorem WL.nil (h:Q .normal l w):WL P ops Q [] l w:=⟨l,rfl,h⟩
theorem WL.val {d:Option Tmp} {op:Op} {ty:TypeId} {pos:String} {af:Array Edge} {v:Value} {w':World}
  (hr:(execOp (ev l) ⟨d,op,ty,pos,af,none⟩).run P w=.ok (.value v) w')
  (h:WL P ops Q rest (put l d v) w'):WL P ops Q (⟨d,op,ty,pos,af,none⟩::rest) l w:=by
 refine wpList_plain rfl fun K hK=>?_
 simp only [Oper.wp,mz,hr,Oper.upon_value,oB];exact hK _ _ h
theorem WL.skp {d:Option Tmp} {op:Op} {ty:TypeId} {pos:String} {af:Array Edge} {w':World}
  (hr:(execOp (ev l) ⟨d,op,ty,pos,af,none⟩).run P w=.ok .skip w')
  (h:WL P ops Q rest (put l d undef) w'):WL P ops Q (⟨d,op,ty,pos,af,none⟩::rest) l w:=by
 refine wpList_plain rfl fun K hK=>?_
 simp only [Oper.wp,mz,hr,Oper.upon_skip,oB];exact hK _ _ h
theorem WL.gt {d:Option Tmp} {op:Op} {ty:TypeId} {pos:String} {af:Array Edge} {g:Option (Nat × Bool)}
  (hw:Region.wanted ⟨d,op,ty,pos,af,g⟩ (yielded ops (act l).tmps)=true)
  (h:WL P ops Q (⟨d,op,ty,pos,af,none⟩::rest) l w):WL P ops Q (⟨d,op,ty,pos,af,g⟩::rest) l w:=by
 unfold WL wpList at *;rw [if_pos hw];rw [if_pos (by rfl)] at h;exact h
theorem WL.gf {d:Option Tmp} {op:Op} {ty:TypeId} {pos:String} {af:Array Edge} {g:Option (Nat × Bool)}
  (hw:Region.wanted ⟨d,op,ty,pos,af,g⟩ (yielded ops (act l).tmps)=false)
  (h:WL P ops Q rest (put l d undef) w):WL P ops Q (⟨d,op,ty,pos,af,g⟩::rest) l w:=by
 unfold WL wpList;rw [if_neg (by rw [hw];decide)];show wpList P ops (lift Q) rest ((act l).put d undef) w;rw [oB];exact h
end
section
variable {next:List Value->World->Prop} {Q:kO} {l:List Value} {w:World} {id Aw:Nat}
end
end Go.Xw
namespace Go.Xw
open Go.RowKit
structure Ext (S:Nat->Prop) (w w':World):Prop where
 os:w'.os=w.os
 tape:w'.tape=w.tape
 output:w'.output=w.output
 size:w.heap.size<=w'.heap.size
 block:∀ k,k < w.heap.size->¬ S k->w'.heap[k]?=w.heap[k]?
abbrev gQ:Nat->Prop:=fun _=>False
theorem Ext.refl {S:Nat->Prop} (w:World):Ext S w w:=⟨rfl,rfl,rfl,Nat.le_refl _,fun _ _ _=>rfl⟩
theorem Ext.trans {S:Nat->Prop} {a b c:World} (h:Ext S a b) (k:Ext S b c):Ext S a c :=
 ⟨k.os.trans h.os,k.tape.trans h.tape,k.output.trans h.output,Nat.le_trans h.size k.size,
  fun i hi hs=>(k.block i (Nat.lt_of_lt_of_le hi h.size) hs).trans (h.block i hi hs)⟩
theorem Ext.step {S0 S:Nat->Prop} {a b c:World} (h:Ext S0 a b) (k:Ext S b c) (hs:∀ j,S j->a.heap.size<=j\/S0 j):Ext S0 a c :=
 ⟨k.os.trans h.os,k.tape.trans h.tape,k.output.trans h.output,Nat.le_trans h.size k.size,
  fun i hi hn=>(k.block i (Nat.lt_of_lt_of_le hi h.size) fun Ua=>by
   rcases hs i Ua with h1 | h1
   ·omega
   ·exact hn h1).trans (h.block i hi hn)⟩
theorem Ext.mono {S S':Nat->Prop} {a b:World} (h:Ext S a b) (hs:∀ k,k < a.heap.size->S k->S' k):Ext S' a b :=
 ⟨h.os,h.tape,h.output,h.size,fun i hi hn=>h.block i hi fun x=>hn (hs i hi x)⟩
theorem Ext.blk {S:Nat->Prop} {a b:World} (h:Ext S a b) {k:Nat} {o:Obj} (hv:a.heap[k]?=some o) (hs:¬ S k):b.heap[k]?=some o:=by
 rw [h.block k (by have:=(Array.getElem?_eq_some_iff.1 hv).1;exact this) hs,hv]
theorem qS {w:World} {k:Nat} {o:Obj} (hv:w.heap[k]?=some o):k < w.heap.size:=(Array.getElem?_eq_some_iff.1 hv).1
theorem KM {w:World} {b o:Nat} {cs:Array Value} {E:TypeId} {fz:Nat × Nat} {v:Value} (hb:w.heap[b]?=some (.cells cs E fz)) (hv:cs[o]?=some v):w.cell? ⟨b,o,none⟩=some v:=by
 rw [cell_of_row w b o cs E fz hb,hv]
theorem Ext.below {a b:World} (h:Ext gQ a b):Below a.heap.size a b:=⟨h.os,h.tape,h.output,h.size,fun k hk=>h.block k hk (fun x=>x)⟩
structure tX (w w':World) (b:Nat) (o:Obj):Prop where
 fresh:b=w.heap.size
 size:w'.heap.size=b+1
 blk:w'.heap[b]?=some o
 ext:Ext gQ w w'
theorem tX.of (w:World) (o:Obj):tX w (w.alloc o) w.heap.size o :=
 ⟨rfl,by simp,heap_alloc_new w o,⟨rfl,rfl,rfl,by simp,fun k hk _=>Below.heap_alloc _ _ _ hk⟩⟩
def xF:TypeDesc->Bool
 | .struct _=>true
 | .array _ _=>true
 | _=>false
class Ty (P:Program) (t:TypeId) (agg:outParam Bool) (k:outParam Nat):Prop where
 und:(P.underlying t).map xF=some agg
 siz:(P.info? t).map (·.size)=some k
class mg (P:Program) (t:TypeId) (e:outParam TypeId) (k:outParam Nat):Prop where
 und:P.underlying t=some (.slice e)
 siz:(P.info? e).map (·.size)=some k
class oW (P:Program) (t:TypeId):Prop where
 und:P.underlying t=some .string
def Jc (P:Program) (s:TypeId) (i:Nat) (off:Nat) (k:Nat) (agg:Bool):Bool :=
 match P.underlying s with
 | some (.struct fs)=>match fs[i]? with
  | some f=>f.offset==off&&(match P.info? f.type with | some x=>x.size==k | none=>false)&&k != 0&&((P.underlying f.type).map xF==some agg)
  | none=>false
 | _=>false
class dd (P:Program) (s:TypeId) (i:Nat) (off:outParam Nat) (k:outParam Nat) (agg:outParam Bool):Prop where
 is:Jc P s i off k agg=true
section
variable {P:Program} {w:World}
theorem Dc {t:TypeId} {agg:Bool} {k:Nat} [h:Ty P t agg k]:(isAgg t).run P w=.ok agg w:=by
 obtain ⟨hu,_⟩:=h
 cases hd:P.underlying t with
 | none=>simp [hd] at hu
 | some d =>
  rw [hd] at hu;unfold isAgg;rw [Sem.run_bind,run_underlying hd w]
  cases d <;> simp_all [xF]
theorem im {t:TypeId} {k:Nat} (h:(P.info? t).map (·.size)=some k):(sizeOf t).run P w=.ok k w:=by
 cases hq:P.info? t with
 | none=>simp [hq] at h
 | some i=>simp [hq] at h;simp [sizeOf,typeInfo,hq,h]
theorem oX (b o n:Nat):(⟨b,o,none⟩:Addr).add n=⟨b,o+n,none⟩:=by
 unfold Addr.add;split
 ·rename_i h;subst h;rfl
 ·rfl
theorem FC {t:TypeId} [h:Ty P t false 1] {a:Addr} {v:Value} (hv:w.cell? a=some v):(loadVar t a).run P w=.ok v w:=by
 unfold loadVar;rw [Sem.run_bind,Dc (agg:=false) (k:=1)];simp [hv]
theorem mR {t:TypeId} {k:Nat} [h:Ty P t true k] {b o:Nat} {vs:List Value} (hl:vs.length=k) (hv:∀ j v,vs[j]?=some v->w.cell? ⟨b,o+j,none⟩=some v) :
  (loadVar t ⟨b,o,none⟩).run P w=.ok (.agg vs.toArray) w:=by
 unfold loadVar;rw [Sem.run_bind,Dc (agg:=true) (k:=k)]
 have hc:(loadCells ⟨b,o,none⟩ k).run P w=.ok vs.toArray w:=by
  rw [<-hl]
  exact run_loadCells_list w _ vs fun j v hj=>by rw [oX];exact hv j v hj
 simp [im h.siz,hc]
end
def ed (P:Program) (l:List Value) (w:World) (op:Op) (v:Value):Prop :=
 ∀ (d:Option Tmp) (ty:TypeId) (pos:String) (af:Array Edge),(execOp (ev l) ⟨d,op,ty,pos,af,none⟩).run P w=.ok (.value v) w
theorem WL.v {P:Program} {Q:kO} {l:List Value} {w:World} {ops:Array Oper} {rest:List Oper} {d:Option Tmp} {op:Op} {ty:TypeId} {pos:String} {af:Array Edge} {v:Value}
  (hr:ed P l w op v) (h:WL P ops Q rest (put l d v) w):WL P ops Q (⟨d,op,ty,pos,af,none⟩::rest) l w:=WL.val (hr d ty pos af) h
section
variable {P:Program} {l:List Value} {w:World}
theorem R.mv {x:Operand}:ed P l w (.move x) ((ev l x)):=fun d ty pos af=>by simp [execOp]
theorem R.sT {x:Operand}:ed P l w (.assign x) ((ev l x)):=fun d ty pos af=>by simp [execOp]
theorem R.pick {c a b:Operand} {t:Bool} (hc:ev l c=.bool t):ed P l w (.pick c a b) ((if t then ev l a else ev l b)):=fun d ty pos af=>by simp [execOp,hc,asBool]
theorem R.JT {x:Operand} {a:Addr} (hx:ev l x=.pointer (some a)):ed P l w (.nilCheck x) ((.pointer (some a))):=fun d ty pos af=>by simp [execOp,hx]
theorem R.extract {x:Operand} {i:Nat} {vs:Array Value} {v:Value} (hx:ev l x=.tuple vs) (hv:vs[i]?=some v):ed P l w (.extract x i) (v):=fun d ty pos af=>by simp [execOp,hx,Instr.extract,hv]
theorem R.pk {fn:Fn} {first cap:Array Operand}:ed P l w (.makeFunc fn first cap) ((.func fn (first.map (ev l)) (cap.map (ev l)))):=fun d ty pos af=>by simp [execOp,Instr.makeFunc]
abbrev ai:=List UInt8
def sv (s:ai):Value:=.string ⟨s.toArray⟩
theorem toList_mk (s:ai):(⟨s.toArray⟩:ByteArray).toList=s:=by
 simp [ByteArray.toList_eq]
theorem uQ (s:ai):(⟨s.toArray⟩:ByteArray).size=s.length:=by
 simp [ByteArray.size]
theorem DD (b:ByteArray):Value.string b=sv b.data.toList:=by
 simp [sv]
theorem KL (a b:ai):(⟨a.toArray⟩:ByteArray)++⟨b.toArray⟩=⟨(a++b).toArray⟩:=by
 apply ByteArray.ext;simp
theorem extract_mk (s:ai) (i j:Nat):(⟨s.toArray⟩:ByteArray).extract i j=⟨((s.take j).drop i).toArray⟩:=by
 apply ByteArray.ext;simp [ByteArray.data_extract,List.take_drop]
 by_cases h:i<=j
 ·rw [Nat.add_sub_cancel' h]
 ·rw [List.drop_eq_nil_of_le (by simp;omega),List.drop_eq_nil_of_le (by simp;omega)]
theorem aae (x c:UInt8):((x.toNat:Int)==(c.toNat:Int))=(x==c):=by
 rw [Bool.eq_iff_iff];simp only [beq_iff_eq];constructor
 ·intro h;exact UInt8.toNat_inj.1 (by omega)
 ·rintro rfl;rfl
abbrev ii (n:Int):Value:=.int .i64 n
theorem B8 {n:Int} (h1 : -9223372036854775808<=n) (h2:n<=9223372036854775807):IntKind.i64.wrap n=n:=IntWalk.i64_in _ ⟨h1,h2⟩
theorem R.zA {x:Operand} {t:TypeId} [hT:oW P t] {s:ai} (hx:ev l x=sv s):ed P l w (.call ⟨.builtin .len,#[x],#[t]⟩) ((ii s.length)):=fun d ty pos af=>by simp [execOp,resolve,invoke,builtin,hx,sv,Builtin.len_,goInt,run_underlying hT.und,uQ]
theorem R.JK {x:Operand} {t e:TypeId} {k:Nat} [hT:mg P t e k] {a:Option Addr} {n c:Nat} (hx:ev l x=.slice a n c):ed P l w (.call ⟨.builtin .len,#[x],#[t]⟩) ((ii n)):=fun d ty pos af=>by simp [execOp,resolve,invoke,builtin,hx,Builtin.len_,goInt,run_underlying hT.und]
theorem R.add {x y:Operand} {t t':TypeId} {a b:Int} (hx:ev l x=ii a) (hy:ev l y=ii b) (h1 : -9223372036854775808<=a+b) (h2:a+b<=9223372036854775807):ed P l w (.binOp .add t x y t') ((ii (a+b))):=fun d ty pos af=>by simp [execOp,eqGuard,hx,hy,binOp,Op.intArith,B8 h1 h2]
theorem R.sub {x y:Operand} {t t':TypeId} {a b:Int} (hx:ev l x=ii a) (hy:ev l y=ii b) (h1 : -9223372036854775808<=a - b) (h2:a - b<=9223372036854775807):ed P l w (.binOp .sub t x y t') ((ii (a - b))):=fun d ty pos af=>by simp [execOp,eqGuard,hx,hy,binOp,Op.intArith,B8 h1 h2]
theorem R.mul {x y:Operand} {t t':TypeId} {a b:Int} (hx:ev l x=ii a) (hy:ev l y=ii b) (h1 : -9223372036854775808<=a * b) (h2:a * b<=9223372036854775807):ed P l w (.binOp .mul t x y t') ((ii (a * b))):=fun d ty pos af=>by simp [execOp,eqGuard,hx,hy,binOp,Op.intArith,B8 h1 h2]
theorem R.cat {x y:Operand} {t t':TypeId} {a b:ai} (hx:ev l x=sv a) (hy:ev l y=sv b) (h1:a.length+b.length<=9223372036854775807):ed P l w (.binOp .add t x y t') ((sv (a++b))):=fun d ty pos af=>by
  have h2:¬ ((((⟨a.toArray⟩:ByteArray).size+(⟨b.toArray⟩:ByteArray).size:Nat):Int) > IntKind.i64.max):=by
   rw [uQ,uQ];simp [IntKind.max,IntKind.signed,IntKind.bits];omega
  simp only [execOp,eqGuard,hx,hy,binOp,sv,Op.stringOp,if_neg h2,KL];simp
theorem R.eq {x y:Operand} {t t':TypeId} {k:IntKind} {a b:Int} (hx:ev l x=.int k a) (hy:ev l y=.int k b):ed P l w (.binOp .eql t x y t') ((.bool (a==b))):=fun d ty pos af=>by simp [execOp,eqGuard,hx,hy,binOp,Op.intCmp]
theorem R.ne {x y:Operand} {t t':TypeId} {k:IntKind} {a b:Int} (hx:ev l x=.int k a) (hy:ev l y=.int k b):ed P l w (.binOp .neq t x y t') ((.bool (a != b))):=fun d ty pos af=>by simp [execOp,eqGuard,hx,hy,binOp,Op.intCmp]
theorem R.lt {x y:Operand} {t t':TypeId} {k:IntKind} {a b:Int} (hx:ev l x=.int k a) (hy:ev l y=.int k b):ed P l w (.binOp .lss t x y t') ((.bool (decide (a < b)))):=fun d ty pos af=>by simp [execOp,eqGuard,hx,hy,binOp,Op.intCmp]
theorem R.le {x y:Operand} {t t':TypeId} {k:IntKind} {a b:Int} (hx:ev l x=.int k a) (hy:ev l y=.int k b):ed P l w (.binOp .leq t x y t') ((.bool (decide (a<=b)))):=fun d ty pos af=>by simp [execOp,eqGuard,hx,hy,binOp,Op.intCmp]
theorem R.YM {x y:Operand} {t t':TypeId} {k:IntKind} {a b:Int} (hx:ev l x=.int k a) (hy:ev l y=.int k b):ed P l w (.binOp .gtr t x y t') ((.bool (decide (b < a)))):=fun d ty pos af=>by simp [execOp,eqGuard,hx,hy,binOp,Op.intCmp]
theorem R.ge {x y:Operand} {t t':TypeId} {k:IntKind} {a b:Int} (hx:ev l x=.int k a) (hy:ev l y=.int k b):ed P l w (.binOp .geq t x y t') ((.bool (decide (b<=a)))):=fun d ty pos af=>by simp [execOp,eqGuard,hx,hy,binOp,Op.intCmp]
theorem R.D0 {x y:Operand} {t t':TypeId} {a b:ai} (hx:ev l x=sv a) (hy:ev l y=sv b):ed P l w (.binOp .eql t x y t') ((.bool (a==b))):=fun d ty pos af=>by simp only [execOp,eqGuard,hx,hy,binOp,sv,Op.stringOp,toList_mk];simp
theorem R.Fg {x y:Operand} {t t':TypeId} {a b:ai} (hx:ev l x=sv a) (hy:ev l y=sv b):ed P l w (.binOp .neq t x y t') ((.bool (!(a==b)))):=fun d ty pos af=>by simp only [execOp,eqGuard,hx,hy,binOp,sv,Op.stringOp,toList_mk];simp
theorem R.not {x:Operand} {t:TypeId} {b:Bool} (hx:ev l x=.bool b):ed P l w (.unOp .not t x) ((.bool (!b))):=fun d ty pos af=>by simp [execOp,hx,Op.unary]
theorem R.qa {x y:Operand} {t:TypeId} [hT:oW P t] {s:ai} {k:IntKind} {i:Nat} {c:UInt8} (hx:ev l x=sv s) (hy:ev l y=.int k i) (hc:s[i]?=some c):ed P l w (.index t x y) ((.int .u8 c.toNat)):=fun d ty pos af=>by
  have hg:(⟨s.toArray⟩:ByteArray)[i]?=some c:=by
   obtain ⟨hi,hv⟩:=List.getElem?_eq_some_iff.1 hc
   have nX:i < (⟨s.toArray⟩:ByteArray).size:=by rw [uQ];exact hi
   rw [getElem?_pos (⟨s.toArray⟩:ByteArray) i nX];simp only [ByteArray.getElem_eq_getElem_data];simpa using hv
  simp [execOp,Instr.index,hx,hy,asIntOf,run_underlying hT.und,sv,hg]
theorem R.PG {x:Operand} {t:TypeId} [hT:oW P t] {s:ai} {lo hi:Option Operand} {i j:Nat} (hx:ev l x=sv s)
  (gT:match lo with | some y=>∃ k,ev l y=.int k i | none=>i=0) (Ai:match hi with | some y=>∃ k,ev l y=.int k j | none=>j=s.length)
  (h1:i<=j) (h2:j<=s.length):ed P l w (.slice t x lo hi none) ((sv ((s.take j).drop i))):=fun d ty pos af=>by
  have cK:=uQ s
  cases lo <;> cases hi <;> simp only at gT Ai
  ·subst gT;subst Ai;simp [execOp,Instr.sliceAt,Instr.slice,Instr.sliceBounds,hx,sv,run_underlying hT.und,cK,extract_mk]
  ·obtain ⟨k,hk⟩:=Ai;subst gT;simp [execOp,Instr.sliceAt,Instr.slice,Instr.sliceBounds,Instr.sliceBound,asIntOf,hx,hk,sv,run_underlying hT.und,cK,extract_mk,h2]
  ·obtain ⟨k,hk⟩:=gT;subst Ai;simp [execOp,Instr.sliceAt,Instr.slice,Instr.sliceBounds,Instr.sliceBound,asIntOf,hx,hk,sv,run_underlying hT.und,cK,extract_mk,h1]
  ·obtain ⟨k,hk⟩:=gT;obtain ⟨k',kR⟩:=Ai;simp [execOp,Instr.sliceAt,Instr.slice,Instr.sliceBounds,Instr.sliceBound,asIntOf,hx,hk,kR,sv,run_underlying hT.und,cK,extract_mk,h1,h2]
theorem R.xf {x y:Operand} {t e:TypeId} {k:Nat} [hT:mg P t e k] {b o n c:Nat} {kk:IntKind} {i:Nat} (hx:ev l x=.slice (some ⟨b,o,none⟩) n c) (hy:ev l y=.int kk i) (hi:i < n):ed P l w (.indexAddr t x y) ((.pointer (some ⟨b,o+i * k,none⟩))):=fun d ty pos af=>by
  simp [execOp,Instr.indexAt,hx,hy,asIntOf,run_underlying hT.und,hi,im hT.siz,oX]
theorem R.Ox {x:Operand} {s:TypeId} {i off k:Nat} {agg:Bool} [hT:dd P s i off k agg] {b o:Nat} (hx:ev l x=.pointer (some ⟨b,o,none⟩)):ed P l w (.fieldAddr s x i) ((.pointer (some ⟨b,o+off,none⟩))):=fun d ty pos af=>by
  obtain ⟨hT⟩:=hT;unfold Jc at hT;split at hT
  ·rename_i fs hu;split at hT
   ·rename_i f hf;simp only [Bool.and_eq_true,beq_iff_eq,bne_iff_ne,ne_eq] at hT;obtain ⟨⟨⟨h1,h2⟩,h3⟩,h4⟩:=hT;split at h2
    ·rename_i x hq
     have hs:(P.info? f.type).map (·.size)=some k:=by rw [hq];simpa using h2
     simp [execOp,Instr.fieldAt,hx,run_underlying hu,hf,Instr.sureAddr,fieldPlace,im hs,h3,oX,h1]
    ·cases h2
   ·cases hT
  ·cases hT
theorem R.ld1 {x:Operand} {t:TypeId} [hT:Ty P t false 1] {a:Addr} {v:Value} (hx:ev l x=.pointer (some a)) (hv:w.cell? a=some v):ed P l w (.load t x) (v):=fun d ty pos af=>by simp [execOp,Instr.loadAt,hx,Instr.sureAddr,FC hv]
theorem R.ldN {x:Operand} {t:TypeId} {k:Nat} [hT:Ty P t true k] {b o:Nat} {vs:List Value} (hx:ev l x=.pointer (some ⟨b,o,none⟩)) (hl:vs.length=k)
  (hv:∀ j v,vs[j]?=some v->w.cell? ⟨b,o+j,none⟩=some v):ed P l w (.load t x) ((.agg vs.toArray)):=fun d ty pos af=>by simp [execOp,Instr.loadAt,hx,Instr.sureAddr,mR hl hv]
end
def fu (H:Array Obj) (b o:Nat):Option Value :=
 match H[b]? with
 | some (.cells c _ _)=>c[o]?
 | _=>none
theorem eT (w:World) (b o:Nat):w.cell? ⟨b,o,none⟩=fu w.heap b o:=by
 unfold World.cell? fu
 cases w.heap[b]? with
 | none=>rfl
 | some x=>cases x <;> rfl
theorem DV {H:Array Obj} {b o:Nat} {v:Value} (h:fu H b o=some v):b < H.size:=by
 unfold fu at h
 cases hb:H[b]? with
 | none=>rw [hb] at h;cases h
 | some x=>exact (Array.getElem?_eq_some_iff.1 hb).1
theorem Ext.c {S:Nat->Prop} {w w':World} (hx:Ext S w w') {b o:Nat} {v:Value} (h:fu w.heap b o=some v) (hs:¬ S b):fu w'.heap b o=some v:=by
 unfold fu at *;rw [hx.block b (DV (H:=w.heap) (by unfold fu;exact h)) hs];exact h
theorem vc {H:Array Obj} {b o:Nat} {cs:Array Value} {E:TypeId} {fz:Nat × Nat} {v:Value} (hb:H[b]?=some (.cells cs E fz)) (hv:cs[o]?=some v):fu H b o=some v:=by
 unfold fu;rw [hb];exact hv
theorem Ext.drew {S:Nat->Prop} (w:World):Ext S w w.drew:=⟨rfl,rfl,rfl,Nat.le_refl _,fun _ _ _=>rfl⟩
theorem R.ld {P:Program} {l:List Value} {w:World} {x:Operand} {t:TypeId} [hT:Ty P t false 1] {b o:Nat} {v:Value} (hx:ev l x=.pointer (some ⟨b,o,none⟩)) (hv:fu w.heap b o=some v):ed P l w (.load t x) v:=R.ld1 hx (by rw [eT];exact hv)
theorem R.W9 {P:Program} {l:List Value} {w:World} {x:Operand} {t:TypeId} {k:Nat} [hT:Ty P t true k] {b o:Nat} {vs:List Value} (hx:ev l x=.pointer (some ⟨b,o,none⟩)) (hl:vs.length=k)
  (hv:∀ j v,vs[j]?=some v->fu w.heap b (o+j)=some v):ed P l w (.load t x) (.agg vs.toArray):=R.ldN hx hl (fun j v h=>by rw [eT];exact hv j v h)
section
variable {H:Array Obj} {b o:Nat} {v0 v1 v2 v3 v4 v5:Value}
end
end Go.Xw
namespace Go.Xw
open Go.RowKit
class pF (P:Program) (t:TypeId) (z:outParam Value):Prop where
 is:(P.info? t).bind (·.zero)=some z
structure sR (w w':World) (b:Nat) (cs:Array Value) (E:TypeId):Prop where
 blk:w'.heap[b]?=some (.cells cs E (0,0))
 ext:Ext (·=b) w w'
 size:w'.heap.size=w.heap.size
def tR (cs:Array Value) (o:Nat):List Value->Array Value
 | []=>cs
 | v::r=>tR (cs.setIfInBounds o v) (o+1) r
def kV (vs:List Value):Bool:=vs.all (·.oneCell')
section
variable {P:Program} {w:World}
theorem zG {t:TypeId} {z:Value} [h:pF P t z]:(zeroValue t).run P w=.ok z w:=by
 obtain ⟨h⟩:=h
 cases hq:P.info? t with
 | none=>simp [hq] at h
 | some i=>simp [hq] at h;simp [zeroValue,typeInfo,hq,h]
theorem sR.refl {b:Nat} {cs:Array Value} {E:TypeId} (hb:w.heap[b]?=some (.cells cs E (0,0))):sR w w b cs E:=⟨hb,Ext.refl _,rfl⟩
theorem sR.trans {w1 w2:World} {b:Nat} {cs yr:Array Value} {E:TypeId} (h:sR w w1 b cs E) (k:sR w1 w2 b yr E):sR w w2 b yr E :=
 ⟨k.blk,h.ext.trans k.ext,k.size.trans h.size⟩
theorem sR.setCell {b o:Nat} {cs:Array Value} {E:TypeId} (hb:w.heap[b]?=some (.cells cs E (0,0))) (v:Value) :
  sR w (w.setCell ⟨b,o,none⟩ v) b (cs.setIfInBounds o v) E :=
 ⟨heap_setCell_same w b o cs E v hb,⟨rfl,rfl,rfl,by simp,fun k _ hs=>heap_setCell_other w _ k v hs⟩,by simp⟩
theorem uP {b o:Nat} {E:TypeId}:∀ (vs:List Value) (i:Nat) (w:World) (cs:Array Value),w.heap[b]?=some (.cells cs E (0,0))->o+i+vs.length<=cs.size->kV vs=true ->
  ∃ w',(storeCells ⟨b,o,none⟩ vs i).run P w=.ok () w'/\sR w w' b (tR cs (o+i) vs) E
 | [],i,w,cs,hb,_,_=>⟨w,by simp [storeCells],sR.refl hb⟩
 | v::r,i,w,cs,hb,hl,h1=>by
  simp only [kV,all_cons,Bool.and_eq_true] at h1;simp only [length_cons] at hl;have hs:=sR.setCell (w:=w) (o:=o+i) hb v;obtain ⟨w',hr,b6⟩:=uP (b:=b) (o:=o) (E:=E) r (i+1) _ _ hs.blk (by simp;omega) h1.2;refine ⟨w',?_,hs.trans (by simpa [tR,Nat.add_assoc] using b6)⟩;have hc:w.cell? ⟨b,o+i,none⟩=cs[o+i]?:=cell_of_row w b (o+i) cs E (0,0) hb;have de:∃ u,w.cell? ⟨b,o+i,none⟩=some u:=⟨cs[o+i]'(by omega),by rw [hc];simp⟩;obtain ⟨u,hu⟩:=de;have hf:w.frozen? ⟨b,o+i,none⟩=false:=frozen_of_row w b _ cs E hb
  have X7:(store ((⟨b,o,none⟩:Addr).add i) v).run P w=.ok () (w.setCell ⟨b,o+i,none⟩ v):=by
   rw [oX]
   cases v <;> first | (simp [Value.oneCell'] at h1;done) | simp [store,Sem.run,hu,hf]
  simp only [storeCells,Sem.run_bind,X7,Result.andThen_ok,hr]
theorem FD {t:TypeId} {agg:Bool} {k:Nat} [hT:Ty P t agg k] {b o:Nat} {E:TypeId} {cs:Array Value} {v:Value} (hb:w.heap[b]?=some (.cells cs E (0,0)))
  (hl:v.cells.size=k) (ho:o+k<=cs.size) (h1:kV v.cells.toList=true) :
  ∃ w',(storeVar t ⟨b,o,none⟩ v).run P w=.ok () w'/\sR w w' b (tR cs o v.cells.toList) E:=by
 obtain ⟨w',hr,hs⟩:=uP (P:=P) (o:=o) v.cells.toList 0 w cs hb (by simp;omega) h1;refine ⟨w',?_,by simpa using hs⟩;simp [storeVar,im hT.siz,hl,hr]
end
def gq:List Value->Nat->List Value->List Value
 | cs,_,[]=>cs
 | cs,o,v::r=>gq (eK cs o v) (o+1) r
def o0 (pl:Nat->Option (Nat × Nat)):List Value->List (Nat × Value)->Option (List Value)
 | cs,[]=>some cs
 | cs,(i,v)::r=>match pl i with
  | none=>none
  | some (o,k)=>if v.cells.size≠k || decide (o+v.cells.size > cs.length) then none else o0 pl (gq cs o v.cells.toList) r
theorem zI:∀ (vs:List Value) (cs:List Value) (o:Nat),(gq cs o vs).length=cs.length
 | [],_,_=>rfl
 | v::r,cs,o=>by
  rw [gq,zI r];have:=congrArg Array.size (xC cs o v);simpa using this.symm
theorem zX:∀ (vs:List Value) (cs:List Value) (o n:Nat),
  (vs.zipIdx n).foldl (fun (cs:Array Value) (x:Value × Nat)=>cs.setIfInBounds (o+x.2) x.1) cs.toArray=(gq cs (o+n) vs).toArray
 | [],cs,o,n=>by simp [gq]
 | v::r,cs,o,n=>by
  simp only [List.zipIdx_cons,List.foldl_cons,xC,gq];rw [zX r];rfl
theorem wP (pl:Nat->Option (Nat × Nat)):∀ (parts:List (Nat × Value)) (cs:List Value),
  Instr.fill pl cs.toArray parts=(o0 pl cs parts).map List.toArray
 | [],cs=>by simp [Instr.fill,o0]
 | (i,v)::r,cs=>by
  simp only [Instr.fill,o0]
  cases hp:pl i with
  | none=>rfl
  | some x =>
   obtain ⟨o,k⟩:=x;simp only [size_toArray];split
   ·rfl
   ·have h:(v.cells.zipIdx.foldl (fun (cs:Array Value) (x:Value × Nat)=>cs.setIfInBounds (o+x.2) x.1) cs.toArray)=(gq cs o v.cells.toList).toArray:=by
     have:=zX v.cells.toList cs o 0;rw [<-Array.foldl_toList,Array.toList_zipIdx];exact this
    have h2:=wP pl r (gq cs o v.cells.toList);rw [<-h2,<-h]
def Q1 (P:Program) (t:TypeId) (pl:List (Nat × Nat)):Bool :=
 match P.underlying t with
 | some (.struct fs)=>(fs.toList.map fun f=>(f.offset,(P.info? f.type).map (·.size)))==pl.map fun x=>(x.1,some x.2)
 | _=>false
class sQ (P:Program) (t:TypeId) (pl:outParam (List (Nat × Nat))) (z:outParam (List Value)):Prop where
 is:Q1 P t pl=true
 zero:(P.info? t).bind (·.zero)=some (.agg z.toArray)
section
variable {P:Program} {w:World}
theorem AQ {fs:List Field}:∀ {pl:List (Nat × Nat)},(fs.map fun f=>(f.offset,(P.info? f.type).map (·.size)))=(pl.map fun x=>(x.1,some x.2)) ->
  (List.mapM (m:=Sem) (fun (f:Field)=>Functor.map (Prod.mk f.offset) (sizeOf f.type)) fs).run P w=.ok pl w:=by
 induction fs with
 | nil=>intro pl h;cases pl with | nil=>simp | cons=>simp at h
 | cons f fs ih =>
  intro pl h
  cases pl with
  | nil=>simp at h
  | cons x pl =>
   simp only [List.map_cons,List.cons.injEq,Prod.mk.injEq] at h;obtain ⟨⟨h1,h2⟩,h3⟩:=h;have:=ih h3;have h5:=im (w:=w) h2;simp [List.mapM_cons,Sem.run_bind,h5,this,h1]
theorem run_build {t:TypeId} {pl:List (Nat × Nat)} {z:List Value} [hT:sQ P t pl z] {parts:List (Nat × Value)} {cs:List Value} (hf:o0 (fun i=>pl[i]?) z parts=some cs) :
  (Instr.build t parts.toArray).run P w=.ok (.agg cs.toArray) w:=by
 obtain ⟨hi,hz⟩:=hT
 have ZW:(zeroValue t).run P w=.ok (.agg z.toArray) w:=by
  haveI:pF P t (.agg z.toArray):=⟨hz⟩
  exact zG
 unfold Q1 at hi;split at hi
 ·rename_i fs hu;have hm:=AQ (P:=P) (w:=w) (eq_of_beq hi)
  have jV:(Array.mapM (m:=Sem) (fun (f:Field)=>Functor.map (Prod.mk f.offset) (sizeOf f.type)) fs).run P w=.ok pl.toArray w:=by
   rw [Array.mapM_eq_mapM_toList];simp [hm]
  have jm:=wP (fun i=>pl[i]?) parts z;rw [hf] at jm;simp [Instr.build,Sem.run_bind,ZW,run_underlying hu,jV,Value.cells];simp [jm]
 ·cases hi
end
section
variable {P:Program} {Q:kO} {l:List Value} {w:World} {ops:Array Oper} {rest:List Oper} {d:Option Tmp} {ty:TypeId} {pos:String} {af:Array Edge}
theorem AR (t:TypeId) (v:Value):(newVar t v).run P w=.ok ⟨w.heap.size,0,none⟩ (w.alloc (.cells v.cells t)):=by
 rfl
theorem WL.alloc {t:TypeId} {z:Value} [hT:pF P t z] (h:∀ b w',tX w w' b (.cells z.cells t)->WL P ops Q rest (put l d (.pointer (some ⟨b,0,none⟩))) w') :
  WL P ops Q (⟨d,.alloc t,ty,pos,af,none⟩::rest) l w :=
 WL.val (w':=w.alloc (.cells z.cells t)) (by simp [execOp,Instr.alloc,zG (w:=w) (z:=z),AR]) (h _ _ (tX.of w _))
theorem WL.box {t:TypeId} {x:Operand} {v:Value} (hx:ev l x=v) (h:∀ b w',tX w w' b (.cells v.cells t)->WL P ops Q rest (put l d (.pointer (some ⟨b,0,none⟩))) w') :
  WL P ops Q (⟨d,.box t x,ty,pos,af,none⟩::rest) l w :=
 WL.val (w':=w.alloc (.cells v.cells t)) (by simp [execOp,Instr.box,AR,hx]) (h _ _ (tX.of w _))
theorem R.build {t:TypeId} {pl:List (Nat × Nat)} {z:List Value} [hT:sQ P t pl z] {parts:List (Nat × Operand)} {cs:List Value}
  (hf:o0 (fun i=>pl[i]?) z (parts.map fun x=>(x.1,ev l x.2))=some cs):ed P l w (.build t parts.toArray) (.agg cs.toArray):=fun d ty pos af=>by
  have hr:=run_build (P:=P) (w:=w) (t:=t) hf;simp only [execOp,map_toArray];simp [hr]
class oV (P:Program) (t:TypeId) (e:outParam TypeId) (k:outParam Nat) (z:outParam (List Value)):Prop where
 und:P.underlying t=some (.slice e)
 siz:(P.info? e).map (·.size)=some k
 zero:(P.info? e).bind (·.zero)=some (if k=1 then z.headD undef else .agg z.toArray)
 zl:z.length=k
 pos:0 < k
 one:k=1->(z.headD undef).cells=#[z.headD undef]
theorem oV.cells {t e:TypeId} {k:Nat} {z:List Value} (h:oV P t e k z):(if k=1 then z.headD undef else .agg z.toArray).cells=z.toArray:=by
 split
 ·rename_i hk;rw [h.one hk];have:=h.zl;rw [hk] at this
  match z,this with
  | [a],_=>rfl
 ·rfl
theorem WL.BO {t e:TypeId} {k:Nat} {z:List Value} [hT:oV P t e k z] {n:Nat} {parts:List (Nat × Operand)} {cs:List Value} (hn:n * k<=16777216)
  (hf:o0 (fun i=>some (i * k,k)) ((List.range (n * k)).map fun j=>z.getD (j % k) undef) (parts.map fun x=>(x.1,ev l x.2))=some cs)
  (h:∀ b w',tX w w' b (.cells cs.toArray e)->WL P ops Q rest (put l d (.slice (some ⟨b,0,none⟩) n n)) w') :
  WL P ops Q (⟨d,.buildSlice t n parts.toArray,ty,pos,af,none⟩::rest) l w :=
 WL.val (w':=w.alloc (.cells cs.toArray e)) (by
  have hz:(zeroValue e).run P w=.ok (if k=1 then z.headD undef else .agg z.toArray) w:=by
   haveI:pF P e (if k=1 then z.headD undef else .agg z.toArray):=⟨hT.zero⟩
   exact zG
  have hc:=hT.cells;generalize (if k=1 then z.headD undef else .agg z.toArray:Value)=zv at hz hc;have jm:=wP (fun i=>some (i * k,k)) (parts.map fun x=>(x.1,ev l x.2)) ((List.range (n * k)).map fun j=>z.getD (j % k) undef);rw [hf] at jm
  have Al:¬ (16777216 < n * k):=by omega
  by_cases h0:n * k=0
  ·have YN:n=0:=by
    rcases Nat.mul_eq_zero.1 h0 with h | h
    ·exact h
    ·have:=hT.pos;omega
   subst YN;simp only [Nat.zero_mul,List.range_zero,map_nil] at jm;simp only [execOp,map_toArray];have qO:(Array.range 0)=#[]:=rfl;simp [Instr.buildSlice,run_underlying hT.und,im hT.siz,qO,jm];rfl
  ·have he:(Array.range (n * k)).map (fun j=>z.toArray[j % z.toArray.size]!)=((List.range (n * k)).map fun j=>z.getD (j % k) undef).toArray:=by
    apply Array.ext';simp only [Array.toList_map,Array.toList_range];apply List.map_congr_left;intro j _;have hk:=hT.pos
    have ar:j % k < z.length:=by rw [hT.zl];exact Nat.mod_lt _ hk
    rw [List.getD_eq_getElem?_getD,List.getElem?_eq_getElem ar];simp [hT.zl];rw [List.getElem?_eq_getElem ar];rfl
   rw [<-he] at jm;simp only [execOp,map_toArray];simp [Instr.buildSlice,run_underlying hT.und,im hT.siz,Al,h0,hz,hc];simp only [size_toArray] at jm;simp at jm;simp [jm]
   rfl) (h _ _ (tX.of w _))
theorem WL.st {x y:Operand} {t:TypeId} {agg:Bool} {k:Nat} [hT:Ty P t agg k] {b o:Nat} {E:TypeId} {cs:Array Value} {v:Value} (hx:ev l x=.pointer (some ⟨b,o,none⟩)) (hy:ev l y=v)
  (hb:w.heap[b]?=some (.cells cs E (0,0))) (hl:v.cells.size=k) (ho:o+k<=cs.size) (h1:kV v.cells.toList=true)
  (h:∀ w',sR w w' b (tR cs o v.cells.toList) E->WL P ops Q rest (put l d undef) w'):WL P ops Q (⟨d,.store t x y,ty,pos,af,none⟩::rest) l w:=by
 obtain ⟨w',hr,hs⟩:=FD (P:=P) (t:=t) hb hl ho h1;exact WL.skp (w':=w') (by simp [execOp,Instr.storeAt,hx,hy,Instr.sureAddr,hr]) (h w' hs)
end
def DY (P:Program) (f:FuncId):Bool :=
 match P.funcs[f]? with
 | some fn=>fn.name != "runtime.NumGoroutine" && fn.body.isSome
 | none=>false
class aD (P:Program) (f:FuncId):Prop where
 ok:DY P f=true
def lL (P:Program) (f:FuncId) (args:List Value) (w:World) (R:Value->World->Prop):Prop :=
 Calls P f args.toArray w fun e w'=>∃ v,e=.returned v/\R v w'
theorem lL.mono {P:Program} {f:FuncId} {args:List Value} {w:World} {R R':Value->World->Prop} (h:lL P f args w R) (hr:∀ v w',R v w'->R' v w'):lL P f args w R' :=
 Calls.mono h fun _ _ ⟨v,he,r⟩=>⟨v,he,hr _ _ r⟩
theorem kZ {P:Program} {w:World} {f:FuncId} [h:aD P f] (args:Array Value):(callFunc f args).run P w=.ok (.enter f args) w:=by
 obtain ⟨h⟩:=h;unfold DY at h;split at h
 ·rename_i fn hf;simp only [Bool.and_eq_true,bne_iff_ne,ne_eq] at h
  have h2:fn.body.isNone=false:=by cases hb:fn.body <;> simp_all
  simp [callFunc,program,Sem.run,hf,h.1,h2];intro hn;simp [hn] at h2
 ·cases h
section
variable {P:Program} {Q:kO} {l:List Value} {w:World} {ops:Array Oper} {rest:List Oper} {d:Option Tmp} {ty:TypeId} {pos:String} {af:Array Edge}
theorem WL.calls {op:Op} {f:FuncId} {Bd:List Value} (hr:(execOp (ev l) ⟨d,op,ty,pos,af,none⟩).run P w=.ok (.enter f Bd.toArray) w) {R:Value->World->Prop}
  (hc:lL P f Bd w R) (h:∀ v w',R v w'->WL P ops Q rest (put l d v) w'):WL P ops Q (⟨d,op,ty,pos,af,none⟩::rest) l w:=by
 refine wpList_plain rfl fun K hK=>?_
 simp only [Oper.wp,mz,hr,Oper.upon_enter];refine Calls.mono hc ?_;rintro e w' ⟨v,rfl,hv⟩;simp only [oB];exact hK _ _ (h v w' hv)
theorem WL.call {f:FuncId} [hf:aD P f] {args:List Operand} {lW:Array TypeId} {Bd:List Value} (ha:args.map (ev l)=Bd) {R:Value->World->Prop}
  (hc:lL P f Bd w R) (h:∀ v w',R v w'->WL P ops Q rest (put l d v) w'):WL P ops Q (⟨d,.call ⟨.value (.func f),args.toArray,lW⟩,ty,pos,af,none⟩::rest) l w :=
 WL.calls (by simp [execOp,resolve,ev,Deferred.ofValue,invoke,kZ,ha]) hc h
end
def Fv:Nat->List Value
 | 0=>[]
 | n+1=>undef::Fv n
def frame:List Value->Nat->List Value
 | [],n=>Fv n
 | a::r,n=>a::frame r (n - 1)
theorem UQ (n:Nat):Fv n=List.replicate n undef:=by
 induction n with
 | zero=>rfl
 | succ n ih=>rw [Fv,ih];rfl
theorem OB (args:List Value) (n:Nat):frame args n=args++List.replicate (n - args.length) undef:=by
 induction args generalizing n with
 | nil=>simp [frame,UQ]
 | cons a r ih=>rw [frame,ih];simp [Nat.sub_sub,Nat.add_comm]
def Qf (P:Program) (fn:Func) (R:Value->World->Prop):kO
 | .normal,l,w | .ret,l,w=>∃ v,(results fn l.toArray).run P w=.ok v w/\R v w
 | _,_,_=>False
theorem lL.enter {P:Program} {f:FuncId} {fn:Func} {c:Code} {args:List Value} {w:World} {R:Value->World->Prop} {n:Nat} {l:List Value}
  (hf:P.funcs[f]?=some fn) (hn:fn.ntmps=n) (hb:fn.body=some c) (hl:frame args n=l) (h:W P c (Qf P fn R) l w):lL P f args w R:=by
 subst hl;refine calls_of_wp hf hb ?_
 have s9:(args.toArray++Array.replicate (fn.ntmps - args.toArray.size) undef)=(frame args n).toArray:=by
  simp [OB,hn]
 rw [s9];refine wp_mono h ?_;rintro e a w ⟨l,rfl,hq⟩
 cases e <;> simp only [Qf] at hq <;> simp only [bodyPost]
 ·obtain ⟨v,hr,hv⟩:=hq;exact ⟨rfl,v,hr,v,rfl,hv⟩
 ·obtain ⟨v,hr,hv⟩:=hq;exact ⟨rfl,v,hr,v,rfl,hv⟩
end Go.Xw
namespace Go.Xw
open Go.RowKit
def SL (P:Program) (t e k gC:Nat):Bool :=
 (match P.underlying t with | some (.slice e')=>e'==e | _=>false) &&
 (match P.info? e with
  | some i=>(match i.zero with | some z=>z.cells.size==k | none=>false)&&i.size==k&&i.bytes==gC
  | none=>false)&&k != 0
class nO (P:Program) (t:TypeId) (e:outParam TypeId) (k:outParam Nat) (gC:outParam Nat):Prop where
 is:SL P t e k gC=true
theorem nO.parts {P:Program} {t e k gC:Nat} (h:nO P t e k gC) :
  P.underlying t=some (.slice e)/\(∃ i z,P.info? e=some i/\i.zero=some z/\z.cells.size=k/\i.size=k/\i.bytes=gC)/\0 < k:=by
 obtain ⟨h⟩:=h;simp only [SL,Bool.and_eq_true,bne_iff_ne,ne_eq] at h;obtain ⟨⟨h1,h2⟩,h3⟩:=h;refine ⟨?_,?_,by omega⟩
 ·split at h1
  ·rename_i e' hu;rw [hu];simp at h1;rw [h1]
  ·cases h1
 ·split at h2
  ·rename_i i hi;simp only [Bool.and_eq_true,beq_iff_eq] at h2;obtain ⟨⟨h4,h5⟩,h6⟩:=h2;split at h4
   ·rename_i z hz;exact ⟨i,z,hi,hz,by simpa using h4,h5,h6⟩
   ·cases h4
  ·cases h2
abbrev gi (w:World) (base:Nat) (e k:Nat) (v:Value) (n:Nat) (xs:List Value):Prop:=w.ownsRow base e k v n xs
theorem gi.nil (w:World) (base e k:Nat):gi w base e k (.slice none 0 0) 0 []:=World.ownsRow_nil w base e k
theorem gi.ext {S:Nat->Prop} {w w':World} {base e k:Nat} {v:Value} {n:Nat} {xs:List Value} (h:gi w base e k v n xs) (hx:Ext S w w') (hs:∀ b,v.ownBlock=some b->¬ S b):gi w' base e k v n xs:=by
 obtain ⟨h1,h2⟩:=h;refine ⟨h1,?_⟩
 rcases h2 with h2 | ⟨g,cap,cur,rfl,hb,hg,r⟩
 ·exact .inl h2
 ·exact .inr ⟨g,cap,cur,rfl,hb,hx.blk hg (hs g rfl),r⟩
theorem gi.lt {w:World} {base e k:Nat} {v:Value} {n:Nat} {xs:List Value} (h:gi w base e k v n xs) {b:Nat} (hv:v.ownBlock=some b):base<=b/\b < w.heap.size:=by
 obtain ⟨h1,h2⟩:=h
 rcases h2 with ⟨rfl,_⟩ | ⟨g,cap,cur,rfl,hb,hg,r⟩
 ·cases hv
 ·simp only [Value.ownBlock,Option.some.injEq] at hv;subst hv;exact ⟨hb,qS hg⟩
theorem gi.shape {w:World} {base e k:Nat} {v:Value} {n:Nat} {xs:List Value} (h:gi w base e k v n xs):∃ a c,v=.slice a n c:=by
 obtain ⟨h1,h2⟩:=h
 rcases h2 with ⟨rfl,rfl⟩ | ⟨g,cap,cur,rfl,_⟩
 ·exact ⟨_,_,rfl⟩
 ·exact ⟨_,_,rfl⟩
theorem gi.base {w:World} {base Qe e k:Nat} {v:Value} {n:Nat} {xs:List Value} (h:gi w base e k v n xs) (hb:Qe<=base):gi w Qe e k v n xs:=by
 obtain ⟨h1,h2⟩:=h;refine ⟨h1,?_⟩
 rcases h2 with h2 | ⟨g,cap,cur,rfl,bj,r⟩
 ·exact .inl h2
 ·exact .inr ⟨g,cap,cur,rfl,Nat.le_trans hb bj,r⟩
theorem gi.cells {w:World} {base e k:Nat} {v:Value} {n:Nat} {xs:List Value} (h:gi w base e k v n xs) :
  xs.length=n * k/\(xs≠[]->∃ b c,v=.slice (some ⟨b,0,none⟩) n c/\base<=b/\b < w.heap.size/\∀ j u,xs[j]?=some u->w.cell? ⟨b,j,none⟩=some u):=by
 obtain ⟨h1,h2⟩:=h;refine ⟨h1,fun bL=>?_⟩
 rcases h2 with ⟨rfl,rfl⟩ | ⟨g,cap,cur,rfl,hb,hg,hn,hm,cK,ht⟩
 ·simp at h1;exact absurd h1 bL
 ·refine ⟨g,cap,rfl,hb,qS hg,fun j u hj=>?_⟩;rw [cell_of_row w g j cur e (0,0) hg];rw [<-ht] at hj;rw [getElem?_take] at hj;split at hj
  ·simpa using hj
  ·cases hj
theorem gi.UF {w w':World} {b e k n:Nat} {cs:List Value} (h:tX w w' b (.cells cs.toArray e)) (hl:cs.length=n * k) (hm:n<=maxLen):gi w' w.heap.size e k (.slice (some ⟨b,0,none⟩) n n) n cs :=
 ⟨hl,.inr ⟨b,n,cs.toArray,rfl,by rw [h.fresh];exact Nat.le_refl _,h.blk,Nat.le_refl _,hm,by simpa using hl,by simp [<-hl]⟩⟩
section
variable {P:Program} {Q:kO} {l:List Value} {w:World} {ops:Array Oper} {rest:List Oper} {d:Option Tmp} {ty:TypeId} {pos:String} {af:Array Edge}
theorem WL.app {s x:Operand} {t e k gC:Nat} [hT:nO P t e k gC] {base n m c b o:Nat} {xs news:List Value} {v:Value} (hs:ev l s=v) (eS:gi w base e k v n xs)
  (hx:ev l x=.slice (some ⟨b,o,none⟩) m c) (hl:news.length=m * k) (QD:∀ j u,news[j]?=some u->w.cell? ⟨b,o+j,none⟩=some u) (h1:kV news=true)
  (Tp:n+m<=9223372036854775807) (w5:(n+m) * gC<=140737488355328) (Ae:base<=w.heap.size)
  (h:∀ v' w',gi w' base e k v' (n+m) (xs++news)->Ext (fun b=>v.ownBlock=some b) w w'->(∀ b,v'.ownBlock=some b->v.ownBlock=some b\/w.heap.size<=b)->(Ext gQ w w'\/v'.ownBlock=v.ownBlock)->WL P ops Q rest (put l d v') w') :
  WL P ops Q (⟨d,.call ⟨.builtin .append,#[s,x],#[t,t]⟩,ty,pos,af,none⟩::rest) l w:=by
 obtain ⟨hu,⟨i,z,hi,hz,Mh,cK,wZ⟩,hk⟩:=hT.parts;obtain ⟨v',w',hr,h2,h3,h4⟩:=run_append_own (P:=P) w base t ty e i z k gC hu hi hz cK wZ Mh hk v n xs eS ⟨b,o,none⟩ m c news hl
  (fun j u hj=>by rw [oX];exact QD j u hj) (by simpa [kV] using h1) (by simpa [maxLen] using Tp) w5 Ae
 have gn:Ext (fun b=>v.ownBlock=some b) w w':=⟨h3.os,h3.tape,h3.output,h3.size,fun j hj hn=>h3.block j hj fun he=>hn he.symm⟩
 have w8:∀ j u,news[j]?=some u->w.cell? ((⟨b,o,none⟩:Addr).add j)=some u:=fun j u hj=>by rw [oX];exact QD j u hj
 have iV:news.length=m * i.size:=by rw [cK];exact hl
 have OI:(n+m) * i.bytes<=140737488355328:=by rw [wZ];exact w5
 refine WL.val (v:=v') (w':=w') (by simp [execOp,resolve,invoke,builtin,hs,hx,hr]) (h v' w' h2 gn ?_ ?_)
 ·intro b' bj;have An:=eS.2
  rcases An with ⟨rfl,rfl⟩ | ⟨g,cap,cur,rfl,mK,hg,nZ,wb,eV,Aq⟩
  ·by_cases hm:m=0
   ·have:=h4.2 ⟨rfl,hm⟩;subst this;cases bj
   ·have c6:=run_append_nil (P:=P) w t ty e i z hu hi hz ⟨b,o,none⟩ m c news iV w8 (by omega) (by omega) (by simp only [Nat.zero_add] at OI;omega);rw [hr] at c6;cases c6;simp only [Value.ownBlock,Option.some.injEq] at bj;exact .inr (by omega)
  ·by_cases hroom:n+m<=cap
   ·have c6:=run_append_room (P:=P) w t ty e i hu hi g n cap cur hg ⟨b,o,none⟩ m c news iV w8 (by simpa [kV] using h1) hroom
     (by rw [iV,eV,<-Nat.add_mul,cK];exact Nat.mul_le_mul_right _ hroom)
    rw [hr] at c6;cases c6;exact .inl bj
   ·have holds:∀ j u,xs[j]?=some u->w.cell? ((⟨g,0,none⟩:Addr).add j)=some u:=World.ownsRow.cells (g:=g) eS rfl;have c6:=run_append_grow (P:=P) w t ty e i z hu hi hz ⟨g,0,none⟩ n cap xs (by rw [cK];exact eS.1) holds ⟨b,o,none⟩ m c news iV w8 (by omega) (by omega) (growslice_fits (by omega) OI);rw [hr] at c6;cases c6;simp only [Value.ownBlock,Option.some.injEq] at bj;exact .inr (by omega)
 ·have An:=eS.2
  rcases An with ⟨rfl,rfl⟩ | ⟨g,cap,cur,rfl,mK,hg,nZ,wb,eV,Aq⟩
  ·exact .inl (gn.mono fun k _ hk=>by cases hk)
  ·by_cases hroom:n+m<=cap
   ·have c6:=run_append_room (P:=P) w t ty e i hu hi g n cap cur hg ⟨b,o,none⟩ m c news iV w8 (by simpa [kV] using h1) hroom
     (by rw [iV,eV,<-Nat.add_mul,cK];exact Nat.mul_le_mul_right _ hroom)
    rw [hr] at c6;cases c6;exact .inr rfl
   ·have holds:∀ j u,xs[j]?=some u->w.cell? ((⟨g,0,none⟩:Addr).add j)=some u:=World.ownsRow.cells (g:=g) eS rfl;have c6:=run_append_grow (P:=P) w t ty e i z hu hi hz ⟨g,0,none⟩ n cap xs (by rw [cK];exact eS.1) holds ⟨b,o,none⟩ m c news iV w8 (by omega) (by omega) (growslice_fits (by omega) OI);rw [hr] at c6;cases c6;exact .inl ⟨rfl,rfl,rfl,by simp,fun k hk _=>Below.heap_alloc _ _ _ (by simpa using hk)⟩
theorem WL.push {x s:Operand} {t e k gC:Nat} {z:List Value} [hT:nO P t e k gC] [hZ:oV P t e k z] {base n:Nat} {xs vs:List Value} {v val:Value} {d1:Tmp} {Nq:TypeId} {Fs:String} {KE:Array Edge}
  (hx:ev l x=val) (hs:∀ u,ev (put l (some d1) u) s=v) (hd:∀ u,ev (put l (some d1) u) (.tmp d1)=u) (hc:val.cells=vs.toArray) (hk:vs.length=k) (h1:kV vs=true)
  (eS:gi w base e k v n xs) (Tp:n+1<=9223372036854775807) (w5:(n+1) * gC<=140737488355328) (aak:k<=16777216) (Ae:base<=w.heap.size)
  (h:∀ u v' w',gi w' base e k v' (n+1) (xs++vs)->Ext (fun b=>v.ownBlock=some b) w w'->(∀ b,v'.ownBlock=some b->v.ownBlock=some b\/w.heap.size<=b)->(Ext gQ w w'\/v'.ownBlock=v.ownBlock)->WL P ops Q rest (put (put l (some d1) u) d v') w') :
  WL P ops Q (⟨some d1,.buildSlice t 1 #[(0,x)],Nq,Fs,KE,none⟩::⟨d,.call ⟨.builtin .append,#[s,.tmp d1],#[t,t]⟩,ty,pos,af,none⟩::rest) l w:=by
 have hkp:=hZ.pos
 have cK:val.cells.size=k:=by rw [hc];simpa using hk
 have b8:∀ (vs cs:List Value),vs.length=cs.length->gq cs 0 vs=vs:=by
  have gen:∀ (vs pre cs:List Value),vs.length=cs.length->gq (pre++cs) pre.length vs=pre++vs:=by
   intro vs
   induction vs with
   | nil=>intro pre cs hl;cases cs <;> simp_all [gq]
   | cons a r ih =>
    intro pre cs hl
    cases cs with
    | nil=>simp at hl
    | cons c cs =>
     have hu:eK (pre++c::cs) pre.length a=pre++a::cs:=by
      clear hl
      induction pre with
      | nil=>rfl
      | cons p pre ihp=>simp [eK,ihp]
     rw [gq,hu];have:=ih (pre++[a]) cs (by simpa using hl);simpa using this
  intro vs cs hl;exact gen vs [] cs hl
 have VI:o0 (fun i=>some (i * k,k)) ((List.range (1 * k)).map fun j=>z.getD (j % k) undef) ([((0:Nat),x)].map fun y=>(y.1,ev l y.2))=some vs:=by
  simp only [List.map_cons,map_nil,o0,hx,cK];simp [hk,hc];exact b8 vs _ (by simpa using hk)
 refine WL.BO (n:=1) (parts:=[(0,x)]) (by omega) VI ?_;intro b2 w2 bJ;have Jp:gi w2 base e k v n xs:=eS.ext bJ.ext (fun _ _ h=>h);refine WL.app (base:=base) (v:=v) (n:=n) (xs:=xs) (news:=vs) (m:=1) (hs _) Jp (hd _) (by omega) (fun j u hj=>?_) h1 Tp w5 (Nat.le_trans Ae bJ.ext.size) ?_
 ·rw [Nat.zero_add];exact KM bJ.blk (by simpa using hj)
 ·intro v' w3 ho Mg hb uy;refine h _ v' w3 ho ((bJ.ext.mono (fun _ _ h=>h.elim)).trans Mg) (fun b bj=>?_) (uy.imp (fun h5=>bJ.ext.trans h5) id)
  rcases hb b bj with h4 | h4
  ·exact .inl h4
  ·exact .inr (Nat.le_trans bJ.ext.size h4)
end
end Go.Xw
namespace Go.Xw
open Go.RowKit
section
variable {P:Program} {ops:Array Oper} {S:Nat->Prop}
end
def rh:List Oper->Nat->Oper
 | [],_=>default
 | o::_,0=>o
 | _::r,n+1=>rh r n
theorem RZ (ol:List Oper) (i:Nat) (o:Oper) (h:ol.toArray[i]?=some o):rh ol i=o:=by
 have h':ol[i]?=some o:=by simpa using h
 clear h
 induction ol generalizing i with
 | nil=>simp at h'
 | cons x r ih =>
  cases i with
  | zero=>simpa [rh] using h'
  | succ i=>exact ih i (by simpa using h')
section
variable {P:Program} {ops:Array Oper} {S:Nat->Prop} {Q:kO} {l:List Value} {w:World} {r:List (Oper × Bool)} {d:Option Tmp} {op:Op} {ty:TypeId} {pos:String} {af:Array Edge}
end
end Go.Xw
namespace Go.Xw
open Go.RowKit
def J5:IntKind->IntKind->Bool
 | .i8,.i8 | .i16,.i16 | .i32,.i32 | .i64,.i64 | .u8,.u8 | .u16,.u16 | .u32,.u32 | .u64,.u64=>true
 | _,_=>false
theorem Px {a b:IntKind} (h:J5 a b=true):a=b:=by cases a <;> cases b <;> first | rfl | cases h
def Ji (op:BinOp) (a b:Int):Option Value :=
 match op with
 | .eql=>some (.bool (a==b))
 | .neq=>some (.bool (a != b))
 | .lss=>some (.bool (decide (a < b)))
 | .leq=>some (.bool (decide (a<=b)))
 | .gtr=>some (.bool (decide (b < a)))
 | .geq=>some (.bool (decide (b<=a)))
 | _=>none
def Jh (op:BinOp):Value->Value->Option Value
 | .int k a,.int k' b=>match J5 k k' with
  | true=>Ji op a b
  | false=>none
 | _,_=>none
def vk (c:Op) (x:Value):Option Value :=
 match c with
 | .nilCheck _=>match x with
  | .pointer (some a)=>some (.pointer (some a))
  | _=>none
 | .unOp .not _ _=>match x with
  | .bool b=>some (.bool (!b))
  | _=>none
 | .extract _ i=>match x with
  | .tuple vs=>vs[i]?
  | _=>none
 | _=>none
def go (ρ:Operand->Value) (o:Op):Option Value :=
 match o with
 | .move x=>some (ρ x)
 | .assign x=>some (ρ x)
 | .makeFunc fn f c=>some (.func fn (f.map ρ) (c.map ρ))
 | .binOp op _ x y _=>Jh op (ρ x) (ρ y)
 | .nilCheck x=>vk o (ρ x)
 | .unOp _ _ x=>vk o (ρ x)
 | .extract x _=>vk o (ρ x)
 | _=>none
section
variable {P:Program} {l:List Value} {w:World}
theorem RG {o:Op} {v:Value} (h:go (ev l) o=some v):ed P l w o v:=by
 unfold go at h;split at h
 ·cases h;exact R.mv
 ·cases h;exact R.sT
 ·cases h;exact R.pk
 ·rename_i op t x y t';unfold Jh at h;split at h
  ·rename_i k a k' b hx hy;split at h
   ·rename_i hk;have:=Px hk;subst this;unfold Ji at h
    split at h <;> first | (cases h;done) | skip
    ·cases h;exact R.eq hx hy
    ·cases h;exact R.ne hx hy
    ·cases h;exact R.lt hx hy
    ·cases h;exact R.le hx hy
    ·cases h;exact R.YM hx hy
    ·cases h;exact R.ge hx hy
   ·cases h
  ·cases h
 ·unfold vk at h;simp only at h;split at h
  ·rename_i a hx;cases h;exact R.JT hx
  ·cases h
 ·rename_i op t x;unfold vk at h
  cases op <;> simp only at h <;> first | (cases h;done) | skip
  split at h
  ·rename_i b hx;cases h;exact R.not hx
  ·cases h
 ·unfold vk at h;simp only at h;split at h
  ·rename_i vs hx;exact R.extract hx h
  ·cases h
 ·cases h
theorem R.ef {x y:Operand} {t t':TypeId} {a b:Nat} (hx:ev l x=ii a) (hy:ev l y=ii b) (hb:a+b<=9223372036854775807):ed P l w (.binOp .add t x y t') (ii ((a+b:Nat):Int)):=R.add hx hy (by omega) (by omega)
theorem R.wC {x y:Operand} {t t':TypeId} {a:Nat} (hx:ev l x=ii a) (hy:ev l y=ii 1) (hb:a+1<=9223372036854775807):ed P l w (.binOp .add t x y t') (ii ((a+1:Nat):Int)):=R.add hx hy (by omega) (by omega)
theorem R.C8 {c a b:Operand} {t:Bool} (hc:ev l c=.bool t) (ht:t=true):ed P l w (.pick c a b) (ev l a):=by
 subst ht;exact R.pick hc
theorem R.C7 {c a b:Operand} {t:Bool} (hc:ev l c=.bool t) (ht:t=false):ed P l w (.pick c a b) (ev l b):=by
 subst ht;exact R.pick hc
end
section
variable {P:Program} {Q:kO} {l:List Value} {w:World} {ops:Array Oper} {rest:List Oper} {d:Option Tmp} {op:Op} {ty:TypeId} {pos:String} {af:Array Edge} {v:Value} {S:Nat->Prop} {r:List (Oper × Bool)}
end
def tG (ops:List Oper) (l:List Value):Option (Nat × Bool)->Bool
 | none=>true
 | some (j,b)=>match (rh ops j).dst with
  | some t=>match nth l t with
   | .bool c=>c==b
   | _=>false
  | none=>false
def jb {α:Type}:List α->Nat->Bool
 | [],_=>false
 | _::_,0=>true
 | _::r,n+1=>jb r n
theorem Ax {α:Type}:∀ {l:List α} {n:Nat},jb l n=true->n < l.length
 | [],_,h=>by cases h
 | _::_,0,_=>by simp
 | _::r,n+1,h=>by have:=Ax (l:=r) (n:=n) h;simp;omega
def CQ:Option (Nat × Bool)->List Oper->List Value->Bool
 | some (j,_),ops,l=>jb ops j&&(match (rh ops j).dst with
  | some t=>jb l t&&(match nth l t with | .bool _=>true | .tuple _=>true | _=>false)
  | none=>false)
 | none,_,_=>true
theorem Ig (ol:List Oper) (j:Nat) (h:j < ol.length):ol.toArray[j]?=some (rh ol j):=by
 obtain ⟨o,ho⟩:∃ o,ol.toArray[j]?=some o:=⟨ol[j],by simp [h]⟩;rw [ho,RZ ol j o ho]
theorem UE (l:List Value) (t:Nat) (h:t < l.length):l[t]?=some (nth l t):=by
 induction l generalizing t with
 | nil=>simp at h
 | cons x l ih=>cases t with
  | zero=>rfl
  | succ t=>simpa [nth] using ih t (by simpa using h)
theorem u6 {ops:Array Oper} {d:Option Tmp} {op:Op} {ty:TypeId} {pos:String} {af:Array Edge} {gd:Option (Nat × Bool)} {l:List Value} (hb:CQ gd ops.toList l=true) :
  Region.wanted ⟨d,op,ty,pos,af,gd⟩ (yielded ops (act l).tmps)=tG ops.toList l gd:=by
 cases gd with
 | none=>rfl
 | some x =>
  obtain ⟨j,b⟩:=x;simp only [CQ,Bool.and_eq_true] at hb;obtain ⟨h1,h2⟩:=hb;have hj:=Ig ops.toList j (Ax h1);simp only [Array.toArray_toList] at hj;simp only [Region.wanted,tG,yielded,hj,Option.bind_some]
  cases hd:(rh ops.toList j).dst with
  | none=>rw [hd] at h2;cases h2
  | some t =>
   rw [hd] at h2;simp only [Bool.and_eq_true] at h2;have ht:=UE l t (Ax h2.1);simp only [Option.bind_some,act]
   have Ap:l.toArray[t]?=some (nth l t):=by simpa using ht
   rw [Ap]
   cases hv:nth l t <;> rw [hv] at h2 <;> simp_all
def gv (ops:List Oper) (l:List Value) (gd:Nat × Bool):Option Bool :=
 match (rh ops gd.1).dst with
 | some t=>match nth l t with
  | .bool c=>some c
  | _=>none
 | none=>none
theorem Nw {ops:List Oper} {l:List Value} {gd:Nat × Bool} {c:Bool} (hv:gv ops l gd=some c) (hc:c=gd.2):tG ops l (some gd)=true:=by
 obtain ⟨j,b⟩:=gd;unfold gv at hv;unfold tG;simp only at hv hc |-;split at hv
 ·rename_i t ht;split at hv
  ·rename_i c' de;cases hv;simp [hc]
  ·cases hv
 ·cases hv
theorem Nv {ops:List Oper} {l:List Value} {gd:Nat × Bool} {c:Bool} (hv:gv ops l gd=some c) (hc:c=!gd.2):tG ops l (some gd)=false:=by
 obtain ⟨j,b⟩:=gd;unfold gv at hv;unfold tG;simp only at hv hc |-;split at hv
 ·rename_i t ht;split at hv
  ·rename_i c' de;cases hv;cases b <;> simp_all
  ·cases hv
 ·cases hv
theorem Nx {ops:List Oper} {l:List Value} {gd:Nat × Bool} (hv:gv ops l gd=none):tG ops l (some gd)=false:=by
 obtain ⟨j,b⟩:=gd;unfold gv at hv;unfold tG;simp only at hv |-;split at hv
 ·rename_i t ht;split at hv
  ·cases hv
  ·first | rfl | (split <;> simp_all)
 ·rfl
section
variable {P:Program} {Q:kO} {l:List Value} {w:World} {ops:Array Oper} {rest:List Oper} {d:Option Tmp} {op:Op} {ty:TypeId} {pos:String} {af:Array Edge} {v:Value} {S:Nat->Prop} {r:List (Oper × Bool)} {gd:Nat × Bool}
theorem GT {c:Bool} (hb:CQ (some gd) ops.toList l=true) (hv:gv ops.toList l gd=some c) (hc:c=gd.2) (h:WL P ops Q (⟨d,op,ty,pos,af,none⟩::rest) l w):WL P ops Q (⟨d,op,ty,pos,af,some gd⟩::rest) l w:=WL.gt ((u6 hb).trans (Nw hv hc)) h
theorem GF {c:Bool} (hb:CQ (some gd) ops.toList l=true) (hv:gv ops.toList l gd=some c) (hc:c=!gd.2) (h:WL P ops Q rest (put l d undef) w):WL P ops Q (⟨d,op,ty,pos,af,some gd⟩::rest) l w:=WL.gf ((u6 hb).trans (Nv hv hc)) h
theorem GU (hb:CQ (some gd) ops.toList l=true) (hv:gv ops.toList l gd=none) (h:WL P ops Q rest (put l d undef) w):WL P ops Q (⟨d,op,ty,pos,af,some gd⟩::rest) l w:=WL.gf ((u6 hb).trans (Nx hv)) h
end
def JX:Value->Bool
 | .agg _=>false
 | .tuple _=>false
 | _=>true
theorem vI {v:Value} (h:JX v=true):v.cells=#[v]/\v.oneCell'=true:=by
 cases v <;> first | exact ⟨rfl,rfl⟩ | cases h
end Go.Xw
namespace Go.Xg
open Go.RowKit Go.Xw
inductive GV where
 | v (x:Value)
 | U
 | agg (cs:List GV)
 | tup (cs:List GV)
 | sl (k:Nat) (rows:List (List GV))
 | box (cs:List GV) (o:Nat)
 | loc (i o:Nat)
 | vec (i n:Nat)
 | vp (i n k idx off:Nat)
 | arr (i o n:Nat)
 | fn (f:Fn) (first cap:List GV)
abbrev Fz:=Nat->Nat->Option GV
inductive Bk where
 | no
 | fix (b:Nat)
 | gr (h:Value) (m:Nat)
def Bk.blk:Bk->Option Nat
 | .no=>none
 | .fix b=>some b
 | .gr h _=>h.ownBlock
abbrev Bt:=Nat->Bk
def cj (K K':Fz):Prop:=∀ b o g,K b o=some g->K' b o=some g
def rO:Bk->Bk->Prop
 | .no,_=>True
 | .fix b,x=>x=.fix b
 | .gr h m,x=>∃ h' m',x=.gr h' m'/\m<=m'/\(m'=m->h'=h)
def cX (β bM:Bt):Prop:=∀ i,rO (β i) (bM i)
theorem cj.refl (K:Fz):cj K K:=fun _ _ _ h=>h
theorem cj.trans {a b c:Fz} (h:cj a b) (k:cj b c):cj a c:=fun x y z hz=>k x y z (h x y z hz)
theorem rO.refl (x:Bk):rO x x:=by cases x with | no=>trivial | fix b=>rfl | gr h m=>exact ⟨h,m,rfl,Nat.le_refl _,fun _=>rfl⟩
theorem rO.trans {a b c:Bk} (h:rO a b) (k:rO b c):rO a c:=by
 cases a with
 | no=>trivial
 | fix x=>cases h;exact k
 | gr x m =>
  obtain ⟨x',m',rfl,h1,h2⟩:=h;obtain ⟨x2,m2,rfl,h3,h4⟩:=k
  exact ⟨x2,m2,rfl,Nat.le_trans h1 h3,fun he=>by
   have:m'=m:=by omega
   rw [h4 (by omega),h2 this]⟩
theorem cX.refl (β:Bt):cX β β:=fun i=>rO.refl _
theorem cX.trans {a b c:Bt} (h:cX a b) (k:cX b c):cX a c:=fun i=>(h i).trans (k i)
inductive Rel (K:Fz) (β:Bt):Value->GV->Prop
 | v (x:Value):Rel K β x (.v x)
 | U (x:Value):Rel K β x .U
 | agg (vs:List Value) (cs:List GV) (hl:vs.length=cs.length) (h:∀ (i:Nat) v g,vs[i]?=some v->cs[i]?=some g->Rel K β v g):Rel K β (.agg vs.toArray) (.agg cs)
 | tup (vs:List Value) (cs:List GV) (hl:vs.length=cs.length) (h:∀ (i:Nat) v g,vs[i]?=some v->cs[i]?=some g->Rel K β v g):Rel K β (.tuple vs.toArray) (.tup cs)
 | sl0 (a:Option Addr) (c k:Nat):Rel K β (.slice a 0 c) (.sl k [])
 | sl (b o c k:Nat) (rows:List (List GV)) (h:∀ (i:Nat) r,rows[i]?=some r->r.length=k/\∀ (j:Nat) g,r[j]?=some g->K b (o+i * k+j)=some g) (hc:rows.length<=c):Rel K β (.slice (some ⟨b,o,none⟩) rows.length c) (.sl k rows)
 | box (b o' o:Nat) (cs:List GV) (h:∀ (j:Nat) g,cs[j]?=some g->K b (o'+j)=some g):Rel K β (.pointer (some ⟨b,o'+o,none⟩)) (.box cs o)
 | loc (i o b:Nat) (h:β i=.fix b):Rel K β (.pointer (some ⟨b,o,none⟩)) (.loc i o)
 | vec (i n:Nat) (a:Option Addr) (c:Nat) (h:∃ h m,β i=.gr h m/\n<=m/\(m=n->.slice a n c=h)):Rel K β (.slice a n c) (.vec i n)
 | vp (i n k idx off:Nat) (x:Value) (h:∃ h m,β i=.gr h m/\n<=m/\(m=n->∃ b,h.ownBlock=some b/\x=.pointer (some ⟨b,idx * k+off,none⟩))):Rel K β x (.vp i n k idx off)
 | arr (i o n b c:Nat) (h:β i=.fix b):Rel K β (.slice (some ⟨b,o,none⟩) n c) (.arr i o n)
 | fn (f:Fn) (xs ys:List Value) (first cap:List GV) (hl:xs.length=first.length) (iV:ys.length=cap.length) (h:∀ (i:Nat) v g,xs[i]?=some v->first[i]?=some g->Rel K β v g)
   (h':∀ (i:Nat) v g,ys[i]?=some v->cap[i]?=some g->Rel K β v g):Rel K β (.func f xs.toArray ys.toArray) (.fn f first cap)
theorem Rel.mono {K K':Fz} {β bM:Bt} {x:Value} {g:GV} (h:Rel K β x g) (hk:cj K K') (hb:cX β bM):Rel K' bM x g:=by
 induction h with
 | v x=>exact .v x
 | U x=>exact .U x
 | agg vs cs hl h ih=>exact .agg vs cs hl ih
 | tup vs cs hl h ih=>exact .tup vs cs hl ih
 | sl0 a c k=>exact .sl0 a c k
 | sl b o c k rows h hc=>exact .sl b o c k rows (fun i r hr=>⟨(h i r hr).1,fun j g hg=>hk _ _ _ ((h i r hr).2 j g hg)⟩) hc
 | box b o' o cs h=>exact .box b o' o cs fun j g hg=>hk _ _ _ (h j g hg)
 | loc i o b h=>exact .loc i o b (by have:=hb i;rw [h] at this;exact this)
 | vec i n a c h =>
  obtain ⟨h0,m,h1,h2,h3⟩:=h;have h4:=hb i;rw [h1] at h4;obtain ⟨h',m',h5,h6,h7⟩:=h4;exact .vec i n a c ⟨h',m',h5,by omega,fun he=>by rw [h7 (by omega)];exact h3 (by omega)⟩
 | vp i n k idx off x h =>
  obtain ⟨h0,m,h1,h2,h3⟩:=h;have h4:=hb i;rw [h1] at h4;obtain ⟨h',m',h5,h6,h7⟩:=h4;exact .vp i n k idx off x ⟨h',m',h5,by omega,fun he=>by rw [h7 (by omega)];exact h3 (by omega)⟩
 | arr i o n b c h=>exact .arr i o n b c (by have:=hb i;rw [h] at this;exact this)
 | fn f xs ys first cap hl iV h h' ih ih'=>exact .fn f xs ys first cap hl iV ih ih'
def GV.pc:GV->Bool
 | .v _=>true
 | .sl _ _=>true
 | .box _ _=>true
 | _=>false
theorem Rel.pc {K:Fz} {β bM:Bt} {x:Value} {g:GV} (h:Rel K β x g) (hp:g.pc=true):Rel K bM x g:=by
 cases h <;> first | (cases hp;done) | skip
 ·exact .v _
 ·exact .sl0 _ _ _
 ·rename_i h hc;exact .sl _ _ _ _ _ h hc
 ·rename_i h;exact .box _ _ _ _ h
def GV.one:GV->Bool
 | .v x=>JX x
 | .U=>false
 | .agg _=>false
 | .tup _=>false
 | .vp _ _ _ _ _=>false
 | _=>true
theorem Rel.one {K:Fz} {β:Bt} {x:Value} {g:GV} (h:Rel K β x g) (ho:g.one=true):JX x=true:=by
 cases h <;> first | exact ho | rfl | (cases ho;done)
abbrev aY (K:Fz) (β:Bt) (vs:List Value) (gs:List GV):Prop:=vs.length=gs.length/\∀ (i:Nat) v g,vs[i]?=some v->gs[i]?=some g->Rel K β v g
theorem aY.mono {K K':Fz} {β bM:Bt} {vs:List Value} {gs:List GV} (h:aY K β vs gs) (hk:cj K K') (hb:cX β bM):aY K' bM vs gs:=⟨h.1,fun i v g h1 h2=>(h.2 i v g h1 h2).mono hk hb⟩
theorem aY.nil {K:Fz} {β:Bt}:aY K β [] []:=⟨rfl,fun i v g h=>by simp at h⟩
theorem aY.cons {K:Fz} {β:Bt} {v:Value} {g:GV} {vs:List Value} {gs:List GV} (h:Rel K β v g) (hs:aY K β vs gs):aY K β (v::vs) (g::gs):=by
 refine ⟨by simp [hs.1],fun i x y h1 h2=>?_⟩
 cases i with
 | zero=>cases h1;cases h2;exact h
 | succ i=>exact hs.2 i x y h1 h2
theorem aY.mZ {K:Fz} {β:Bt} {v:Value} {g:GV} {vs:List Value} {gs:List GV} (h:aY K β (v::vs) (g::gs)):Rel K β v g/\aY K β vs gs :=
 ⟨h.2 0 v g rfl rfl,by simpa using h.1,fun i x y h1 h2=>h.2 (i+1) x y h1 h2⟩
theorem aY.app {K:Fz} {β:Bt} {vs us:List Value} {gs hs:List GV} (h:aY K β vs gs) (k:aY K β us hs):aY K β (vs++us) (gs++hs):=by
 induction vs generalizing gs with
 | nil =>
  have:gs=[]:=by have:=h.1;simp at this;exact eq_nil_of_length_eq_zero this.symm
  subst this;exact k
 | cons v vs ih =>
  cases gs with
  | nil=>have:=h.1;simp at this
  | cons g gs=>obtain ⟨h1,h2⟩:=h.mZ;exact .cons h1 (ih h2)
theorem aY.at {K:Fz} {β:Bt} {vs:List Value} {gs:List GV} (h:aY K β vs gs) {i:Nat} {g:GV} (hg:gs[i]?=some g):∃ v,vs[i]?=some v/\Rel K β v g:=by
 have hi:i < vs.length:=by rw [h.1];exact (List.getElem?_eq_some_iff.1 hg).1
 exact ⟨vs[i],by simp [hi],h.2 i _ g (by simp [hi]) hg⟩
theorem aY.take {K:Fz} {β:Bt} {vs:List Value} {gs:List GV} (h:aY K β vs gs) (n:Nat):aY K β (vs.take n) (gs.take n):=by
 refine ⟨by simp [h.1],fun i x y h1 h2=>?_⟩;rw [getElem?_take] at h1 h2;split at h1
 ·rename_i hi;rw [if_pos hi] at h2;exact h.2 i x y h1 h2
 ·cases h1
theorem aY.drop {K:Fz} {β:Bt} {vs:List Value} {gs:List GV} (h:aY K β vs gs) (n:Nat):aY K β (vs.drop n) (gs.drop n):=by
 refine ⟨by simp [h.1],fun i x y h1 h2=>?_⟩;rw [getElem?_drop] at h1 h2;exact h.2 _ x y h1 h2
def cq:List GV->Nat->GV
 | [],_=>.U
 | g::_,0=>g
 | _::l,n+1=>cq l n
def bo:List GV->Nat->GV->List GV
 | [],_,_=>[]
 | _::l,0,g=>g::l
 | x::l,n+1,g=>x::bo l n g
def aS (l:List GV):Operand->GV
 | .tmp t=>cq l t
 | .const v=>.v v
 | .global g=>.v (.pointer (some ⟨g,0,none⟩))
 | .func f=>.v (.func (.func f) #[] #[])
def bm (l:List GV) (d:Option Tmp) (g:GV):List GV:=match d with | some d=>bo l d g | none=>l
inductive FR (K:Fz) (β:Bt):List GV->List Value->Prop
 | nil:FR K β [] []
 | cons {g:GV} {v:Value} {gs:List GV} {vs:List Value} (h:Rel K β v g) (t:FR K β gs vs):FR K β (g::gs) (v::vs)
theorem FR.mono {K K':Fz} {β bM:Bt} {gs:List GV} {vs:List Value} (h:FR K β gs vs) (hk:cj K K') (hb:cX β bM):FR K' bM gs vs:=by
 induction h with
 | nil=>exact .nil
 | cons h t ih=>exact .cons (h.mono hk hb) ih
theorem FR.nth {K:Fz} {β:Bt} {gs:List GV} {vs:List Value} (h:FR K β gs vs) (t:Nat):Rel K β (nth vs t) (cq gs t):=by
 induction h generalizing t with
 | nil=>exact .U _
 | cons h _ ih=>cases t with | zero=>exact h | succ t=>exact ih t
theorem FR.ev {K:Fz} {β:Bt} {gs:List GV} {vs:List Value} (h:FR K β gs vs) (x:Operand):Rel K β (ev vs x) (aS gs x):=by
 cases x with
 | tmp t=>exact h.nth t
 | const v=>exact .v _
 | global g=>exact .v _
 | func f=>exact .v _
theorem FR.eK {K:Fz} {β:Bt} {gs:List GV} {vs:List Value} (h:FR K β gs vs) (t:Nat) {v:Value} {g:GV} (hv:Rel K β v g):FR K β (bo gs t g) (eK vs t v):=by
 induction h generalizing t with
 | nil=>exact .nil
 | cons h ht ih=>cases t with | zero=>exact .cons hv ht | succ t=>exact .cons h (ih t)
theorem FR.put {K:Fz} {β:Bt} {gs:List GV} {vs:List Value} (h:FR K β gs vs) (d:Option Tmp) {v:Value} {g:GV} (hv:Rel K β v g):FR K β (bm gs d g) (put vs d v):=by
 cases d with | none=>exact h | some d=>exact h.eK d hv
theorem FR.args {K:Fz} {β:Bt} {gs:List GV} {vs:List Value} (h:FR K β gs vs) (xs:List Operand):aY K β (xs.map (Xw.ev vs)) (xs.map (aS gs)):=by
 induction xs with
 | nil=>exact .nil
 | cons x xs ih=>exact .cons (h.ev x) ih
inductive Ob where
 | gone
 | box (E:TypeId) (cs:List GV)
 | vec (E:TypeId) (k fz:Nat) (rows:List (List GV))
 | vech (E:TypeId) (k:Nat) (rows:List (List GV)) (x:Value)
 | lost
def iO (K:Fz) (w:World):Prop:=∀ b o g,K b o=some g->g.pc=true/\∃ v,fu w.heap b o=some v/\Rel K (fun _=>.no) v g
def fm (k:Nat) (rows:List (List GV)):Prop:=∀ r∈rows,r.length=k/\∀ g∈r,g.pc=true
def jG (K:Fz) (β:Bt) (w:World) (i:Nat):Ob->Prop
 | .gone=>β i=.no
 | .box E cs=>∃ b vs,β i=.fix b/\w.heap[b]?=some (.cells vs.toArray E (0,0))/\aY K β vs cs/\∀ o,K b o=none
 | .vec E k fz rows=>∃ h xs,β i=.gr h rows.length/\gi w 0 E k h rows.length xs/\aY K β xs rows.flatten/\fm k rows /\
   (∀ b,h.ownBlock=some b->(∀ o,fz * k<=o->K b o=none)/\∀ o g,o < fz * k->rows.flatten[o]?=some g->K b o=some g)/\fz<=rows.length
 | .vech E k rows x=>∃ xs,β i=.gr x rows.length/\gi w 0 E k x rows.length xs/\aY K β xs rows.flatten/\fm k rows/\∀ b,x.ownBlock=some b->∀ o,K b o=none
 | .lost=>∀ b,(β i).blk=some b->b < w.heap.size
def uM:List Int:=(List.range 20).map fun i=>((10 ^ i:Nat):Int)
def uR:List Int:=(List.range 256).map fun i=>if i=9\/i=10\/i=11\/i=12\/i=13\/i=32 then 1 else 0
def wA (m:Int):Fz:=fun b o =>
 if b=1 then (match o with | 0=>some (.v (.int .i64 m)) | _=>none)
 else if b=3 then uM[o]?.map fun z=>.v (.int .u64 z)
 else if b=0 then uR[o]?.map fun z=>.v (.int .u8 z)
 else none
def rR (w:World) (b n:Nat):Prop:=∃ cs E z,w.heap[b]?=some (.cells cs E z)/\cs.size=n
theorem rR.lt {w:World} {b n:Nat} (h:rR w b n):b < w.heap.size:=by obtain ⟨cs,E,z,h,_⟩:=h;exact qS h
structure fH (K:Fz) (β:Bt) (w:World):Prop where
 le:∃ m,cj (wA m) K
 pow:rR w 3 20
 spc:rR w 0 256
 free:∀ i b,(β i).blk=some b->b≠3/\b≠0
theorem fH.step {S:Nat->Prop} {K K':Fz} {β bM:Bt} {w w':World} (h:fH K β w) (hx:Ext S w w') (hS:∀ b,S b->∃ i,(β i).blk=some b) (hk:cj K K') (pS:∀ i b,(bM i).blk=some b->(∃ j,(β j).blk=some b)\/w.heap.size<=b):fH K' bM w':=by
 obtain ⟨⟨m,h1⟩,h2,h3,h4⟩:=h
 have key:∀ {b n:Nat},rR w b n->¬ S b->rR w' b n:=fun ⟨cs,E,z,a,e⟩ hn=>⟨cs,E,z,hx.blk a hn,e⟩
 refine ⟨⟨m,h1.trans hk⟩,key h2 (fun hs=>?_),key h3 (fun hs=>?_),fun i b hb=>?_⟩
 ·obtain ⟨i,hi⟩:=hS _ hs;exact (h4 i _ hi).1 rfl
 ·obtain ⟨i,hi⟩:=hS _ hs;exact (h4 i _ hi).2 rfl
 ·rcases pS i b hb with ⟨j,hj⟩ | hs
  ·exact h4 j b hj
  ·have:=h2.lt;have:=h3.lt;exact ⟨by omega,by omega⟩
structure Bs where
 w0:World
 foot:Nat->Prop
 K0:Fz
 β0:Bt
 m:Nat
structure Inv (B:Bs) (K:Fz) (β:Bt) (Γ:List Ob) (w:World):Prop where
 ext:Ext B.foot B.w0 w
 kle:cj B.K0 K
 ble:cX B.β0 β
 loc:∀ i,B.m<=i->B.β0 i=.no
 fz:iO K w
 ob:∀ i x,Γ[i]?=some x->jG K β w i x
 out:∀ i,Γ.length<=i->β i=.no
 dis:∀ i j b,(β i).blk=some b->(β j).blk=some b->i=j
 own:∀ i b,(β i).blk=some b->B.foot b\/B.w0.heap.size<=b
 kn:∀ b o g,K b o=some g->B.K0 b o=some g\/B.foot b\/B.w0.heap.size<=b
 tab:fH K β w
section
variable {B:Bs} {K:Fz} {β:Bt} {Γ:List Ob} {w:World}
theorem jG.lt {i:Nat} {x:Ob} (h:jG K β w i x) {b:Nat} (hb:(β i).blk=some b):b < w.heap.size:=by
 cases x with
 | gone=>simp only [jG] at h;rw [h] at hb;cases hb
 | box E cs =>
  obtain ⟨b',vs,h1,h2,_⟩:=h;rw [h1] at hb;cases hb;exact qS h2
 | vec E k fz rows =>
  obtain ⟨h',xs,h1,h2,_⟩:=h;rw [h1] at hb;exact (h2.lt hb).2
 | vech E k rows x =>
  obtain ⟨xs,h1,h2,_⟩:=h;rw [h1] at hb;exact (h2.lt hb).2
 | lost=>exact h b hb
theorem Inv.lt (h:Inv B K β Γ w) {i b:Nat} (hb:(β i).blk=some b):b < w.heap.size:=by
 by_cases hi:i < Γ.length
 ·exact (h.ob i Γ[i] (by simp [hi])).lt hb
 ·rw [h.out i (by omega)] at hb;cases hb
theorem iO.lt (h:iO K w) {b o:Nat} {g:GV} (hg:K b o=some g):b < w.heap.size:=by
 obtain ⟨_,v,hv,_⟩:=h b o g hg;exact DV hv
def blocks (β:Bt):Nat->Prop:=fun b=>∃ i,(β i).blk=some b
def cur (K:Fz) (β:Bt) (Γ:List Ob) (w:World):Bs:=⟨w,blocks β,K,β,Γ.length⟩
theorem Inv.here (h:Inv B K β Γ w):Inv (cur K β Γ w) K β Γ w :=
 ⟨Ext.refl w,cj.refl K,cX.refl β,h.out,h.fz,h.ob,h.out,h.dis,fun i b hb=>.inl ⟨i,hb⟩,fun _ _ _ h=>.inl h,h.tab⟩
theorem Inv.MY {K':Fz} {bM:Bt} {aJ Xe:List Ob} {w':World} (h:Inv B K β Γ w) (k:Inv (cur K β Xe w) K' bM aJ w'):Inv B K' bM aJ w' :=
 ⟨h.ext.step k.ext (fun j hj=>by obtain ⟨i,hi⟩:=hj;exact (h.own i j hi).symm),h.kle.trans k.kle,h.ble.trans k.ble,h.loc,k.fz,k.ob,k.out,k.dis,
  fun i b hb=>by
   rcases k.own i b hb with h1 | h1
   ·obtain ⟨j,hj⟩:=h1;exact h.own j b hj
   ·exact .inr (Nat.le_trans h.ext.size h1),
  fun b o g hg=>by
   rcases k.kn b o g hg with h1 | ⟨j,hj⟩ | h1
   ·exact h.kn b o g h1
   ·exact .inr (h.own j b hj)
   ·exact .inr (.inr (Nat.le_trans h.ext.size h1)),k.tab⟩
theorem jG.ext {S:Nat->Prop} {K':Fz} {bM:Bt} {w':World} {i:Nat} {x:Ob} (h:jG K β w i x) (hx:Ext S w w') (hs:∀ b,(β i).blk=some b->¬ S b) (hk:cj K K') (hb:cX β bM)
  (he:bM i=β i) (hn:∀ b o,(β i).blk=some b->K b o=none->K' b o=none):jG K' bM w' i x:=by
 cases x with
 | gone=>simp only [jG] at h |-;rw [he,h]
 | box E cs =>
  obtain ⟨b,vs,h1,h2,h3,h4⟩:=h
  have ea:(β i).blk=some b:=by rw [h1];rfl
  exact ⟨b,vs,he.trans h1,hx.blk h2 (hs b ea),h3.mono hk hb,fun o=>hn b o ea (h4 o)⟩
 | vec E k fz rows =>
  obtain ⟨h',xs,h1,h2,h3,h4,h5,h6⟩:=h
  have ea:∀ b,h'.ownBlock=some b->(β i).blk=some b:=fun b hb=>by rw [h1];exact hb
  exact ⟨h',xs,he.trans h1,h2.ext hx (fun b bj=>hs b (ea b bj)),h3.mono hk hb,h4,fun b bj=>⟨fun o ho=>hn b o (ea b bj) ((h5 b bj).1 o ho),fun o g ho hg=>hk _ _ _ ((h5 b bj).2 o g ho hg)⟩,h6⟩
 | vech E k rows x =>
  obtain ⟨xs,h1,h2,h3,h4,h5⟩:=h
  have ea:∀ b,x.ownBlock=some b->(β i).blk=some b:=fun b hb=>by rw [h1];exact hb
  exact ⟨xs,he.trans h1,h2.ext hx (fun b bj=>hs b (ea b bj)),h3.mono hk hb,h4,fun b bj o=>hn b o (ea b bj) (h5 b bj o)⟩
 | lost=>exact fun b bj=>Nat.lt_of_lt_of_le (h b (by rw [<-he];exact bj)) hx.size
theorem iO.ext {S:Nat->Prop} {w':World} (h:iO K w) (hx:Ext S w w') (hs:∀ b o g,K b o=some g->¬ S b):iO K w':=fun b o g hg=>by
 obtain ⟨h1,v,hv,hr⟩:=h b o g hg;exact ⟨h1,v,hx.c hv (hs b o g hg),hr⟩
theorem Inv.same {w':World} (h:Inv B K β Γ w) (hx:Ext gQ w w'):Inv B K β Γ w' :=
 ⟨h.ext.step hx (fun j hj=>hj.elim),h.kle,h.ble,h.loc,h.fz.ext hx (fun _ _ _ _ h=>h),fun i x hi=>(h.ob i x hi).ext hx (fun _ _ h=>h) (cj.refl K) (cX.refl β) rfl (fun _ _ _ h=>h),h.out,h.dis,h.own,h.kn,h.tab.step hx (fun _ h=>h.elim) (cj.refl K) (fun i b h=>.inl ⟨i,h⟩)⟩
def eZ (p:Nat->Bool) (β:Bt):Bt:=fun i=>match p i with
 | true=>β i
 | false=>.no
theorem gZ {p:Nat->Bool} {β:Bt} {i:Nat} (h:p i=true):eZ p β i=β i:=by simp [eZ,h]
theorem rJ {p:Nat->Bool} {β:Bt} {i:Nat} (h:p i=false):eZ p β i=.no:=by simp [eZ,h]
end
end Go.Xg
namespace Go.Xg
open Go.RowKit Go.Xw
section
variable {B:Bs} {K:Fz} {β:Bt} {Γ:List Ob} {w:World}
def en (β:Bt) (i:Nat) (x:Bk):Bt:=fun j=>if j=i then x else β j
theorem bc {i:Nat} {x:Bk}:en β i x i=x:=by simp [en]
theorem bA {i j:Nat} {x:Bk} (h:j≠i):en β i x j=β j:=by simp [en,h]
theorem lu {i j b:Nat} {x:Bk} (h:(en β i x j).blk=some b):x.blk=some b\/(β j).blk=some b:=by
 by_cases hj:j=i
 ·subst hj;rw [bc] at h;exact .inl h
 ·rw [bA hj] at h;exact .inr h
theorem fM {i:Nat} {x:Bk} (h:rO (β i) x):cX β (en β i x):=fun j=>by
 by_cases hj:j=i
 ·subst hj;rw [bc];exact h
 ·rw [bA hj];exact rO.refl _
theorem aY.self {vs:List Value}:aY K β vs (vs.map .v):=⟨by simp,fun i v g h1 h2=>by
 rw [getElem?_map,h1] at h2;cases h2;exact .v _⟩
theorem Inv.add {w':World} {b:Nat} {vs:List Value} {cs:List GV} {E:TypeId} (h:Inv B K β Γ w) (hn:tX w w' b (.cells vs.toArray E)) (hr:aY K β vs cs) :
  Inv B K (en β Γ.length (.fix b)) (Γ++[.box E cs]) w':=by
 have bT:β Γ.length=.no:=h.out _ (Nat.le_refl _);have hle:cX β (en β Γ.length (.fix b)):=fM (by rw [bT];trivial)
 have ar:∀ i b',(β i).blk=some b'->b'≠b:=fun i b' bj=>by have:=h.lt bj;have:=hn.fresh;omega
 have hK:∀ o,K b o=none:=fun o=>by
  cases hk:K b o with
  | none=>rfl
  | some g=>have:=h.fz.lt hk;have:=hn.fresh;omega
 refine ⟨h.ext.step hn.ext (fun j hj=>hj.elim),h.kle,h.ble.trans hle,h.loc,h.fz.ext hn.ext (fun _ _ _ _ h=>h),fun i x hi=>?_,fun i hi=>?_,fun i j b' hi hj=>?_,fun i b' hi=>?_,h.kn,h.tab.step hn.ext (fun _ h=>h.elim) (cj.refl K) (fun i b2 hi=>by rcases lu hi with h1 | h1;(· cases h1;exact .inr (by have:=hn.fresh;omega));exact .inl ⟨i,h1⟩)⟩
 ·by_cases we:i < Γ.length
  ·rw [getElem?_append_left we] at hi
   have bL:i≠Γ.length:=by omega
   exact (h.ob i x hi).ext hn.ext (fun _ _ h=>h) (cj.refl K) hle (bA bL) (fun _ _ _ h=>h)
  ·have:i=Γ.length:=by have:=(List.getElem?_eq_some_iff.1 hi).1;simp at this;omega
   subst this;simp at hi;subst hi;exact ⟨b,vs,bc,hn.blk,hr.mono (cj.refl K) hle,hK⟩
 ·simp at hi;rw [bA (by omega)];exact h.out i (by omega)
 ·by_cases h1:i=Γ.length <;> by_cases h2:j=Γ.length
  ·omega
  ·subst h1;rw [bc] at hi;rw [bA h2] at hj;cases hi;exact absurd rfl (ar j _ hj)
  ·subst h2;rw [bc] at hj;rw [bA h1] at hi;cases hj;exact absurd rfl (ar i _ hi)
  ·rw [bA h1] at hi;rw [bA h2] at hj;exact h.dis i j b' hi hj
 ·by_cases h1:i=Γ.length
  ·subst h1;rw [bc] at hi;cases hi;exact .inr (by have:=hn.fresh;have:=h.ext.size;omega)
  ·rw [bA h1] at hi;exact h.own i b' hi
theorem Inv.Bb {w':World} {E k:Nat} {x:Value} {xs:List Value} {rows:List (List GV)} (h:Inv B K β Γ w) (hx:Ext gQ w w') (ho:gi w' 0 E k x rows.length xs) (hf:∀ b,x.ownBlock=some b->w.heap.size<=b)
  (hr:aY K β xs rows.flatten) (hk:fm k rows):Inv B K (en β Γ.length (.gr x rows.length)) (Γ++[.vec E k 0 rows]) w':=by
 have bT:β Γ.length=.no:=h.out _ (Nat.le_refl _);have hle:cX β (en β Γ.length (.gr x rows.length)):=fM (by rw [bT];trivial)
 have ar:∀ i b',(β i).blk=some b'->x.ownBlock≠some b':=fun i b' bj he=>by have:=h.lt bj;have:=hf b' he;omega
 have hK:∀ b,x.ownBlock=some b->∀ o,K b o=none:=fun b hb o=>by
  cases hk:K b o with
  | none=>rfl
  | some g=>have:=h.fz.lt hk;have:=hf b hb;omega
 refine ⟨h.ext.step hx (fun j hj=>hj.elim),h.kle,h.ble.trans hle,h.loc,h.fz.ext hx (fun _ _ _ _ h=>h),fun i y hi=>?_,fun i hi=>?_,fun i j b' hi hj=>?_,fun i b' hi=>?_,h.kn,h.tab.step hx (fun _ h=>h.elim) (cj.refl K) (fun i b2 hi=>by rcases lu hi with h1 | h1;(· exact .inr (hf b2 h1));exact .inl ⟨i,h1⟩)⟩
 ·by_cases we:i < Γ.length
  ·rw [getElem?_append_left we] at hi
   have bL:i≠Γ.length:=by omega
   exact (h.ob i y hi).ext hx (fun _ _ h=>h) (cj.refl K) hle (bA bL) (fun _ _ _ h=>h)
  ·have:i=Γ.length:=by have:=(List.getElem?_eq_some_iff.1 hi).1;simp at this;omega
   subst this;simp at hi;subst hi;exact ⟨x,xs,bc,ho,hr.mono (cj.refl K) hle,hk,fun b hb=>⟨fun o _=>hK b hb o,fun o g ho _=>by omega⟩,Nat.zero_le _⟩
 ·simp at hi;rw [bA (by omega)];exact h.out i (by omega)
 ·by_cases h1:i=Γ.length <;> by_cases h2:j=Γ.length
  ·omega
  ·subst h1;rw [bc] at hi;rw [bA h2] at hj;exact absurd hi (ar j _ hj)
  ·subst h2;rw [bc] at hj;rw [bA h1] at hi;exact absurd hj (ar i _ hi)
  ·rw [bA h1] at hi;rw [bA h2] at hj;exact h.dis i j b' hi hj
 ·by_cases h1:i=Γ.length
  ·subst h1;rw [bc] at hi;exact .inr (Nat.le_trans h.ext.size (hf b' hi))
  ·rw [bA h1] at hi;exact h.own i b' hi
def kr (K:Fz) (b:Nat) (cs:List GV):Fz:=fun b' o=>if b'=b then cs[o]? else K b' o
theorem tZ {b o:Nat} {cs:List GV} {g:GV} (h:cs[o]?=some g):kr K b cs b o=some g:=by simp [kr,h]
theorem Inv.sY {w':World} {b:Nat} {vs:List Value} {cs:List GV} {E:TypeId} (h:Inv B K β Γ w) (hn:tX w w' b (.cells vs.toArray E)) (hr:aY K β vs cs) (hp:∀ g∈cs,g.pc=true) :
  cj K (kr K b cs)/\Inv B (kr K b cs) β Γ w':=by
 have Ts:∀ o,K b o=none:=fun o=>by
  cases hk:K b o with
  | none=>rfl
  | some g=>have:=h.fz.lt hk;have:=hn.fresh;omega
 have hle:cj K (kr K b cs):=fun b' o g hg=>by
  by_cases hb:b'=b
  ·subst hb;rw [Ts] at hg;cases hg
  ·simp [kr,hb,hg]
 refine ⟨hle,h.ext.step hn.ext (fun j hj=>hj.elim),h.kle.trans hle,h.ble,h.loc,fun b' o g hg=>?_,fun i x hi=>?_,h.out,h.dis,h.own,fun b' o g hg=>?_,h.tab.step hn.ext (fun _ h=>h.elim) hle (fun i b2 h=>.inl ⟨i,h⟩)⟩
 ·by_cases hb:b'=b
  ·subst hb;simp [kr] at hg;obtain ⟨v,hv,eL⟩:=hr.at hg;have xb:=hp g (mem_of_getElem? hg);exact ⟨xb,v,vc hn.blk (by simpa using hv),(eL.mono hle (cX.refl β)).pc xb⟩
  ·have kP:K b' o=some g:=by simpa [kr,hb] using hg
   obtain ⟨h1,v,h2,h3⟩:=h.fz b' o g kP;exact ⟨h1,v,hn.ext.c h2 (fun h=>h),h3.mono hle (cX.refl _)⟩
 ·refine (h.ob i x hi).ext hn.ext (fun _ _ h=>h) hle (cX.refl β) rfl (fun b' o hb hk=>?_)
  have:b'≠b:=by have:=h.lt hb;have:=hn.fresh;omega
  simp [kr,this,hk]
 ·by_cases hb:b'=b
  ·exact .inr (.inr (by have:=hn.fresh;have:=h.ext.size;omega))
  ·exact h.kn b' o g (by simpa [kr,hb] using hg)
theorem Inv.store {w':World} {i b:Nat} {E:TypeId} {cs yr:List GV} {Va:List Value} (h:Inv B K β Γ w) (hi:Γ[i]?=some (.box E cs)) (hb:β i=.fix b) (hs:sR w w' b Va.toArray E)
  (hr:aY K β Va yr):Inv B K β (Γ.set i (.box E yr)) w':=by
 obtain ⟨b0,vs,h1,h2,h3,h4⟩:=h.ob i _ hi;rw [hb] at h1;cases h1
 have ea:(β i).blk=some b:=by rw [hb];rfl
 refine ⟨h.ext.step hs.ext (fun j hj=>?_),h.kle,h.ble,h.loc,h.fz.ext hs.ext (fun b' o g hg he=>?_),fun j x hj=>?_,fun j hj=>h.out j (by simpa using hj),h.dis,h.own,h.kn,h.tab.step hs.ext (fun j hj=>⟨i,by subst hj;exact ea⟩) (cj.refl K) (fun i b2 h=>.inl ⟨i,h⟩)⟩
 ·subst hj;exact (h.own i _ ea).symm
 ·subst he;rw [h4] at hg;cases hg
 ·rw [getElem?_set] at hj;split at hj
  ·rename_i fw;split at hj
   ·cases hj;subst fw
    exact ⟨b,Va,hb,hs.blk,hr,h4⟩
   ·cases hj
  ·rename_i fw;refine (h.ob j x hj).ext hs.ext (fun b' bj he=>?_) (cj.refl K) (cX.refl β) rfl (fun _ _ _ h=>h);subst he;exact fw (h.dis i j _ ea bj)
def zZ (K:Fz) (x:Value) (n:Nat) (fl:List GV):Fz:=fun b o=>if x.ownBlock=some b/\o < n then fl[o]? else K b o
theorem xT {x:Value} {n b o:Nat} {fl:List GV} (h1:x.ownBlock=some b) (h2:o < n):zZ K x n fl b o=fl[o]?:=by unfold zZ;rw [if_pos ⟨h1,h2⟩]
theorem vl {x:Value} {n b o:Nat} {fl:List GV} (h:¬ (x.ownBlock=some b/\o < n)):zZ K x n fl b o=K b o:=by unfold zZ;rw [if_neg h]
theorem z6 {x:Value} {n b o:Nat} {fl:List GV} {g:GV} (h:zZ K x n fl b o=some g):(x.ownBlock=some b/\o < n/\fl[o]?=some g)\/(¬ (x.ownBlock=some b/\o < n)/\K b o=some g):=by
 by_cases hc:x.ownBlock=some b/\o < n
 ·rw [xT hc.1 hc.2] at h;exact .inl ⟨hc.1,hc.2,h⟩
 ·rw [vl hc] at h;exact .inr ⟨hc,h⟩
theorem Inv.grow {w':World} {i:Nat} {E k fz:Nat} {rows news:List (List GV)} {h0 x:Value} {xs ns:List Value} (h:Inv B K β Γ w) (hi:Γ[i]?=some (.vec E k fz rows)) (hb:β i=.gr h0 rows.length)
  (oL:gi w 0 E k h0 rows.length xs/\aY K β xs rows.flatten) (ho:gi w' 0 E k x (rows.length+news.length) (xs++ns)) (hx:Ext (fun b=>h0.ownBlock=some b) w w') (hf:∀ b,x.ownBlock=some b->h0.ownBlock=some b\/w.heap.size<=b)
  (hr:aY K β ns news.flatten) (hk:fm k news) (bL:news≠[]) (kJ:∀ b,h0.ownBlock=some b->∀ o v,o < fz * k->fu w.heap b o=some v->fu w'.heap b o=some v) :
  ∃ K',cj K K'/\cX β (en β i (.gr x (rows++news).length))/\Inv B K' (en β i (.gr x (rows++news).length)) (Γ.set i (.vec E k fz (rows++news))) w':=by
 obtain ⟨r8,xs',h1,h2,h3,h4,h5,h6⟩:=h.ob i _ hi;rw [hb] at h1;cases h1;clear h2 h3
 have hlen:news.length≠0:=fun h=>bL (eq_nil_of_length_eq_zero h)
 have hle:cX β (en β i (.gr x (rows++news).length)):=fM (by rw [hb];exact ⟨x,_,rfl,by simp,fun he=>by rw [List.length_append] at he;omega⟩)
 have wX:∀ b,h0.ownBlock=some b->(β i).blk=some b:=fun b bj=>by rw [hb];exact bj
 have Jk:rows.flatten.length=rows.length * k:=by rw [<-oL.2.1];exact oL.1.1
 have aaj:fz * k<=rows.flatten.length:=by rw [Jk];exact Nat.mul_le_mul_right k h6
 have CD:cj K (zZ K x (fz * k) rows.flatten):=fun b o g hg=>by
  by_cases hc:x.ownBlock=some b/\o < fz * k
  ·rw [xT hc.1 hc.2]
   rcases hf b hc.1 with h7 | h7
   ·have QG:o < rows.flatten.length:=by omega
    have:=(h5 b h7).2 o rows.flatten[o] hc.2 (by simp [QG]);rw [this] at hg;cases hg;simp [QG]
   ·have:=h.fz.lt hg;omega
  ·rw [vl hc];exact hg
 refine ⟨zZ K x (fz * k) rows.flatten,CD,hle,h.ext.step hx (fun j hj=>(h.own i j (wX j hj)).symm),h.kle.trans CD,h.ble.trans hle,h.loc,fun b o g hg=>?_,fun j y hj=>?_,fun j hj=>?_,fun j j' b hj lp=>?_,fun j b hj=>?_,fun b o g hg=>?_,h.tab.step hx (fun j hj=>⟨i,wX j hj⟩) CD (fun j b2 hi=>by rcases lu hi with h1 | h1;(· exact (hf b2 h1).imp (fun h2=>⟨i,wX b2 h2⟩) id);exact .inl ⟨j,h1⟩)⟩
 ·rcases z6 hg with ⟨bj,yH,hg⟩ | ⟨hc,hg⟩
  ·have xb:g.pc=true:=by
    obtain ⟨r,fR,c6⟩:=List.mem_flatten.1 (mem_of_getElem? hg);exact (h4 r fR).2 g c6
   obtain ⟨v,hv,eL⟩:=oL.2.at hg;obtain ⟨b2,c,qQ,_,_,jl⟩:=ho.cells.2 (by intro h0;have:xs=[]:=(List.append_eq_nil_iff.1 h0).1;rw [this] at hv;simp at hv)
   have eC:b2=b:=by rw [qQ] at bj;cases bj;rfl
   subst eC;have ar:o < xs.length:=(List.getElem?_eq_some_iff.1 hv).1;refine ⟨xb,v,?_,(eL.mono CD hle).pc xb⟩;rw [<-eT];exact jl o v (by rw [getElem?_append_left ar];exact hv)
  ·obtain ⟨hp,v,hv,eL⟩:=h.fz b o g hg;refine ⟨hp,v,?_,eL.mono CD (cX.refl _)⟩
   by_cases h7:h0.ownBlock=some b
   ·by_cases h8:o < fz * k
    ·exact kJ b h7 o v h8 hv
    ·rw [(h5 b h7).1 o (by omega)] at hg;cases hg
   ·exact hx.c hv h7
 ·rw [getElem?_set] at hj;split at hj
  ·rename_i fw;split at hj
   ·cases hj;subst fw
    refine ⟨x,xs++ns,bc,by simpa using ho,?_,?_,fun b bj=>⟨fun o yH=>?_,fun o g yH hg=>?_⟩,by simp;omega⟩
    ·rw [List.flatten_append];exact (oL.2.mono CD hle).app (hr.mono CD hle)
    ·intro r Mc
     rcases List.mem_append.1 Mc with h7 | h7
     ·exact h4 r h7
     ·exact hk r h7
    ·rw [vl (by omega)]
     rcases hf b bj with h7 | h7
     ·exact (h5 b h7).1 o yH
     ·cases kR:K b o with
      | none=>rfl
      | some g=>have:=h.fz.lt kR;omega
    ·rw [xT bj yH];rw [List.flatten_append,getElem?_append_left (by omega)] at hg;exact hg
   ·cases hj
  ·rename_i fw;refine (h.ob j y hj).ext hx (fun b bj he=>?_) CD hle (bA (fun he=>fw he.symm)) (fun b o bj kR=>?_)
   ·exact fw (h.dis i j b (wX b he) bj)
   ·rw [vl];exact kR;rintro ⟨h7,_⟩
    rcases hf b h7 with h8 | h8
    ·exact fw (h.dis i j b (wX b h8) bj)
    ·have:=h.lt bj;omega
 ·have lp:Γ.length<=j:=by simpa using hj
  have:i < Γ.length:=(List.getElem?_eq_some_iff.1 hi).1;rw [bA (by omega)];exact h.out j lp
 ·have key:∀ j b,j≠i->(β j).blk=some b->x.ownBlock≠some b:=fun j b EB bj he=>by
   rcases hf b he with h7 | h7
   ·exact EB (h.dis j i b bj (wX b h7))
   ·have:=h.lt bj;omega
  by_cases h1:j=i <;> by_cases h2:j'=i
  ·omega
  ·subst h1;rw [bc] at hj;rw [bA h2] at lp;exact absurd hj (key j' b h2 lp)
  ·subst h2;rw [bc] at lp;rw [bA h1] at hj;exact absurd lp (key j b h1 hj)
  ·rw [bA h1] at hj;rw [bA h2] at lp;exact h.dis j j' b hj lp
 ·by_cases h1:j=i
  ·subst h1;rw [bc] at hj
   rcases hf b hj with h7 | h7
   ·exact h.own j b (wX b h7)
   ·exact .inr (Nat.le_trans h.ext.size h7)
  ·rw [bA h1] at hj;exact h.own j b hj
 ·rcases z6 hg with ⟨bj,_,_⟩ | ⟨_,hg⟩
  ·rcases hf b bj with h7 | h7
   ·exact .inr (h.own i b (wX b h7))
   ·exact .inr (.inr (Nat.le_trans h.ext.size h7))
  ·exact h.kn b o g hg
theorem Inv.iv {i E k fz:Nat} {rows:List (List GV)} (h:Inv B K β Γ w) (hi:Γ[i]?=some (.vec E k fz rows)) :
  ∃ K',cj K K'/\(∀ x b,β i=.gr x rows.length->x.ownBlock=some b->∀ (o:Nat) g,rows.flatten[o]?=some g->K' b o=some g)/\Inv B K' β (Γ.set i (.vec E k rows.length rows)) w:=by
 obtain ⟨x,xs,h1,h2,h3,h4,h5,h6⟩:=h.ob i _ hi
 have Jk:rows.flatten.length=rows.length * k:=by rw [<-h3.1];exact h2.1
 have ea:∀ b,x.ownBlock=some b->(β i).blk=some b:=fun b hb=>by rw [h1];exact hb
 have hle:cj K (zZ K x (rows.length * k) rows.flatten):=fun b o g hg=>by
  by_cases hc:x.ownBlock=some b/\o < rows.length * k
  ·rw [xT hc.1 hc.2]
   have ar:o < rows.flatten.length:=by omega
   by_cases ho:o < fz * k
   ·have:=(h5 b hc.1).2 o rows.flatten[o] ho (by simp [ar]);rw [this] at hg;cases hg;simp [ar]
   ·rw [(h5 b hc.1).1 o (by omega)] at hg;cases hg
  ·rw [vl hc];exact hg
 refine ⟨zZ K x (rows.length * k) rows.flatten,hle,fun x' b HO hb o g hg=>?_,h.ext,h.kle.trans hle,h.ble,h.loc,fun b o g hg=>?_,fun j y hj=>?_,fun j hj=>h.out j (by simpa using hj),h.dis,h.own,fun b o g hg=>?_,h.tab.step (S:=gQ) (Ext.refl w) (fun _ h=>h.elim) hle (fun i b2 h=>.inl ⟨i,h⟩)⟩
 ·rw [h1] at HO;cases HO;rw [xT hb (by rw [<-Jk];exact (List.getElem?_eq_some_iff.1 hg).1)];exact hg
 ·rcases z6 hg with ⟨bj,yH,hg⟩ | ⟨hc,hg⟩
  ·have xb:g.pc=true:=by
    obtain ⟨r,fR,c6⟩:=List.mem_flatten.1 (mem_of_getElem? hg);exact (h4 r fR).2 g c6
   obtain ⟨v,hv,eL⟩:=h3.at hg;obtain ⟨b2,c,qQ,_,_,jl⟩:=h2.cells.2 (by intro h0;rw [h0] at hv;simp at hv)
   have eC:b2=b:=by rw [qQ] at bj;cases bj;rfl
   subst eC;exact ⟨xb,v,by rw [<-eT];exact jl o v hv,(eL.mono hle (cX.refl β)).pc xb⟩
  ·obtain ⟨h7,v,h8,h9⟩:=h.fz b o g hg;exact ⟨h7,v,h8,h9.mono hle (cX.refl _)⟩
 ·rw [getElem?_set] at hj;split at hj
  ·rename_i fw;split at hj
   ·cases hj;subst fw
    refine ⟨x,xs,h1,h2,h3.mono hle (cX.refl β),h4,fun b hb=>⟨fun o ho=>?_,fun o g ho hg=>?_⟩,Nat.le_refl _⟩
    ·rw [vl (by omega)];exact (h5 b hb).1 o (Nat.le_trans (Nat.mul_le_mul_right k h6) ho)
    ·rw [xT hb ho];exact hg
   ·cases hj
  ·rename_i fw;refine (h.ob j y hj).ext (Ext.refl w) (fun _ _ h=>h) hle (cX.refl β) rfl (fun b o bj kR=>?_) (S:=gQ);rw [vl];exact kR;rintro ⟨h7,_⟩;exact fw (h.dis i j b (ea b h7) bj)
 ·rcases z6 hg with ⟨bj,_,_⟩ | ⟨_,hg⟩
  ·exact .inr (h.own i b (ea b bj))
  ·exact h.kn b o g hg
end
end Go.Xg
namespace Go.Xg
open Go.RowKit Go.Xw
mutual
def dk (f:Nat->Nat):GV->GV
 | .v x=>.v x
 | .U=>.U
 | .agg cs=>.agg (kY f cs)
 | .tup cs=>.tup (kY f cs)
 | .sl k rows=>.sl k rows
 | .box cs o=>.box cs o
 | .loc i o=>.loc (f i) o
 | .vec i n=>.vec (f i) n
 | .vp i n k idx off=>.vp (f i) n k idx off
 | .arr i o n=>.arr (f i) o n
 | .fn g a c=>.fn g (kY f a) (kY f c)
def kY (f:Nat->Nat):List GV->List GV
 | []=>[]
 | g::gs=>dk f g::kY f gs
end
theorem jv (f:Nat->Nat) (gs:List GV):kY f gs=gs.map (dk f):=by
 induction gs with
 | nil=>rfl
 | cons g gs ih=>simp [kY,ih]
theorem Rel.A1 {K:Fz} {β:Bt} {f:Nat->Nat} {x:Value} {g:GV} (h:Rel K (fun j=>β (f j)) x g):Rel K β x (dk f g):=by
 induction h with
 | v x=>exact .v x
 | U x=>exact .U x
 | agg vs cs hl h ih =>
  rw [dk,jv]
  refine .agg vs _ (by simpa using hl) fun i v g h1 h2=>?_
  rw [getElem?_map] at h2
  cases hc:cs[i]? with
  | none=>rw [hc] at h2;cases h2
  | some c=>rw [hc] at h2;cases h2;exact ih i v c h1 hc
 | tup vs cs hl h ih =>
  rw [dk,jv]
  refine .tup vs _ (by simpa using hl) fun i v g h1 h2=>?_
  rw [getElem?_map] at h2
  cases hc:cs[i]? with
  | none=>rw [hc] at h2;cases h2
  | some c=>rw [hc] at h2;cases h2;exact ih i v c h1 hc
 | sl0 a c k=>exact .sl0 a c k
 | sl b o c k rows h hc=>exact .sl b o c k rows h hc
 | box b o' o cs h=>exact .box b o' o cs h
 | loc i o b h=>exact .loc _ o b h
 | vec i n a c h=>exact .vec _ n a c h
 | vp i n k idx off x h=>exact .vp _ n k idx off x h
 | arr i o n b c h=>exact .arr _ o n b c h
 | fn g xs ys first cap hl iV h h' ih ih' =>
  rw [dk,jv,jv];refine .fn g xs ys _ _ (by simpa using hl) (by simpa using iV) (fun i v g h1 h2=>?_) (fun i v g h1 h2=>?_)
  ·rw [getElem?_map] at h2
   cases hc:first[i]? with
   | none=>rw [hc] at h2;cases h2
   | some c=>rw [hc] at h2;cases h2;exact ih i v c h1 hc
  ·rw [getElem?_map] at h2
   cases hc:cap[i]? with
   | none=>rw [hc] at h2;cases h2
   | some c=>rw [hc] at h2;cases h2;exact ih' i v c h1 hc
theorem Rel.AL {K:Fz} {β:Bt} {f:Nat->Nat} {x:Value} {g:GV} (h:Rel K β x (dk f g)):Rel K (fun j=>β (f j)) x g:=by
 generalize he:dk f g=g' at h
 induction h generalizing g with
 | v x =>
  cases g <;> simp only [dk] at he <;> first | (cases he;done) | skip
  cases he;exact .v x
 | U x =>
  cases g <;> simp only [dk] at he <;> first | (cases he;done) | skip
  exact .U x
 | agg vs cs hl h ih =>
  cases g <;> simp only [dk] at he <;> first | (cases he;done) | skip
  rename_i ds;rw [jv] at he;cases he
  exact .agg vs ds (by simpa using hl) fun i v g h1 h2=>ih i v (dk f g) h1 (by rw [getElem?_map,h2];rfl) rfl
 | tup vs cs hl h ih =>
  cases g <;> simp only [dk] at he <;> first | (cases he;done) | skip
  rename_i ds;rw [jv] at he;cases he
  exact .tup vs ds (by simpa using hl) fun i v g h1 h2=>ih i v (dk f g) h1 (by rw [getElem?_map,h2];rfl) rfl
 | sl0 a c k =>
  cases g <;> simp only [dk] at he <;> first | (cases he;done) | skip
  cases he;exact .sl0 a c _
 | sl b o c k rows h hc =>
  cases g <;> simp only [dk] at he <;> first | (cases he;done) | skip
  cases he;exact .sl b o c k rows h hc
 | box b o' o cs h =>
  cases g <;> simp only [dk] at he <;> first | (cases he;done) | skip
  cases he;exact .box b o' o cs h
 | loc i o b h =>
  cases g <;> simp only [dk] at he <;> first | (cases he;done) | skip
  cases he;exact .loc _ o b h
 | vec i n a c h =>
  cases g <;> simp only [dk] at he <;> first | (cases he;done) | skip
  cases he;exact .vec _ n a c h
 | vp i n k idx off x h =>
  cases g <;> simp only [dk] at he <;> first | (cases he;done) | skip
  cases he;exact .vp _ n k idx off x h
 | arr i o n b c h =>
  cases g <;> simp only [dk] at he <;> first | (cases he;done) | skip
  cases he;exact .arr _ o n b c h
 | fn g' xs ys first cap hl iV h h' ih ih' =>
  cases g <;> simp only [dk] at he <;> first | (cases he;done) | skip
  rename_i f' ds es;rw [jv,jv] at he;cases he;exact .fn _ xs ys ds es (by simpa using hl) (by simpa using iV) (fun i v g h1 h2=>ih i v (dk f g) h1 (by rw [getElem?_map,h2];rfl) rfl)
   (fun i v g h1 h2=>ih' i v (dk f g) h1 (by rw [getElem?_map,h2];rfl) rfl)
mutual
def GV.ok (p:Nat->Bool):GV->Bool
 | .loc i _=>p i
 | .vec i _=>p i
 | .vp i _ _ _ _=>p i
 | .arr i _ _=>p i
 | .agg cs=>C1 p cs
 | .tup cs=>C1 p cs
 | .fn _ a c=>C1 p a&&C1 p c
 | .v _=>true
 | .U=>true
 | .sl _ _=>true
 | .box _ _=>true
def C1 (p:Nat->Bool):List GV->Bool
 | []=>true
 | g::gs=>GV.ok p g&&C1 p gs
end
def below (n:Nat):Nat->Bool:=fun i=>Nat.blt i n
def other (n:Nat):Nat->Bool:=fun i=>!Nat.beq i n
abbrev GV.lt (n:Nat) (g:GV):Bool:=g.ok (below n)
theorem uJ {p:Nat->Bool} {gs:List GV} (h:C1 p gs=true) {g:GV} (hg:g∈gs):g.ok p=true:=by
 induction gs with
 | nil=>cases hg
 | cons x gs ih =>
  simp only [C1,Bool.and_eq_true] at h
  rcases List.mem_cons.1 hg with rfl | hg
  ·exact h.1
  ·exact ih h.2 hg
theorem Rel.res {K:Fz} {β:Bt} {p:Nat->Bool} {x:Value} {g:GV} (h:Rel K β x g) (hl:g.ok p=true):Rel K (eZ p β) x g:=by
 induction h with
 | v x=>exact .v x
 | U x=>exact .U x
 | agg vs cs pb h ih=>simp only [GV.ok] at hl;exact .agg vs cs pb fun i v g h1 h2=>ih i v g h1 h2 (uJ hl (mem_of_getElem? h2))
 | tup vs cs pb h ih=>simp only [GV.ok] at hl;exact .tup vs cs pb fun i v g h1 h2=>ih i v g h1 h2 (uJ hl (mem_of_getElem? h2))
 | sl0 a c k=>exact .sl0 a c k
 | sl b o c k rows h hc=>exact .sl b o c k rows h hc
 | box b o' o cs h=>exact .box b o' o cs h
 | loc i o b h=>simp only [GV.ok] at hl;exact .loc _ o b (by rw [gZ hl,h])
 | vec i m a c h=>simp only [GV.ok] at hl;exact .vec _ m a c (by rw [gZ hl];exact h)
 | vp i m k idx off x h=>simp only [GV.ok] at hl;exact .vp _ m k idx off x (by rw [gZ hl];exact h)
 | arr i o m b c h=>simp only [GV.ok] at hl;exact .arr _ o m b c (by rw [gZ hl,h])
 | fn g' xs ys first cap pb iV h h' ih ih' =>
  simp only [GV.ok,Bool.and_eq_true] at hl
  exact .fn _ xs ys first cap pb iV (fun i v g h1 h2=>ih i v g h1 h2 (uJ hl.1 (mem_of_getElem? h2))) (fun i v g h1 h2=>ih' i v g h1 h2 (uJ hl.2 (mem_of_getElem? h2)))
def Ob.ok (p:Nat->Bool):Ob->Bool
 | .box _ cs=>C1 p cs
 | _=>true
def Ob.dk (f:Nat->Nat):Ob->Ob
 | .box E cs=>.box E (kY f cs)
 | x=>x
def C0 (p:Nat->Bool):List Ob->Bool
 | []=>true
 | x::r=>Ob.ok p x&&C0 p r
abbrev yQ (n:Nat) (Γ:List Ob):Bool:=C0 (below n) Γ
theorem Ii {p:Nat->Bool} {gs:List Ob} (h:C0 p gs=true) {g:Ob} (hg:g∈gs):g.ok p=true:=by
 induction gs with
 | nil=>cases hg
 | cons x gs ih =>
  simp only [C0,Bool.and_eq_true] at h
  rcases List.mem_cons.1 hg with rfl | hg
  ·exact h.1
  ·exact ih h.2 hg
def J3 (p:Nat->Bool):List GV->List GV
 | []=>[]
 | g::gs=>(match GV.ok p g with | true=>g | false=>.U)::J3 p gs
abbrev SU (n:Nat) (fr:List GV):List GV:=J3 (below n) fr
theorem FR.res {K:Fz} {β:Bt} {p:Nat->Bool} {fr:List GV} {l:List Value} (h:FR K β fr l):FR K (eZ p β) (J3 p fr) l:=by
 induction h with
 | nil=>exact .nil
 | cons h t ih =>
  rw [J3];split
  ·rename_i hl;exact .cons (h.res hl) ih
  ·exact .cons (.U _) ih
theorem jG.res {K:Fz} {β:Bt} {w:World} {p:Nat->Bool} {i:Nat} {x:Ob} (h:jG K β w i x) (hi:p i=true) (hx:x.ok p=true):jG K (eZ p β) w i x:=by
 cases x with
 | gone=>simp only [jG] at h |-;rw [gZ hi,h]
 | box E cs =>
  obtain ⟨b,vs,h1,h2,h3,h4⟩:=h;exact ⟨b,vs,by rw [gZ hi,h1],h2,⟨h3.1,fun i v g h5 h6=>(h3.2 i v g h5 h6).res (uJ hx (mem_of_getElem? h6))⟩,h4⟩
 | vec E k fz rows =>
  obtain ⟨h0,xs,h1,h2,h3,h4,h5⟩:=h;refine ⟨h0,xs,by rw [gZ hi,h1],h2,⟨h3.1,fun i v g h6 h7=>(h3.2 i v g h6 h7).pc ?_⟩,h4,h5⟩;obtain ⟨r,fR,c6⟩:=List.mem_flatten.1 (mem_of_getElem? h7);exact (h4 r fR).2 g c6
 | vech E k rows x =>
  obtain ⟨xs,h1,h2,h3,h4,h5⟩:=h;refine ⟨xs,by rw [gZ hi,h1],h2,⟨h3.1,fun i v g h6 h7=>(h3.2 i v g h6 h7).pc ?_⟩,h4,h5⟩;obtain ⟨r,fR,c6⟩:=List.mem_flatten.1 (mem_of_getElem? h7);exact (h4 r fR).2 g c6
 | lost=>exact fun b hb=>h b (by rw [gZ hi] at hb;exact hb)
section
variable {B:Bs} {K:Fz} {β:Bt} {Γ:List Ob} {w:World}
theorem xH {n i:Nat} (h:i < n):below n i=true:=by simpa [below] using h
theorem xG {n i:Nat} (h:n<=i):below n i=false:=by
 cases hb:below n i with
 | false=>rfl
 | true=>simp [below] at hb;omega
theorem Inv.cut {n:Nat} (h:Inv B K β Γ w) (hm:B.m<=n) (hl:yQ n (Γ.take n)=true):Inv B K (eZ (below n) β) (Γ.take n) w:=by
 have dq:∀ i b,(eZ (below n) β i).blk=some b->(β i).blk=some b:=fun i b hi=>by
  simp only [eZ] at hi;split at hi
  ·exact hi
  ·cases hi
 refine ⟨h.ext,h.kle,fun i=>?_,h.loc,h.fz,fun i x hi=>?_,fun i hi=>?_,fun i j b hi hj=>h.dis i j b (dq i b hi) (dq j b hj),fun i b hi=>h.own i b (dq i b hi),h.kn,h.tab.step (S:=gQ) (Ext.refl w) (fun _ h=>h.elim) (cj.refl K) (fun i b2 h2=>.inl ⟨i,dq i b2 h2⟩)⟩
 ·by_cases gI:i < n
  ·rw [gZ (xH gI)];exact h.ble i
  ·rw [h.loc i (by omega)];trivial
 ·have ar:=Ii hl (mem_of_getElem? hi);rw [getElem?_take] at hi;split at hi
  ·rename_i gI;exact (h.ob i x hi).res (xH gI) ar
  ·cases hi
 ·by_cases gI:i < n
  ·rw [gZ (xH gI)];exact h.out i (by simp at hi;omega)
  ·exact rJ (xG (by omega))
theorem Ik {i:Nat}:other i i=false:=by simp [other]
theorem uK {i j:Nat} (h:j≠i):other i j=true:=by
 cases hb:Nat.beq j i with
 | false=>simp [other,hb]
 | true=>exact absurd (Nat.eq_of_beq_eq_true hb) h
theorem Inv.freeze {i:Nat} {E:TypeId} {cs:List GV} (h:Inv B K β Γ w) (hi:Γ[i]?=some (.box E cs)) (hp:∀ g∈cs,g.pc=true) (bT:C0 (other i) (Γ.set i .gone)=true) (hm:B.m<=i) :
  ∃ K',cj K K'/\(∀ b,β i=.fix b->∀ (j:Nat) g,cs[j]?=some g->K' b j=some g)/\Inv B K' (eZ (other i) β) (Γ.set i .gone) w:=by
 obtain ⟨b,vs,h1,h2,h3,h4⟩:=h.ob i _ hi
 have ea:(β i).blk=some b:=by rw [h1];rfl
 have hle:cj K (kr K b cs):=fun b' o g hg=>by
  by_cases hb:b'=b
  ·subst hb;rw [h4] at hg;cases hg
  ·simp [kr,hb,hg]
 have dq:∀ j b',(eZ (other i) β j).blk=some b'->j≠i/\(β j).blk=some b':=fun j b' hj=>by
  by_cases hji:j=i
  ·subst hji;rw [rJ Ik] at hj;cases hj
  ·rw [gZ (uK hji)] at hj;exact ⟨hji,hj⟩
 refine ⟨kr K b cs,hle,fun b' bj j g hg=>?_,h.ext,h.kle.trans hle,fun j=>?_,h.loc,fun b' o g hg=>?_,fun j x hj=>?_,fun j hj=>?_,fun j j' b' hj lp=>?_,fun j b' hj=>?_,fun b' o g hg=>?_,h.tab.step (S:=gQ) (Ext.refl w) (fun _ h=>h.elim) hle (fun i b2 h2=>.inl ⟨i,(dq i b2 h2).2⟩)⟩
 ·rw [h1] at bj;cases bj;exact tZ hg
 ·by_cases hji:j=i
  ·subst hji;rw [h.loc j hm];trivial
  ·rw [gZ (uK hji)];exact h.ble j
 ·by_cases hb:b'=b
  ·subst hb;simp [kr] at hg;obtain ⟨v,hv,eL⟩:=h3.at hg;have xb:=hp g (mem_of_getElem? hg);exact ⟨xb,v,vc h2 (by simpa using hv),(eL.mono hle (cX.refl β)).pc xb⟩
  ·have kP:K b' o=some g:=by simpa [kr,hb] using hg
   obtain ⟨h5,v,h6,h7⟩:=h.fz b' o g kP;exact ⟨h5,v,h6,h7.mono hle (cX.refl _)⟩
 ·have ew:=Ii bT (mem_of_getElem? hj);rw [getElem?_set] at hj;split at hj
  ·rename_i fw;split at hj
   ·cases hj;subst fw;exact rJ Ik
   ·cases hj
  ·rename_i fw;refine jG.res ?_ (uK (fun he=>fw he.symm)) ew;refine (h.ob j x hj).ext (Ext.refl w) (fun _ _ h=>h) hle (cX.refl β) rfl (fun b' o bj hk=>?_) (S:=gQ)
   have:b'≠b:=fun he=>by subst he;exact fw (h.dis i j _ ea bj)
   simp [kr,this,hk]
 ·have:i < Γ.length:=(List.getElem?_eq_some_iff.1 hi).1
  have lp:Γ.length<=j:=by simpa using hj
  rw [gZ (uK (by omega))];exact h.out j lp
 ·exact h.dis j j' b' (dq j b' hj).2 (dq j' b' lp).2
 ·exact h.own j b' (dq j b' hj).2
 ·by_cases hb:b'=b
  ·subst hb;exact .inr (h.own i _ ea)
  ·exact h.kn b' o g (by simpa [kr,hb] using hg)
end
abbrev dH:=Exit->List GV->List Ob->Prop
def gl (B:Bs) (Q:dH):kO:=fun e l w=>∃ K β fr Γ,Inv B K β Γ w/\FR K β fr l/\Q e fr Γ
def GW (P:Program) (m:Nat) (c:Code) (Q:dH) (fr:List GV) (Γ:List Ob):Prop :=
 ∀ B K β w l,B.m=m->Inv B K β Γ w->FR K β fr l->W P c (gl B Q) l w
def GL (P:Program) (m:Nat) (ops:Array Oper) (Q:dH) (rest:List Oper) (fr:List GV) (Γ:List Ob):Prop :=
 ∀ B K β w l,B.m=m->Inv B K β Γ w->FR K β fr l->WL P ops (gl B Q) rest l w
def aW (next:List GV->List Ob->Prop) (Q:dH):dH
 | .normal,fr,Γ=>next fr Γ
 | e,fr,Γ=>Q e fr Γ
def aZ (id:Nat) (Q:dH):dH
 | .exit Aw,fr,Γ=>if Aw=id then Q .normal fr Γ else Q (.exit Aw) fr Γ
 | e,fr,Γ=>Q e fr Γ
def Wk (m:Nat) (fr:List GV) (Γ:List Ob) (bV:List GV) (aJ:List Ob):Prop :=
 ∀ B K β w l,B.m=m->Inv B K β Γ w->FR K β fr l->∃ K' bM,Inv B K' bM aJ w/\FR K' bM bV l
section
variable {P:Program} {m:Nat} {Q:dH} {fr:List GV} {Γ:List Ob} {ops:Array Oper} {rest:List Oper}
theorem Wk.trans {bV Lx:List GV} {aJ Dk:List Ob} (h:Wk m fr Γ bV aJ) (k:Wk m bV aJ Lx Dk):Wk m fr Γ Lx Dk:=fun B K β w l hm hI hF=>by
 obtain ⟨K',bM,bf,ur⟩:=h B K β w l hm hI hF;exact k B K' bM w l hm bf ur
theorem GW.wk {c:Code} {bV:List GV} {aJ:List Ob} (h:Wk m fr Γ bV aJ) (k:GW P m c Q bV aJ):GW P m c Q fr Γ:=fun B K β w l hm hI hF=>by
 obtain ⟨K',bM,bf,ur⟩:=h B K β w l hm hI hF;exact k B K' bM w l hm bf ur
theorem GL.wk {bV:List GV} {aJ:List Ob} (h:Wk m fr Γ bV aJ) (k:GL P m ops Q rest bV aJ):GL P m ops Q rest fr Γ:=fun B K β w l hm hI hF=>by
 obtain ⟨K',bM,bf,ur⟩:=h B K β w l hm hI hF;exact k B K' bM w l hm bf ur
theorem Wk.cut {n:Nat} (hm:m<=n) (hl:yQ n (Γ.take n)=true):Wk m fr Γ (SU n fr) (Γ.take n):=fun B K β w l hB hI hF =>
 ⟨K,eZ (below n) β,hI.cut (by omega) hl,hF.res⟩
inductive rS:List GV->List GV->Prop
 | nil:rS [] []
 | U {f:GV} {fs gs:List GV} (h:rS fs gs):rS (f::fs) (.U::gs)
 | eq {f g:GV} {fs gs:List GV} (he:f=g) (h:rS fs gs):rS (f::fs) (g::gs)
theorem FR.Ym {K:Fz} {β:Bt} {l:List Value} {fr bV:List GV} (h:rS fr bV) (k:FR K β fr l):FR K β bV l:=by
 induction h generalizing l with
 | nil=>exact k
 | U h ih=>cases k with | cons k1 k2=>exact .cons (.U _) (ih k2)
 | eq he h ih=>subst he;cases k with | cons k1 k2=>exact .cons k1 (ih k2)
theorem Wk.ax {bV:List GV} (h:rS fr bV):Wk m fr Γ bV Γ:=fun B K β w l _ hI hF=>⟨K,β,hI,hF.Ym h⟩
theorem GW.seq {x y:Code} (h:GW P m x (aW (GW P m y Q) Q) fr Γ):GW P m (.seq x y) Q fr Γ:=fun B K β w l hm hI hF=>by
 refine W.seq (W.mono (h B K β w l hm hI hF) ?_);rintro e l w ⟨K,β,fr,Γ,hI,hF,hq⟩
 cases e with
 | normal=>exact hq B K β w l hm hI hF
 | _=>exact ⟨K,β,fr,Γ,hI,hF,hq⟩
theorem GW.skip (h:Q .normal fr Γ):GW P m .skip Q fr Γ:=fun B K β w l hm hI hF=>W.skip ⟨K,β,fr,Γ,hI,hF,h⟩
theorem GW.exit {n:Nat} (h:Q (.exit n) fr Γ):GW P m (.exit n) Q fr Γ:=fun B K β w l hm hI hF=>W.exit ⟨K,β,fr,Γ,hI,hF,h⟩
theorem GW.ret (h:Q .ret fr Γ):GW P m .ret Q fr Γ:=fun B K β w l hm hI hF=>W.ret ⟨K,β,fr,Γ,hI,hF,h⟩
theorem GW.block {id:Nat} {c:Code} (h:GW P m c (aZ id Q) fr Γ):GW P m (.block id c) Q fr Γ:=fun B K β w l hm hI hF=>by
 refine W.block (W.mono (h B K β w l hm hI hF) ?_);rintro e l w ⟨K,β,fr,Γ,hI,hF,hq⟩
 cases e with
 | exit Aw =>
  simp only [aZ] at hq;simp only [Uq];split <;> rename_i hh
  ·rw [if_pos hh] at hq;exact ⟨K,β,fr,Γ,hI,hF,hq⟩
  ·rw [if_neg hh] at hq;exact ⟨K,β,fr,Γ,hI,hF,hq⟩
 | _=>exact ⟨K,β,fr,Γ,hI,hF,hq⟩
theorem Rel.eo {K:Fz} {β:Bt} {x a:Value} (h:Rel K β x (.v a)):x=a:=by cases h;rfl
theorem FR.gD {K:Fz} {β:Bt} {l:List Value} {x:Operand} {a:Value} (h:FR K β fr l) (hx:aS fr x=.v a):Xw.ev l x=a:=Rel.eo (by rw [<-hx];exact h.ev x)
theorem GW.cond {c:Operand} {x y:Code} {t:Bool} (hc:aS fr c=.v (.bool t)) (ht:t=true->GW P m x Q fr Γ) (hf:t=false->GW P m y Q fr Γ):GW P m (.cond c x y) Q fr Γ:=fun B K β w l hm hI hF =>
 W.cond (hF.gD hc) (fun h=>ht h B K β w l hm hI hF) (fun h=>hf h B K β w l hm hI hF)
theorem P7 {c:Operand} {x y:Code} {t:Bool} (hc:aS fr c=.v (.bool t)) (ht:t=true) (h:GW P m x Q fr Γ):GW P m (.cond c x y) Q fr Γ:=GW.cond hc (fun _=>h) (fun h2=>by rw [ht] at h2;cases h2)
theorem P6 {c:Operand} {x y:Code} {t:Bool} (hc:aS fr c=.v (.bool t)) (ht:t=false) (h:GW P m y Q fr Γ):GW P m (.cond c x y) Q fr Γ:=GW.cond hc (fun h2=>by rw [ht] at h2;cases h2) (fun _=>h)
theorem GW.mono {c:Code} {Q':dH} (h:GW P m c Q fr Γ) (hq:∀ e fr Γ,Q e fr Γ->Q' e fr Γ):GW P m c Q' fr Γ:=fun B K β w l hm hI hF =>
 W.mono (h B K β w l hm hI hF) fun e l w ⟨K,β,fr,Γ,hI,hF,q⟩=>⟨K,β,fr,Γ,hI,hF,hq _ _ _ q⟩
def ym (m:Nat) (K:List GV->List Ob->Prop) (fr:List GV) (Γ:List Ob):Prop:=∃ bV aJ,Wk m fr Γ bV aJ/\K bV aJ
theorem GW.loop {c:Code} {α:Type} (μ:α->Nat) (I:α->List GV->List Ob->Prop) (x:α) (h0:ym m (I x) fr Γ)
  (round:∀ x fr Γ,I x fr Γ->GW P m c (aW (fun bV aJ=>∃ y,ym m (I y) bV aJ/\μ y < μ x) Q) fr Γ):GW P m (.loop c) Q fr Γ:=fun B K β w l hm hI hF=>by
 obtain ⟨bV,aJ,hw,h0⟩:=h0;obtain ⟨K',bM,bf,ur⟩:=hw B K β w l hm hI hF;refine W.loop μ (fun x l w=>∃ K β fr Γ,Inv B K β Γ w/\FR K β fr l/\I x fr Γ) x ⟨K',bM,bV,aJ,bf,ur,h0⟩ ?_;rintro x l w ⟨K,β,fr,Γ,hI,hF,hi⟩;refine W.mono (round x fr Γ hi B K β w l hm hI hF) ?_;rintro e l w ⟨K,β,fr,Γ,hI,hF,hq⟩
 cases e with
 | normal =>
  obtain ⟨y,⟨bV,aJ,hw,hy⟩,ar⟩:=hq;obtain ⟨K',bM,bf,ur⟩:=hw B K β w l hm hI hF;exact ⟨y,⟨K',bM,bV,aJ,bf,ur,hy⟩,ar⟩
 | _=>exact ⟨K,β,fr,Γ,hI,hF,hq⟩
theorem GW.region {id:Nat} {ol:List Oper} (h:GL P m ol.toArray Q ol fr Γ):GW P m (.region id ol.toArray false) Q fr Γ:=fun B K β w l hm hI hF=>W.region (h B K β w l hm hI hF)
theorem GL.nil (h:Q .normal fr Γ):GL P m ops Q [] fr Γ:=fun B K β w l hm hI hF=>WL.nil ⟨K,β,fr,Γ,hI,hF,h⟩
end
section
variable {next:List GV->List Ob->Prop} {Q:dH} {fr:List GV} {Γ:List Ob} {id Aw:Nat}
theorem aK (h:next fr Γ):aW next Q .normal fr Γ:=h
theorem Ef (h:Q (.exit id) fr Γ):aW next Q (.exit id) fr Γ:=h
theorem cr (h:Q .ret fr Γ):aW next Q .ret fr Γ:=h
theorem bS (h:Q .normal fr Γ):aZ id Q .normal fr Γ:=h
theorem cn (h:Q .ret fr Γ):aZ id Q .ret fr Γ:=h
theorem HD (h:Q .normal fr Γ):aZ id Q (.exit id) fr Γ:=by simpa [aZ] using h
end
def GC (P:Program) (f:FuncId) (gs:List GV) (Γ:List Ob) (R:GV->List Ob->Prop):Prop :=
 ∀ B K β w vs,B.m=Γ.length->Inv B K β Γ w->aY K β vs gs->lL P f vs w fun v w'=>∃ K' bM g aJ,Inv B K' bM aJ w'/\Rel K' bM v g/\R g aJ
abbrev GF (P:Program) (f:FuncId) (gs:List GV) (Γ:List Ob) (g:GV) (aJ:List Ob):Prop:=GC P f gs Γ fun x Δ=>x=g/\Δ=aJ
theorem GC.mono {P:Program} {f:FuncId} {gs:List GV} {Γ:List Ob} {R R':GV->List Ob->Prop} (h:GC P f gs Γ R) (hr:∀ g Γ,R g Γ->R' g Γ):GC P f gs Γ R':=fun B K β w vs hm hI hF =>
 (h B K β w vs hm hI hF).mono fun v w' ⟨K',bM,g,aJ,h1,h2,h3⟩=>⟨K',bM,g,aJ,h1,h2,hr _ _ h3⟩
def Ee:Nat->List GV
 | 0=>[]
 | n+1=>.v undef::Ee n
def wR:List GV->Nat->List GV
 | [],n=>Ee n
 | a::r,n=>a::wR r (n - 1)
theorem FR.Fv {K:Fz} {β:Bt} (n:Nat):FR K β (Ee n) (Fv n):=by
 induction n with
 | zero=>exact .nil
 | succ n ih=>exact .cons (.v _) ih
theorem FR.frame {K:Fz} {β:Bt} {vs:List Value} {gs:List GV} (h:aY K β vs gs) (n:Nat):FR K β (wR gs n) (frame vs n):=by
 induction gs generalizing vs n with
 | nil =>
  have:vs=[]:=eq_nil_of_length_eq_zero h.1;subst this;exact FR.Fv n
 | cons g gs ih =>
  cases vs with
  | nil=>have:=h.1;simp at this
  | cons v vs=>obtain ⟨h1,h2⟩:=h.mZ;exact .cons h1 (ih h2 _)
def r7 (P:Program) (fn:Func) (m:Nat) (R:GV->List Ob->Prop):dH:=fun e fr Γ =>
 (e=.normal\/e=.ret)/\∀ B K β w l,B.m=m->Inv B K β Γ w->FR K β fr l->∃ v K' bM g aJ,(results fn l.toArray).run P w=.ok v w/\Inv B K' bM aJ w/\Rel K' bM v g/\R g aJ
theorem GC.enter {P:Program} {f:FuncId} {fn:Func} {c:Code} {gs:List GV} {Γ:List Ob} {R:GV->List Ob->Prop} {n:Nat} {fr:List GV}
  (hf:P.funcs[f]?=some fn) (hn:fn.ntmps=n) (hb:fn.body=some c) (hl:wR gs n=fr) (h:GW P Γ.length c (r7 P fn Γ.length R) fr Γ):GC P f gs Γ R:=fun B K β w vs hm hI hF=>by
 subst hl;refine lL.enter hf hn hb rfl (W.mono (h B K β w _ hm hI (FR.frame hF n)) ?_);rintro e l w ⟨K,β,fr,Γ,hI,hF,he,hq⟩;obtain ⟨v,K',bM,g,aJ,h1,h2,h3,h4⟩:=hq B K β w l hm hI hF
 rcases he with rfl | rfl
 ·exact ⟨v,h1,K',bM,g,aJ,h2,h3,h4⟩
 ·exact ⟨v,h1,K',bM,g,aJ,h2,h3,h4⟩
section
variable {P:Program} {fn:Func} {m:Nat} {R:GV->List Ob->Prop} {fr:List GV} {Γ:List Ob} {e:Exit}
theorem Th {n:Nat} (hr:fn.results=#[]) (he:e=.normal\/e=.ret) (hm:m<=n) (hl:yQ n (Γ.take n)=true) (h:R (.tup []) (Γ.take n)):r7 P fn m R e fr Γ :=
 ⟨he,fun B K β w l hB hI hF=>⟨.tuple #[],K,eZ (below n) β,.tup [],Γ.take n,by rw [results_none hr],hI.cut (by omega) hl,.tup [] [] rfl (fun i v g h=>by simp at h),h⟩⟩
theorem o7 {n:Nat} {t:Tmp} {g:GV} (hr:fn.results=#[.tmp t]) (he:e=.normal\/e=.ret) (hg:cq fr t=g) (hm:m<=n) (hl:yQ n (Γ.take n)=true) (jU:g.lt n=true) (h:R g (Γ.take n)):r7 P fn m R e fr Γ :=
 ⟨he,fun B K β w l hB hI hF=>⟨nth l t,K,eZ (below n) β,g,Γ.take n,by rw [results_tmp hr,jt],hI.cut (by omega) hl,by rw [<-hg] at jU |-;exact (hF.nth t).res jU,h⟩⟩
theorem Ti {n:Nat} {t u:Tmp} {g g':GV} (hr:fn.results=#[.tmp t,.tmp u]) (he:e=.normal\/e=.ret) (hg:cq fr t=g) (kP:cq fr u=g') (hm:m<=n) (hl:yQ n (Γ.take n)=true) (jU:(GV.tup [g,g']).lt n=true) (h:R (.tup [g,g']) (Γ.take n)):r7 P fn m R e fr Γ :=
 ⟨he,fun B K β w l hB hI hF=>⟨.tuple #[nth l t,nth l u],K,eZ (below n) β,.tup [g,g'],Γ.take n,by rw [results_tmp2 hr,jt,jt],hI.cut (by omega) hl,by
  refine Rel.res ?_ jU;subst hg kP;have hc:aY K β [nth l t,nth l u] [cq fr t,cq fr u]:=.cons (hF.nth t) (.cons (hF.nth u) .nil)
  exact .tup [nth l t,nth l u] _ hc.1 hc.2,h⟩⟩
theorem Tj {n:Nat} {t u s:Tmp} {g g' g2:GV} (hr:fn.results=#[.tmp t,.tmp u,.tmp s]) (he:e=.normal\/e=.ret) (hg:cq fr t=g) (kP:cq fr u=g') (fQ:cq fr s=g2) (hm:m<=n) (hl:yQ n (Γ.take n)=true) (jU:(GV.tup [g,g',g2]).lt n=true)
  (h:R (.tup [g,g',g2]) (Γ.take n)):r7 P fn m R e fr Γ :=
 ⟨he,fun B K β w l hB hI hF=>⟨.tuple #[nth l t,nth l u,nth l s],K,eZ (below n) β,.tup [g,g',g2],Γ.take n,by
   rw [<-jt l t,<-jt l u,<-jt l s];simp [results,hr],hI.cut (by omega) hl,by
  refine Rel.res ?_ jU;subst hg kP fQ;have hc:aY K β [nth l t,nth l u,nth l s] [cq fr t,cq fr u,cq fr s]:=.cons (hF.nth t) (.cons (hF.nth u) (.cons (hF.nth s) .nil))
  exact .tup [nth l t,nth l u,nth l s] _ hc.1 hc.2,h⟩⟩
theorem Tk {n:Nat} {t:Tmp} {T:TypeId} {k:Nat} [hT:Ty P T true k] {i:Nat} {E:TypeId} {cs:List GV} (hr:fn.results=#[.cell t T]) (he:e=.normal\/e=.ret) (hg:cq fr t=.loc i 0) (bu:Γ[i]?=some (.box E cs)) (hk:cs.length=k)
  (hm:m<=n) (hl:yQ n (Γ.take n)=true) (jU:(GV.agg cs).lt n=true) (h:R (.agg cs) (Γ.take n)):r7 P fn m R e fr Γ :=
 ⟨he,fun B K β w l hB hI hF=>by
  obtain ⟨b,vs,h1,h2,h3,h4⟩:=hI.ob i _ bu
  have hp:nth l t=.pointer (some ⟨b,0,none⟩):=by
   have:=hF.nth t;rw [hg] at this;generalize nth l t=v at this
   cases this with
   | loc _ _ b' bj=>rw [h1] at bj;cases bj;rfl
  have kH:l.toArray.getD t undef=.pointer (some ⟨b,0,none⟩):=by rw [jt,hp]
  have Ex:=mR (P:=P) (w:=w) (t:=T) (b:=b) (o:=0) (vs:=vs) (k:=k) (by rw [h3.1,hk]) (fun j v hj=>by
   rw [Nat.zero_add,cell_of_row w b j _ E (0,0) h2];simpa using hj)
  have zn:l[t]?.getD undef=.pointer (some ⟨b,0,none⟩):=by simpa using kH
  exact ⟨.agg vs.toArray,K,eZ (below n) β,.agg cs,Γ.take n,by simp [results,hr,zn,asAddr,Ex],hI.cut (by omega) hl,Rel.res (.agg vs cs h3.1 h3.2) jU,h⟩⟩
end
end Go.Xg
namespace Go.Xg
open Go.RowKit Go.Xw
def YG (P:Program) (op:Op) (fr:List GV) (Γ:List Ob) (g:GV):Prop :=
 ∀ B K β w l,Inv B K β Γ w->FR K β fr l->∃ v,ed P l w op v/\Rel K β v g
section
variable {P:Program} {m:Nat} {Q:dH} {fr:List GV} {Γ:List Ob} {ops:Array Oper} {rest:List Oper} {d:Option Tmp} {op:Op} {ty:TypeId} {pos:String} {af:Array Edge}
theorem GL.q {g:GV} (hy:YG P op fr Γ g) (h:GL P m ops Q rest (bm fr d g) Γ):GL P m ops Q (⟨d,op,ty,pos,af,none⟩::rest) fr Γ:=fun B K β w l hm hI hF=>by
 obtain ⟨v,hr,hv⟩:=hy B K β w l hI hF;exact WL.v hr (h B K β w _ hm hI (hF.put d hv))
theorem sP {bV:List GV} {aJ:List Ob} (h1:fr=bV) (h2:Γ=aJ) (h:GL P m ops Q rest bV aJ):GL P m ops Q rest fr Γ:=by subst h1;subst h2;exact h
theorem GN {bV:List GV} (h1:fr=bV) (h:GL P m ops Q rest bV Γ):GL P m ops Q rest fr Γ:=by subst h1;exact h
theorem YG.v1 {x:Operand} {a v:Value} (hx:aS fr x=.v a) (h:∀ l w,ev l x=a->ed P l w op v):YG P op fr Γ (.v v):=fun B K β w l hI hF=>⟨v,h l w (hF.gD hx),.v v⟩
theorem YG.v2 {x y:Operand} {a b v:Value} (hx:aS fr x=.v a) (hy:aS fr y=.v b) (h:∀ l w,ev l x=a->ev l y=b->ed P l w op v):YG P op fr Γ (.v v):=fun B K β w l hI hF=>⟨v,h l w (hF.gD hx) (hF.gD hy),.v v⟩
theorem YG.mv {x:Operand}:YG P (.move x) fr Γ (aS fr x):=fun B K β w l hI hF=>⟨_,R.mv,hF.ev x⟩
theorem YG.sT {x:Operand}:YG P (.assign x) fr Γ (aS fr x):=fun B K β w l hI hF=>⟨_,R.sT,hF.ev x⟩
theorem YG.pk {fn:Fn} {first cap:List Operand}:YG P (.makeFunc fn first.toArray cap.toArray) fr Γ (.fn fn (first.map (aS fr)) (cap.map (aS fr))):=fun B K β w l hI hF =>
 ⟨_,R.pk,by
  have h1:=hF.args first
  have h2:=hF.args cap
  simpa using Rel.fn fn _ _ _ _ h1.1 h2.1 h1.2 h2.2⟩
def BA:GV->Value
 | .v x=>x
 | _=>.nilFunc
def Tm (ρ:Operand->Value) (op:Op):Option Value :=
 match op with
 | .binOp _ _ _ _ _=>go ρ op
 | .unOp _ _ _=>go ρ op
 | _=>none
theorem RH {K:Fz} {β:Bt} {x:Value} {g:GV} (h:Rel K β x g):BA g=x\/BA g=.nilFunc:=by
 cases h <;> first | exact .inl rfl | exact .inr rfl
theorem YG.go {v:Value} (h:Tm (fun x=>BA (aS fr x)) op=some v):YG P op fr Γ (.v v):=fun B K β w l hI hF=>by
 refine ⟨v,RG ?_,.v v⟩
 have key:∀ x,BA (aS fr x)=ev l x\/BA (aS fr x)=.nilFunc:=fun x=>RH (hF.ev x)
 unfold Tm at h;split at h
 ·rename_i o t x y t';simp only [Xw.go] at h |-
  rcases key x with hx | hx <;> rcases key y with hy | hy <;> rw [hx,hy] at h
  ·exact h
  ·cases hv:ev l x <;> rw [hv] at h <;> cases h
  ·cases h
  ·cases h
 ·rename_i o t x;simp only [Xw.go,vk] at h |-
  rcases key x with hx | hx <;> rw [hx] at h
  ·exact h
  ·cases o <;> simp only at h <;> cases h
 ·cases h
theorem YG.C8 {c a b:Operand} {t:Bool} (hc:aS fr c=.v (.bool t)) (ht:t=true):YG P (.pick c a b) fr Γ (aS fr a):=fun B K β w l hI hF=>⟨_,R.C8 (hF.gD hc) ht,hF.ev a⟩
theorem YG.C7 {c a b:Operand} {t:Bool} (hc:aS fr c=.v (.bool t)) (ht:t=false):YG P (.pick c a b) fr Γ (aS fr b):=fun B K β w l hI hF=>⟨_,R.C7 (hF.gD hc) ht,hF.ev b⟩
theorem YG.Fi {x:Operand} {i o:Nat} (hx:aS fr x=.loc i o):YG P (.nilCheck x) fr Γ (.loc i o):=fun B K β w l hI hF=>by
 have h:=hF.ev x;rw [hx] at h;generalize hv:ev l x=v at h
 cases h with | loc _ _ b hb=>exact ⟨_,R.JT hv,.loc i o b hb⟩
theorem YG.Fh {x:Operand} {cs:List GV} {o:Nat} (hx:aS fr x=.box cs o):YG P (.nilCheck x) fr Γ (.box cs o):=fun B K β w l hI hF=>by
 have h:=hF.ev x;rw [hx] at h;generalize hv:ev l x=v at h
 cases h with | box b o' _ _ hb=>exact ⟨_,R.JT hv,.box b o' o cs hb⟩
theorem YG.zA {x:Operand} {t:TypeId} [hT:oW P t] {s:ai} (hx:aS fr x=.v (sv s)):YG P (.call ⟨.builtin .len,#[x],#[t]⟩) fr Γ (.v (ii s.length)):=YG.v1 hx fun l w h=>R.zA h
theorem YG.AE {x:Operand} {t e:TypeId} {k:Nat} [hT:mg P t e k] {k':Nat} {rows:List (List GV)} (hx:aS fr x=.sl k' rows):YG P (.call ⟨.builtin .len,#[x],#[t]⟩) fr Γ (.v (ii rows.length)):=fun B K β w l hI hF=>by
 have h:=hF.ev x;rw [hx] at h;generalize hv:ev l x=v at h
 cases h with
 | sl0 a c=>exact ⟨_,R.JK hv,.v _⟩
 | sl b o c _ _ h _=>exact ⟨_,R.JK hv,.v _⟩
theorem YG.EY {x:Operand} {t e:TypeId} {k:Nat} [hT:mg P t e k] {i n:Nat} (hx:aS fr x=.vec i n):YG P (.call ⟨.builtin .len,#[x],#[t]⟩) fr Γ (.v (ii n)):=fun B K β w l hI hF=>by
 have h:=hF.ev x;rw [hx] at h;generalize hv:ev l x=v at h
 cases h with | vec _ _ a c h=>exact ⟨_,R.JK hv,.v _⟩
theorem YG.EX {x:Operand} {t e:TypeId} {k:Nat} [hT:mg P t e k] {a:Option Addr} {n c:Nat} (hx:aS fr x=.v (.slice a n c)):YG P (.call ⟨.builtin .len,#[x],#[t]⟩) fr Γ (.v (ii n)):=YG.v1 hx fun l w h=>R.JK h
theorem YG.D0 {x y:Operand} {t t':TypeId} {a b:ai} (hx:aS fr x=.v (sv a)) (hy:aS fr y=.v (sv b)):YG P (.binOp .eql t x y t') fr Γ (.v (.bool (a==b))):=YG.v2 hx hy fun l w h k=>R.D0 h k
theorem YG.Fg {x y:Operand} {t t':TypeId} {a b:ai} (hx:aS fr x=.v (sv a)) (hy:aS fr y=.v (sv b)):YG P (.binOp .neq t x y t') fr Γ (.v (.bool (!(a==b)))):=YG.v2 hx hy fun l w h k=>R.Fg h k
theorem YG.qa {x y:Operand} {t:TypeId} [hT:oW P t] {s:ai} {k:IntKind} {i:Nat} {c:UInt8} (hx:aS fr x=.v (sv s)) (hy:aS fr y=.v (.int k i)) (hc:s[i]?=some c):YG P (.index t x y) fr Γ (.v (.int .u8 c.toNat)):=YG.v2 hx hy fun l w h k=>R.qa h k hc
theorem YG.add {x y:Operand} {t t':TypeId} {a b:Int} (hx:aS fr x=.v (ii a)) (hy:aS fr y=.v (ii b)) (hb : -9223372036854775808<=a+b/\a+b<=9223372036854775807):YG P (.binOp .add t x y t') fr Γ (.v (ii (a+b))):=YG.v2 hx hy fun l w h k=>R.add h k hb.1 hb.2
theorem YG.ef {x y:Operand} {t t':TypeId} {a b:Nat} (hx:aS fr x=.v (ii a)) (hy:aS fr y=.v (ii b)) (hb:a+b<=9223372036854775807):YG P (.binOp .add t x y t') fr Γ (.v (ii ((a+b:Nat):Int))):=YG.v2 hx hy fun l w h k=>R.ef h k hb
theorem YG.wC {x y:Operand} {t t':TypeId} {a:Nat} (hx:aS fr x=.v (ii a)) (hy:aS fr y=.v (ii 1)) (hb:a+1<=9223372036854775807):YG P (.binOp .add t x y t') fr Γ (.v (ii ((a+1:Nat):Int))):=YG.v2 hx hy fun l w h k=>R.wC h k hb
theorem YG.sub {x y:Operand} {t t':TypeId} {a b:Int} (hx:aS fr x=.v (ii a)) (hy:aS fr y=.v (ii b)) (hb : -9223372036854775808<=a - b/\a - b<=9223372036854775807):YG P (.binOp .sub t x y t') fr Γ (.v (ii (a - b))):=YG.v2 hx hy fun l w h k=>R.sub h k hb.1 hb.2
theorem YG.mul {x y:Operand} {t t':TypeId} {a b:Int} (hx:aS fr x=.v (ii a)) (hy:aS fr y=.v (ii b)) (hb : -9223372036854775808<=a * b/\a * b<=9223372036854775807):YG P (.binOp .mul t x y t') fr Γ (.v (ii (a * b))):=YG.v2 hx hy fun l w h k=>R.mul h k hb.1 hb.2
theorem YG.cat {x y:Operand} {t t':TypeId} {a b:ai} (hx:aS fr x=.v (sv a)) (hy:aS fr y=.v (sv b)) (hb:a.length+b.length<=9223372036854775807):YG P (.binOp .add t x y t') fr Γ (.v (sv (a++b))):=YG.v2 hx hy fun l w h k=>R.cat h k hb
theorem YG.FT {x:Operand} {t:TypeId} [hT:oW P t] {s:ai} {lo hi:Operand} {k k':IntKind} {i j:Nat} (hx:aS fr x=.v (sv s)) (gT:aS fr lo=.v (.int k i)) (Ai:aS fr hi=.v (.int k' j)) (hb:i<=j/\j<=s.length):YG P (.slice t x (some lo) (some hi) none) fr Γ (.v (sv ((s.take j).drop i))) :=
 fun B K β w l hI hF=>⟨_,R.PG (hF.gD hx) ⟨k,hF.gD gT⟩ ⟨k',hF.gD Ai⟩ hb.1 hb.2,.v _⟩
theorem YG.FQ {x:Operand} {t:TypeId} [hT:oW P t] {s:ai} {lo:Operand} {k:IntKind} {i:Nat} (hx:aS fr x=.v (sv s)) (gT:aS fr lo=.v (.int k i)) (hb:i<=s.length):YG P (.slice t x (some lo) none none) fr Γ (.v (sv (s.drop i))) :=
 fun B K β w l hI hF=>⟨_,by
  have:=R.PG (P:=P) (w:=w) (l:=l) (t:=t) (lo:=some lo) (hi:=none) (i:=i) (j:=s.length) (hF.gD hx) ⟨k,hF.gD gT⟩ rfl hb (Nat.le_refl _);rw [List.take_length] at this
  exact this,.v _⟩
theorem YG.FP {x:Operand} {t:TypeId} [hT:oW P t] {s:ai} {hi:Operand} {k:IntKind} {j:Nat} (hx:aS fr x=.v (sv s)) (Ai:aS fr hi=.v (.int k j)) (hb:j<=s.length):YG P (.slice t x none (some hi) none) fr Γ (.v (sv (s.take j))) :=
 fun B K β w l hI hF=>⟨_,R.PG (P:=P) (w:=w) (l:=l) (t:=t) (lo:=none) (hi:=some hi) (i:=0) (j:=j) (hF.gD hx) rfl ⟨k,hF.gD Ai⟩ (Nat.zero_le _) hb,.v _⟩
theorem YG.ext {x:Operand} {i:Nat} {cs:List GV} {g:GV} (hx:aS fr x=.tup cs) (hg:cs[i]?=some g):YG P (.extract x i) fr Γ g:=fun B K β w l hI hF=>by
 have h:=hF.ev x;rw [hx] at h;generalize hv:ev l x=v at h
 cases h with
 | tup vs _ hl h =>
  have hi:i < vs.length:=by rw [hl];exact (List.getElem?_eq_some_iff.1 hg).1
  exact ⟨vs[i],R.extract hv (by simp [hi]),h i _ g (by simp [hi]) hg⟩
theorem YG.vq {x y:Operand} {t e:TypeId} {k:Nat} [hT:mg P t e k] {rows:List (List GV)} {kk:IntKind} {i:Nat} {r:List GV} (hx:aS fr x=.sl k rows) (hy:aS fr y=.v (.int kk i)) (hr:rows[i]?=some r):YG P (.indexAddr t x y) fr Γ (.box r 0):=fun B K β w l hI hF=>by
 have h:=hF.ev x;rw [hx] at h;have hi:=(List.getElem?_eq_some_iff.1 hr).1;generalize hv:ev l x=v at h
 cases h with
 | sl0 a c=>simp at hi
 | sl b o c _ _ h _=>exact ⟨_,R.xf hv (hF.gD hy) hi,.box b (o+i * k) 0 r (h i r hr).2⟩
theorem YG.Bw {x:Operand} {s:TypeId} {f off k:Nat} {agg:Bool} [hT:dd P s f off k agg] {i o:Nat} (hx:aS fr x=.loc i o):YG P (.fieldAddr s x f) fr Γ (.loc i (o+off)):=fun B K β w l hI hF=>by
 have h:=hF.ev x;rw [hx] at h;generalize hv:ev l x=v at h
 cases h with | loc _ _ b hb=>exact ⟨_,R.Ox hv,.loc i _ b hb⟩
theorem YG.Bu {x:Operand} {s:TypeId} {f off k:Nat} {agg:Bool} [hT:dd P s f off k agg] {cs:List GV} {o:Nat} (hx:aS fr x=.box cs o):YG P (.fieldAddr s x f) fr Γ (.box cs (o+off)):=fun B K β w l hI hF=>by
 have h:=hF.ev x;rw [hx] at h;generalize hv:ev l x=v at h
 cases h with | box b o' _ _ hb=>exact ⟨_,R.Ox hv,by rw [Nat.add_assoc];exact .box b o' _ cs hb⟩
theorem YG.H2 {x:Operand} {t:TypeId} [hT:Ty P t false 1] {i o:Nat} {E:TypeId} {cs:List GV} {g:GV} (hx:aS fr x=.loc i o) (bu:Γ[i]?=some (.box E cs)) (hg:cs[o]?=some g):YG P (.load t x) fr Γ g:=fun B K β w l hI hF=>by
 have h:=hF.ev x;rw [hx] at h;generalize hv:ev l x=v at h
 cases h with
 | loc _ _ b hb =>
  obtain ⟨b',vs,h1,h2,h3,h4⟩:=hI.ob i _ bu;rw [hb] at h1;cases h1;obtain ⟨u,hu,hr⟩:=h3.at hg;exact ⟨u,R.ld hv (vc h2 (by simpa using hu)),hr⟩
theorem YG.HZ {x:Operand} {t:TypeId} [hT:Ty P t false 1] {cs:List GV} {o:Nat} {g:GV} (hx:aS fr x=.box cs o) (hg:cs[o]?=some g):YG P (.load t x) fr Γ g:=fun B K β w l hI hF=>by
 have h:=hF.ev x;rw [hx] at h;generalize hv:ev l x=v at h
 cases h with
 | box b o' _ _ hb =>
  obtain ⟨hp,u,hu,hr⟩:=hI.fz _ _ _ (hb o g hg);exact ⟨u,R.ld hv hu,hr.pc hp⟩
theorem sC {k:Nat} {rows:List (List GV)} (hk:fm k rows) {i j:Nat} {r:List GV} {g:GV} (hr:rows[i]?=some r) (hg:r[j]?=some g):rows.flatten[i * k+j]?=some g:=by
 induction rows generalizing i with
 | nil=>simp at hr
 | cons a rows ih =>
  have ha:a.length=k:=(hk a (mem_cons_self)).1
  cases i with
  | zero =>
   cases hr;have hj:=(List.getElem?_eq_some_iff.1 hg).1;rw [Nat.zero_mul,Nat.zero_add,flatten_cons,getElem?_append_left hj];exact hg
  | succ i =>
   rw [flatten_cons,List.getElem?_append_right (by rw [ha,Nat.succ_mul];omega),ha];rw [show (i+1) * k+j - k=i * k+j by rw [Nat.succ_mul];omega];exact ih (fun r hr=>hk r (mem_cons_of_mem _ hr)) (by simpa using hr)
theorem YG.BI {x:Operand} {t:TypeId} {k:Nat} [hT:Ty P t true k] {i o:Nat} {E:TypeId} {cs gs:List GV} (hx:aS fr x=.loc i o) (bu:Γ[i]?=some (.box E cs)) (hg:(cs.drop o).take k=gs) (hk:gs.length=k):YG P (.load t x) fr Γ (.agg gs):=fun B K β w l hI hF=>by
 have h:=hF.ev x;rw [hx] at h;generalize hv:ev l x=v at h
 cases h with
 | loc _ _ b hb =>
  obtain ⟨b',vs,h1,h2,h3,h4⟩:=hI.ob i _ bu;rw [hb] at h1;cases h1;have h5:=(h3.drop o).take k;rw [hg] at h5;refine ⟨.agg ((vs.drop o).take k).toArray,R.W9 hv (by rw [h5.1,hk]) (fun j v hj=>?_),.agg _ _ h5.1 h5.2⟩;rw [getElem?_take] at hj;split at hj
  ·rw [getElem?_drop] at hj;exact vc h2 (by simpa using hj)
  ·cases hj
theorem vf {K:Fz} {β:Bt} {H:Array Obj} {b:Nat}:∀ (gs:List GV) (o:Nat),(∀ (j:Nat) g,gs[j]?=some g->∃ v,fu H b (o+j)=some v/\Rel K β v g)->∃ vs:List Value,aY K β vs gs/\∀ (j:Nat) v,vs[j]?=some v->fu H b (o+j)=some v
 | [],o,_=>⟨[],.nil,fun j v h=>by simp at h⟩
 | g::gs,o,h=>by
  obtain ⟨v,hv,hr⟩:=h 0 g rfl;obtain ⟨vs,h1,h2⟩:=vf gs (o+1) (fun j g' hg=>by rw [show o+1+j=o+(j+1) by omega];exact h (j+1) g' hg);refine ⟨v::vs,.cons hr h1,fun j u hj=>?_⟩
  cases j with
  | zero=>cases hj;exact hv
  | succ j=>rw [show o+(j+1)=o+1+j by omega];exact h2 j u hj
theorem YG.BH {x:Operand} {t:TypeId} {k:Nat} [hT:Ty P t true k] {cs gs:List GV} {o:Nat} (hx:aS fr x=.box cs o) (hg:(cs.drop o).take k=gs) (hk:gs.length=k):YG P (.load t x) fr Γ (.agg gs):=fun B K β w l hI hF=>by
 have h:=hF.ev x;rw [hx] at h;generalize hv:ev l x=v at h
 cases h with
 | box b o' _ _ hb =>
  obtain ⟨vs,h1,h2⟩:=vf (K:=K) (β:=β) (H:=w.heap) (b:=b) gs (o'+o) (fun j g hj=>by
   have lp:cs[o+j]?=some g:=by
    rw [<-hg,getElem?_take] at hj;split at hj
    ·rw [getElem?_drop] at hj;exact hj
    ·cases hj
   obtain ⟨hp,u,hu,hr⟩:=hI.fz _ _ _ (hb (o+j) g lp)
   exact ⟨u,by rw [Nat.add_assoc];exact hu,hr.pc hp⟩)
  exact ⟨.agg vs.toArray,R.W9 hv (by rw [h1.1,hk]) h2,.agg _ _ h1.1 h1.2⟩
def lN:GV->Option (List GV)
 | .v x=>match JX x with
  | true=>some [.v x]
  | false=>none
 | .agg cs=>some cs
 | .U=>none
 | .tup _=>none
 | .vp _ _ _ _ _=>none
 | .sl k rows=>some [.sl k rows]
 | .box cs o=>some [.box cs o]
 | .loc i o=>some [.loc i o]
 | .vec i n=>some [.vec i n]
 | .arr i o n=>some [.arr i o n]
 | .fn f a c=>some [.fn f a c]
def nq:List GV->Nat->List GV->List GV
 | cs,_,[]=>cs
 | cs,o,v::r=>nq (bo cs o v) (o+1) r
def xR (pl:Nat->Option (Nat × Nat)):List GV->List (Nat × GV)->Option (List GV)
 | cs,[]=>some cs
 | cs,(i,g)::r=>match pl i with
  | none=>none
  | some (o,k)=>match lN g with
   | none=>none
   | some gs=>if gs.length≠k || decide (o+gs.length > cs.length) then none else xR pl (nq cs o gs) r
theorem Rel.cells {K:Fz} {β:Bt} {x:Value} {g:GV} {gs:List GV} (h:Rel K β x g) (hg:lN g=some gs):∃ vs:List Value,x.cells=vs.toArray/\aY K β vs gs:=by
 have one:∀ {x:Value} {g:GV},Rel K β x g->x.cells=#[x]->∃ vs:List Value,x.cells=vs.toArray/\aY K β vs [g]:=fun hr hc=>⟨[_],hc,.cons hr .nil⟩
 cases h with
 | v x =>
  simp only [lN] at hg;split at hg
  ·rename_i ho;cases hg;exact one (.v _) (vI ho).1
  ·cases hg
 | U x=>cases hg
 | agg vs cs hl h=>cases hg;exact ⟨vs,rfl,hl,h⟩
 | tup vs cs hl h=>cases hg
 | sl0 a c k=>cases hg;exact one (.sl0 a c k) rfl
 | sl b o c k rows h hc=>cases hg;exact one (.sl b o c k rows h hc) rfl
 | box b o' o cs h=>cases hg;exact one (.box b o' o cs h) rfl
 | loc i o b h=>cases hg;exact one (.loc i o b h) rfl
 | vec i n a c h=>cases hg;exact one (.vec i n a c h) rfl
 | vp i n k idx off x h=>cases hg
 | arr i o n b c h=>cases hg;exact one (.arr i o n b c h) rfl
 | fn f xs ys first cap hl iV h h'=>cases hg;exact one (.fn f xs ys first cap hl iV h h') rfl
def lF:List GV->Bool
 | []=>true
 | g::gs=>g.one&&lF gs
def qV:List GV->Bool
 | []=>true
 | g::gs=>g.pc&&qV gs
theorem l6 {gs:List GV} (h:qV gs=true):∀ g∈gs,g.pc=true:=by
 induction gs with
 | nil=>intro g hg;cases hg
 | cons x gs ih =>
  simp only [qV,Bool.and_eq_true] at h;intro g hg
  rcases List.mem_cons.1 hg with rfl | hg
  ·exact h.1
  ·exact ih h.2 g hg
theorem aY.kV {K:Fz} {β:Bt} {vs:List Value} {gs:List GV} (h:aY K β vs gs) (ho:lF gs=true):kV vs=true:=by
 induction gs generalizing vs with
 | nil=>have:vs=[]:=eq_nil_of_length_eq_zero h.1;subst this;rfl
 | cons g gs ih =>
  cases vs with
  | nil=>have:=h.1;simp at this
  | cons v vs =>
   simp only [lF,Bool.and_eq_true] at ho;obtain ⟨h1,h2⟩:=h.mZ;have h3:=(vI (h1.one ho.1)).2;have h4:=ih h2 ho.2;simp only [Xw.kV,all_cons,Bool.and_eq_true] at h4 |-;exact ⟨h3,h4⟩
end
end Go.Xg
namespace Go.Xg
open Go.RowKit Go.Xw
theorem aY.gq {K:Fz} {β:Bt} {us:List Value} {hs:List GV} (k:aY K β us hs):∀ {vs:List Value} {gs:List GV} (o:Nat),aY K β vs gs->aY K β (gq vs o us) (nq gs o hs):=by
 have hu:∀ {vs:List Value} {gs:List GV} (o:Nat) {v:Value} {g:GV},Rel K β v g->aY K β vs gs->aY K β (eK vs o v) (bo gs o g):=by
  intro vs
  induction vs with
  | nil =>
   intro gs o v g hv h;have:gs=[]:=eq_nil_of_length_eq_zero h.1.symm;subst this;exact .nil
  | cons x vs ih =>
   intro gs o v g hv h
   cases gs with
   | nil=>have:=h.1;simp at this
   | cons y gs =>
    obtain ⟨h1,h2⟩:=h.mZ
    cases o with
    | zero=>exact .cons hv h2
    | succ o=>exact .cons h1 (ih o hv h2)
 induction us generalizing hs with
 | nil =>
  intro vs gs o h;have:hs=[]:=eq_nil_of_length_eq_zero k.1.symm;subst this;exact h
 | cons u us ih =>
  intro vs gs o h
  cases hs with
  | nil=>have:=k.1;simp at this
  | cons g hs =>
   obtain ⟨h1,h2⟩:=k.mZ;exact ih h2 (o+1) (hu o h1 h)
theorem vj {K:Fz} {β:Bt} {pl:Nat->Option (Nat × Nat)} {l:List Value} {fr:List GV} (hF:FR K β fr l):∀ (parts:List (Nat × Operand)) (vs:List Value) (gs cs:List GV),aY K β vs gs ->
  xR pl gs (parts.map fun x=>(x.1,aS fr x.2))=some cs->∃ us,o0 pl vs (parts.map fun x=>(x.1,ev l x.2))=some us/\aY K β us cs
 | [],vs,gs,cs,h,hf=>by cases hf;exact ⟨vs,rfl,h⟩
 | (i,x)::r,vs,gs,cs,h,hf=>by
  simp only [List.map_cons,xR] at hf;simp only [List.map_cons,o0]
  cases hp:pl i with
  | none=>rw [hp] at hf;cases hf
  | some y =>
   obtain ⟨o,k⟩:=y;rw [hp] at hf;simp only at hf |-
   cases hg:lN (aS fr x) with
   | none=>rw [hg] at hf;cases hf
   | some hs =>
    rw [hg] at hf;simp only at hf;obtain ⟨us,jE,ke⟩:=(hF.ev x).cells hg
    have cK:(ev l x).cells.size=hs.length:=by rw [jE];simpa using ke.1
    rw [cK,h.1];split at hf
    ·cases hf
    ·rename_i hc;rw [if_neg hc]
     have ja:(ev l x).cells.toList=us:=by rw [jE]
     rw [ja];exact vj hF r _ _ cs (ke.gq o h) hf
section
variable {P:Program} {m:Nat} {Q:dH} {fr:List GV} {Γ:List Ob} {ops:Array Oper} {rest:List Oper} {d:Option Tmp} {op:Op} {ty:TypeId} {pos:String} {af:Array Edge}
def km (z:List Value):List GV:=z.map .v
theorem YG.build {t:TypeId} {pl:List (Nat × Nat)} {z:List Value} [hT:sQ P t pl z] {parts:List (Nat × Operand)} {cs:List GV} (hf:xR (fun i=>pl[i]?) (km z) (parts.map fun x=>(x.1,aS fr x.2))=some cs) :
  YG P (.build t parts.toArray) fr Γ (.agg cs):=fun B K β w l hI hF=>by
 obtain ⟨us,h1,h2⟩:=vj hF parts z _ cs aY.self hf;exact ⟨_,R.build h1,.agg us cs h2.1 h2.2⟩
theorem lR {K:Fz} {β:Bt} {l:List Value} {t:Nat} (h:FR K β fr l) (ht:jb fr t=true):jb l t=true:=by
 induction h generalizing t with
 | nil=>cases ht
 | cons _ _ ih=>cases t with | zero=>rfl | succ t=>exact ih ht
theorem rI {l:List Value} {t:Nat} (h:jb l t=true) (u:Value):nth (eK l t u) t=u:=by
 induction l generalizing t with
 | nil=>cases h
 | cons x l ih=>cases t with | zero=>rfl | succ t=>exact ih h
theorem nt {l:List Value} {t t':Nat} (h:t'≠t) (u:Value):nth (eK l t u) t'=nth l t':=by
 induction l generalizing t t' with
 | nil=>rfl
 | cons x l ih=>cases t with
  | zero=>cases t' with | zero=>exact absurd rfl h | succ t'=>rfl
  | succ t=>cases t' with | zero=>rfl | succ t'=>exact ih (fun e=>h (by rw [e]))
theorem GL.alloc {t:TypeId} {z:Value} {cs:List GV} [hT:pF P t z] (hz:km z.cells.toList=cs) (h:GL P m ops Q rest (bm fr d (.loc Γ.length 0)) (Γ++[.box t cs])):GL P m ops Q (⟨d,.alloc t,ty,pos,af,none⟩::rest) fr Γ:=fun B K β w l hm hI hF=>by
 refine WL.alloc (z:=z) fun b w' hn=>?_
 have bf:=hI.add (vs:=z.cells.toList) (cs:=cs) (E:=t) (by simpa using hn) (by rw [<-hz];exact aY.self);exact h B K _ w' _ hm bf ((hF.mono (cj.refl K) (fM (by rw [hI.out _ (Nat.le_refl _)];trivial))).put d (.loc _ 0 b bc))
theorem GL.box {t:TypeId} {x:Operand} {cs:List GV} (hx:lN (aS fr x)=some cs) (h:GL P m ops Q rest (bm fr d (.loc Γ.length 0)) (Γ++[.box t cs])):GL P m ops Q (⟨d,.box t x,ty,pos,af,none⟩::rest) fr Γ:=fun B K β w l hm hI hF=>by
 obtain ⟨vs,h1,h2⟩:=(hF.ev x).cells hx
 refine WL.box rfl fun b w' hn=>?_
 rw [h1] at hn;have bf:=hI.add hn h2;exact h B K _ w' _ hm bf ((hF.mono (cj.refl K) (fM (by rw [hI.out _ (Nat.le_refl _)];trivial))).put d (.loc _ 0 b bc))
def oset:List Ob->Nat->Ob->List Ob
 | [],_,_=>[]
 | _::l,0,x=>x::l
 | y::l,n+1,x=>y::oset l n x
theorem ba (l:List Ob) (i:Nat) (x:Ob):oset l i x=l.set i x:=by
 induction l generalizing i with
 | nil=>rfl
 | cons y l ih=>cases i with | zero=>rfl | succ i=>simp [oset,ih]
theorem tC:∀ (us:List Value) (vs:List Value) (o:Nat),tR vs.toArray o us=(gq vs o us).toArray
 | [],vs,o=>rfl
 | u::us,vs,o=>by rw [tR,gq,xC];exact tC us _ _
theorem GL.st {x y:Operand} {t:TypeId} {agg:Bool} {k:Nat} [hT:Ty P t agg k] {i o:Nat} {E:TypeId} {cs gs:List GV} (hx:aS fr x=.loc i o) (bu:Γ[i]?=some (.box E cs)) (hy:lN (aS fr y)=some gs) (hk:gs.length=k) (h1:lF gs=true)
  (hl:Nat.ble (o+k) cs.length=true) (h:GL P m ops Q rest (bm fr d (.v undef)) (oset Γ i (.box E (nq cs o gs)))):GL P m ops Q (⟨d,.store t x y,ty,pos,af,none⟩::rest) fr Γ:=fun B K β w l hm hI hF=>by
 have hr:=hF.ev x;rw [hx] at hr;generalize hv:ev l x=v at hr
 cases hr with
 | loc _ _ b hb =>
  obtain ⟨b',vs,h2,h3,h4,h5⟩:=hI.ob i _ bu;rw [hb] at h2;cases h2;obtain ⟨us,jE,ke⟩:=(hF.ev y).cells hy
  have iV:o+k<=cs.length:=by simpa using hl
  refine WL.st (t:=t) hv rfl h3 (by rw [jE];simpa [hk] using ke.1) (by rw [size_toArray,h4.1];exact iV) (by rw [jE];simpa using ke.kV h1) fun w' hs=>?_
  rw [jE,List.toList_toArray,tC] at hs;have bf:=hI.store bu hb hs (ke.gq o h4);rw [<-ba] at bf;exact h B K β w' _ hm bf (hF.put d (.v _))
def chunk:Nat->Nat->List GV->List (List GV)
 | 0,_,_=>[]
 | n+1,k,gs=>gs.take k::chunk n k (gs.drop k)
theorem vg {k:Nat}:∀ (n:Nat) (gs:List GV),gs.length=n * k->(chunk n k gs).flatten=gs/\(chunk n k gs).length=n/\∀ r∈chunk n k gs,r.length=k/\∀ g∈r,g∈gs
 | 0,gs,h=>by
  have:gs=[]:=eq_nil_of_length_eq_zero (by simpa using h);subst this;exact ⟨rfl,rfl,fun r hr=>by cases hr⟩
 | n+1,gs,h=>by
  have hk:k<=gs.length:=by rw [h,Nat.succ_mul];omega
  obtain ⟨h1,h2,h3⟩:=vg (k:=k) n (gs.drop k) (by rw [List.length_drop,h,Nat.succ_mul];omega);refine ⟨by rw [chunk,flatten_cons,h1,List.take_append_drop],by rw [chunk,length_cons,h2],fun r hr=>?_⟩;rw [chunk] at hr
  rcases List.mem_cons.1 hr with rfl | hr
  ·exact ⟨by simp [hk],fun g hg=>List.mem_of_mem_take hg⟩
  ·obtain ⟨h4,h5⟩:=h3 r hr;exact ⟨h4,fun g hg=>List.mem_of_mem_drop (h5 g hg)⟩
def zs:Nat->List Value->List GV
 | 0,_=>[]
 | n+1,z=>km z++zs n z
theorem Gd {K:Fz} {β:Bt} {n k:Nat} {z:List Value} (hz:z.length=k) (hk:0 < k):aY K β ((List.range (n * k)).map fun j=>z.getD (j % k) undef) (zs n z):=by
 induction n with
 | zero=>simpa [zs] using aY.nil
 | succ n ih =>
  have he:(List.range ((n+1) * k)).map (fun j=>z.getD (j % k) undef)=(List.range k).map (fun j=>z.getD (j % k) undef)++(List.range (n * k)).map fun j=>z.getD (j % k) undef:=by
   rw [Nat.succ_mul,Nat.add_comm,List.range_add,List.map_append,List.map_map]
   congr 1
   apply List.map_congr_left;intro j _;simp
  rw [he,zs];refine aY.app ?_ ih
  have:(List.range k).map (fun j=>z.getD (j % k) undef)=z:=by
   apply List.ext_getElem
   ·simp [hz]
   ·intro j h1 h2;simp at h1;simp [Nat.mod_eq_of_lt h1,List.getElem?_eq_getElem h2]
  rw [this];exact aY.self
theorem GL.Xa {t e:TypeId} {k:Nat} {z:List Value} [hT:oV P t e k z] {n:Nat} {parts:List (Nat × Operand)} {cs:List GV} (hn:Nat.ble (n * k) 16777216=true) (hf:xR (fun i=>some (i * k,k)) (zs n z) (parts.map fun x=>(x.1,aS fr x.2))=some cs)
  (hl:Nat.beq cs.length (n * k)=true) (hp:qV cs=true) (h:GL P m ops Q rest (bm fr d (.sl k (chunk n k cs))) Γ):GL P m ops Q (⟨d,.buildSlice t n parts.toArray,ty,pos,af,none⟩::rest) fr Γ:=fun B K β w l hm hI hF=>by
 obtain ⟨us,h1,h2⟩:=vj hF parts _ _ cs (Gd (n:=n) hT.zl hT.pos) hf
 have iV:cs.length=n * k:=by simpa using hl
 refine WL.BO (by simpa using hn) h1 fun b w' rn=>?_
 obtain ⟨hle,bf⟩:=hI.sY rn h2 (l6 hp);obtain ⟨c1,c2,c3⟩:=vg n cs iV;refine h B _ β w' _ hm bf ((hF.mono hle (cX.refl β)).put d ?_)
 have jz:fm k (chunk n k cs):=fun r hr=>⟨(c3 r hr).1,fun g hg=>l6 hp g ((c3 r hr).2 g hg)⟩
 have:=Rel.sl (K:=kr K b cs) (β:=β) b 0 n k (chunk n k cs) (fun i r hr=>⟨(jz r (mem_of_getElem? hr)).1,fun j g hg=>by
  rw [Nat.zero_add];exact tZ (by have:=sC jz hr hg;rw [c1] at this;exact this)⟩) (by rw [c2];exact Nat.le_refl _)
 rw [c2] at this;exact this
theorem GL.QT {t e:TypeId} {k:Nat} {z:List Value} [hT:oV P t e k z] {n:Nat} {parts:List (Nat × Operand)} {cs:List GV} (hn:Nat.ble (n * k) 16777216=true) (hf:xR (fun i=>some (i * k,k)) (zs n z) (parts.map fun x=>(x.1,aS fr x.2))=some cs)
  (hl:Nat.beq cs.length (n * k)=true) (hp:qV cs=true) (h:GL P m ops Q rest (bm fr d (.vec Γ.length n)) (Γ++[.vec e k 0 (chunk n k cs)])):GL P m ops Q (⟨d,.buildSlice t n parts.toArray,ty,pos,af,none⟩::rest) fr Γ:=fun B K β w l hm hI hF=>by
 obtain ⟨us,h1,h2⟩:=vj hF parts _ _ cs (Gd (n:=n) hT.zl hT.pos) hf
 have iV:cs.length=n * k:=by simpa using hl
 have Al:n * k<=16777216:=by simpa using hn
 have bJ:n<=16777216:=Nat.le_trans (Nat.le_mul_of_pos_right n hT.pos) Al
 refine WL.BO Al h1 fun b w' rn=>?_
 obtain ⟨c1,c2,c3⟩:=vg n cs iV
 have jz:fm k (chunk n k cs):=fun r hr=>⟨(c3 r hr).1,fun g hg=>l6 hp g ((c3 r hr).2 g hg)⟩
 have how:=gi.UF rn (n:=n) (k:=k) (by rw [h2.1,iV]) (by simp only [maxLen];omega);have bf:=hI.Bb (x:=.slice (some ⟨b,0,none⟩) n n) (xs:=us) (rows:=chunk n k cs) rn.ext (by rw [c2];exact how.base (Nat.zero_le _)) (fun b' bj=>by cases bj;rw [rn.fresh];exact Nat.le_refl _) (by rw [c1];exact h2) jz;refine h B K _ w' _ hm bf ((hF.mono (cj.refl K) (fM (by rw [hI.out _ (Nat.le_refl _)];trivial))).put d ?_);exact .vec _ n _ n ⟨_,_,bc,by rw [c2];exact Nat.le_refl _,fun _=>rfl⟩
def Py (x:Operand) (t:Tmp):Bool :=
 match x with
 | .tmp t'=>!Nat.beq t' t
 | _=>true
theorem SY {l:List Value} {x:Operand} {t:Tmp} (h:Py x t=true) (u:Value):ev (put l (some t) u) x=ev l x:=by
 cases x with
 | tmp t'=>exact nt (fun e=>by subst e;simp [Py] at h) u
 | _=>rfl
theorem GL.push {x s:Operand} {t e k gC:Nat} {z:List Value} [hT:nO P t e k gC] [hZ:oV P t e k z] {d1:Tmp} {Nq:TypeId} {Fs:String} {KE:Array Edge} {i n fz:Nat} {rows:List (List GV)} {gs:List GV}
  (hx:lN (aS fr x)=some gs) (hk:Nat.beq gs.length k=true) (h1:lF gs=true) (hp:qV gs=true) (hs:aS fr s=.vec i n) (T8:Py s d1=true) (hd:jb fr d1=true) (bu:Γ[i]?=some (.vec e k fz rows)) (hn:rows.length=n)
  (hb:(n+1<=9223372036854775807/\(n+1) * gC<=140737488355328)/\k<=16777216)
  (h:GL P m ops Q rest (bm (bm fr (some d1) .U) d (.vec i (n+1))) (oset Γ i (.vec e k fz (rows++[gs])))) :
  GL P m ops Q (⟨some d1,.buildSlice t 1 #[(0,x)],Nq,Fs,KE,none⟩::⟨d,.call ⟨.builtin .append,#[s,.tmp d1],#[t,t]⟩,ty,pos,af,none⟩::rest) fr Γ:=fun B K β w l hm hI hF=>by
 subst hn;obtain ⟨us,jE,ke⟩:=(hF.ev x).cells hx;obtain ⟨h0,xs,o1,o2,o3,o4,o5,o6⟩:=hI.ob i _ bu;have so:=hF.ev s;rw [hs] at so
 have pQ:ev l s=h0:=by
  generalize hv:ev l s=v at so
  cases so with
  | vec _ _ a c hh =>
   obtain ⟨h',m',e1,e2,e3⟩:=hh;rw [o1] at e1;cases e1;exact e3 rfl
 have LX:=lR hF hd
 have kR:gs.length=k:=by simpa using hk
 refine WL.push (base:=0) (v:=h0) (vs:=us) (val:=ev l x) (xs:=xs) (n:=rows.length) rfl (fun u=>by rw [SY T8];exact pQ) (fun u=>rI LX u) jE (by rw [ke.1,kR]) (ke.kV h1) o2 hb.1.1 hb.1.2 hb.2 (Nat.zero_le _) ?_;intro u v' w' how gn s9 uy
 obtain ⟨K',hK,pS,bf⟩:=hI.grow bu o1 ⟨o2,o3⟩ (news:=[gs]) (ns:=us) how gn s9 (by simpa using ke) (fun r hr=>by simp at hr;subst hr;exact ⟨kR,l6 hp⟩) (by simp) (fun b bj o v ho hv=>by
  rcases uy with h7 | h7
  ·exact h7.c hv (fun h=>h)
  ·have gT:o < xs.length:=by rw [o2.1];exact Nat.lt_of_lt_of_le ho (Nat.mul_le_mul_right k o6)
   obtain ⟨b2,c2,oH,_,_,jl⟩:=o2.cells.2 (by intro h0;rw [h0] at gT;simp at gT)
   have eC:b2=b:=by rw [oH] at bj;cases bj;rfl
   subst eC;have CO:=jl o xs[o] (by simp [gT]);rw [eT,hv] at CO;cases CO;obtain ⟨b3,c3,LZ,_,_,LV⟩:=how.cells.2 (by intro h0;have:xs=[]:=(List.append_eq_nil_iff.1 h0).1;rw [this] at gT;simp at gT)
   have wW:b3=b2:=by rw [LZ,bj] at h7;cases h7;rfl
   subst wW
   rw [<-eT];exact LV o _ (by rw [getElem?_append_left gT];simp [gT]))
 rw [<-ba] at bf;refine h B K' _ w' _ hm bf (((hF.mono hK pS).put (some d1) (.U u)).put d ?_);obtain ⟨a,c,rfl⟩:=how.shape;exact .vec i _ a c ⟨_,_,bc,by simp,fun _=>rfl⟩
theorem Wk.BQ {t:Nat} {a:Option Addr} {c:Nat} (E k:Nat) (ht:cq fr t=.v (.slice none 0 0)):Wk m fr Γ (bo fr t (.vec Γ.length 0)) (Γ++[.vec E k 0 []]):=fun B K β w l hm hI hF=>by
 have bT:β Γ.length=.no:=hI.out _ (Nat.le_refl _);have bf:=hI.Bb (w':=w) (E:=E) (k:=k) (x:=.slice none 0 0) (xs:=[]) (rows:=[]) (Ext.refl w) (gi.nil w 0 E k) (fun b hb=>by cases hb) aY.nil (fun r hr=>by cases hr);refine ⟨K,_,bf,?_⟩;have ur:=hF.mono (cj.refl K) (fM (i:=Γ.length) (x:=.gr (.slice none 0 0) ([]:List (List GV)).length) (by rw [bT];trivial));have hv:nth l t=.slice none 0 0:=Rel.eo (by rw [<-ht];exact hF.nth t)
 have hu:∀ (l:List Value) (t:Nat) (v:Value),nth l t=v->(∃ a n c,v=.slice a n c)->eK l t v=l:=by
  intro l
  induction l with
  | nil=>intro t v _ _;rfl
  | cons x l ih =>
   intro t v h1 h2
   cases t with
   | zero=>simp only [nth] at h1;subst h1;rfl
   | succ t=>simp only [nth] at h1;simp only [eK];rw [ih t v h1 h2]
 have:=ur.eK t (v:=.slice none 0 0) (g:=.vec Γ.length 0) (.vec _ 0 none 0 ⟨_,_,bc,Nat.le_refl _,fun _=>rfl⟩);rw [hu l t _ hv ⟨_,_,_,rfl⟩] at this;exact this
theorem zL {l:List Value} {t:Nat} (h:jb l t=true):eK l t (nth l t)=l:=by
 induction l generalizing t with
 | nil=>cases h
 | cons x l ih=>cases t with | zero=>rfl | succ t=>simp only [eK,nth];rw [ih h]
theorem Wk.iv {t i n E k fz:Nat} {rows:List (List GV)} (ht:cq fr t=.vec i n) (gI:jb fr t=true) (bu:Γ[i]?=some (.vec E k fz rows)) (hn:rows.length=n):Wk m fr Γ (bo fr t (.sl k rows)) (oset Γ i (.vec E k n rows)):=fun B K β w l hm hI hF=>by
 subst hn;obtain ⟨h0,xs,o1,o2,o3,o4,o5,o6⟩:=hI.ob i _ bu;obtain ⟨K',hK,Ag,bf⟩:=hI.iv bu;rw [<-ba] at bf;refine ⟨K',β,bf,?_⟩;have hr:=hF.nth t;rw [ht] at hr
 have eL:Rel K' β (nth l t) (.sl k rows):=by
  generalize nth l t=v at hr
  cases hr with
  | vec _ _ a c hh =>
   obtain ⟨h',m',e1,e2,e3⟩:=hh;rw [o1] at e1;cases e1;have e4:=e3 rfl
   rcases o2.2 with ⟨e5,e6⟩ | ⟨g,cap,cu,e5,_,_,nZ,_⟩
   ·have:rows=[]:=eq_nil_of_length_eq_zero e6;subst this;exact .sl0 _ _ _
   ·rw [e5] at e4;cases e4;refine .sl g 0 _ k rows (fun j r hr=>⟨(o4 r (mem_of_getElem? hr)).1,fun q g' kP=>?_⟩) nZ;rw [Nat.zero_add];exact Ag _ g o1 (by rw [e5];rfl) _ g' (sC o4 hr kP)
 have:=(hF.mono hK (cX.refl β)).eK t eL;rw [zL (lR hF gI)] at this;exact this
def mG (i:Nat) (cs:List GV):GV->GV
 | .loc j o=>match Nat.beq j i with
  | true=>.box cs o
  | false=>.loc j o
 | g=>match g.ok (other i) with
  | true=>g
  | false=>.U
theorem Rel.YI {K K':Fz} {β:Bt} {i b:Nat} {cs:List GV} {x:Value} {g:GV} (h:Rel K β x g) (hk:cj K K') (hb:β i=.fix b) (hc:∀ (j:Nat) g,cs[j]?=some g->K' b j=some g):Rel K' (eZ (other i) β) x (mG i cs g):=by
 have gen:∀ {g:GV},Rel K β x g->Rel K' (eZ (other i) β) x (match g.ok (other i) with | true=>g | false=>.U):=by
  intro g h;split
  ·rename_i ho;exact (h.mono hk (cX.refl β)).res ho
  ·exact .U _
 cases g with
 | loc j o =>
  simp only [mG];split
  ·rename_i hj
   have hj:j=i:=by simpa using hj
   subst hj
   cases h with
   | loc _ _ b' bj =>
    rw [hb] at bj;cases bj;have:=Rel.box (K:=K') (β:=eZ (other j) β) b 0 o cs (fun q g hg=>by rw [Nat.zero_add];exact hc q g hg);rw [Nat.zero_add] at this;exact this
  ·rename_i hj
   have hj:j≠i:=by intro e;subst e;simp at hj
   exact (h.mono hk (cX.refl β)).res (uK hj)
 | _=>exact gen h
def nK (i:Nat) (cs:List GV):List GV->List GV
 | []=>[]
 | g::gs=>mG i cs g::nK i cs gs
theorem Wk.freeze {i:Nat} {E:TypeId} {cs:List GV} (bu:Γ[i]?=some (.box E cs)) (hp:qV cs=true) (bT:C0 (other i) (oset Γ i .gone)=true) (hm:m<=i):Wk m fr Γ (nK i cs fr) (oset Γ i .gone):=fun B K β w l hB hI hF=>by
 rw [ba] at bT |-;obtain ⟨b,vs,h1,h2,h3,h4⟩:=hI.ob i _ bu;obtain ⟨K',hK,Ag,bf⟩:=hI.freeze bu (l6 hp) bT (by omega);refine ⟨K',_,bf,?_⟩;clear hI bf bT bu
 induction hF with
 | nil=>exact .nil
 | cons h t ih=>exact .cons (h.YI hK h1 (Ag b h1)) ih
end
end Go.Xg
namespace Go.Xg
open Go.RowKit Go.Xw
def bN:List Nat->Nat->Nat->Nat
 | [],n,j=>n+j
 | i::_,_,0=>i
 | _::r,n,j+1=>bN r n j
def dJ:List Ob->List Nat->List Ob->List Ob
 | Γ,[],xs=>Γ++xs
 | Γ,_::_,[]=>Γ
 | Γ,i::r,x::xs=>dJ (oset Γ i x) r xs
def gR:List Nat->Nat->Bool
 | [],_=>true
 | i::r,n=>Nat.blt i n&&!(r.contains i)&&gR r n
theorem BZ {aM:List Nat} {n j:Nat} (h:aM.length<=j):bN aM n j=n+(j - aM.length):=by
 induction aM generalizing j with
 | nil=>simp [bN]
 | cons i r ih =>
  cases j with
  | zero=>simp at h
  | succ j=>rw [bN,ih (by simpa using h)];simp
theorem Sh {aM:List Nat} {n j:Nat} (h:j < aM.length):∃ i∈aM,bN aM n j=i:=by
 induction aM generalizing j with
 | nil=>simp at h
 | cons i r ih =>
  cases j with
  | zero=>exact ⟨i,by simp,rfl⟩
  | succ j=>obtain ⟨x,h1,h2⟩:=ih (j:=j) (by simpa using h);exact ⟨x,by simp [h1],h2⟩
theorem Fk {aM:List Nat} {n:Nat} (h:gR aM n=true):∀ i∈aM,i < n:=by
 induction aM with
 | nil=>intro i hi;cases hi
 | cons x r ih =>
  simp only [gR,Bool.and_eq_true] at h;intro i hi
  rcases List.mem_cons.1 hi with rfl | hi
  ·simpa using h.1.1
  ·exact ih h.2 i hi
theorem zH {aM:List Nat} {n:Nat} (h:gR aM n=true):∀ {j j':Nat},bN aM n j=bN aM n j'->j=j':=by
 induction aM with
 | nil=>intro j j' he;simp only [bN] at he;omega
 | cons x r ih =>
  have ar:=Fk h;simp only [gR,Bool.and_eq_true,Bool.not_eq_true'] at h
  have hx:∀ j,bN r n j≠x:=fun j he=>by
   by_cases hj:j < r.length
   ·obtain ⟨i,hi,h2⟩:=Sh (n:=n) hj;rw [he] at h2;subst h2;have:=h.1.2;rw [List.contains_iff_mem.2 hi] at this;cases this
   ·have:=BZ (n:=n) (Nat.le_of_not_lt hj);have:=ar x (by simp);omega
  intro j j' he
  cases j with
  | zero=>cases j' with
   | zero=>rfl
   | succ j'=>exact absurd he.symm (hx j')
  | succ j=>cases j' with
   | zero=>exact absurd he (hx j)
   | succ j'=>rw [ih h.2 he]
theorem GY {aM:List Nat} {n:Nat}:∀ {Γ xs:List Ob},Γ.length=n->gR aM n=true->aM.length<=xs.length ->
  (∀ j,(dJ Γ aM xs)[bN aM n j]?=xs[j]?)/\(∀ i,(∀ j,bN aM n j≠i)->(dJ Γ aM xs)[i]?=Γ[i]?)/\(dJ Γ aM xs).length=n+(xs.length - aM.length):=by
 induction aM with
 | nil =>
  intro Γ xs hn _ _;refine ⟨fun j=>?_,fun i hi=>?_,by simp [dJ,hn]⟩
  ·simp only [dJ,bN];rw [List.getElem?_append_right (by omega)];congr 1;omega
  ·simp only [dJ,bN] at hi |-
   by_cases ar:i < n
   ·rw [getElem?_append_left (by omega)]
   ·exact absurd (by omega) (hi (i - n))
 | cons x r ih =>
  intro Γ xs hn ew hl;have Ew:=@zH (x::r) n ew;have ar:=Fk ew x (by simp)
  cases xs with
  | nil=>simp at hl
  | cons y ys =>
   simp only [gR,Bool.and_eq_true,Bool.not_eq_true'] at ew;obtain ⟨h1,h2,h3⟩:=ih (Γ:=oset Γ x y) (xs:=ys) (by rw [ba];simpa using hn) ew.2 (by simpa using hl)
   have hx:∀ j,bN r n j≠x:=fun j he=>by
    have:=@Ew (j+1) 0 he;omega
   refine ⟨fun j=>?_,fun i hi=>?_,by simp only [dJ,h3,length_cons];omega⟩
   ·cases j with
    | zero =>
     simp only [dJ,bN];rw [h2 x hx,ba,getElem?_set];simp [hn,ar]
    | succ j=>simp only [dJ,bN];exact h1 j
   ·simp only [dJ];rw [h2 i (fun j=>hi (j+1)),ba,getElem?_set];rw [if_neg (by intro e;exact hi 0 e)]
theorem jG.AL {K:Fz} {β:Bt} {w:World} {f:Nat->Nat} {j:Nat} {x:Ob} (h:jG K β w (f j) (x.dk f)):jG K (fun j=>β (f j)) w j x:=by
 cases x with
 | gone=>exact h
 | box E cs =>
  obtain ⟨b,vs,h1,h2,h3,h4⟩:=h;rw [jv] at h3;exact ⟨b,vs,h1,h2,⟨by simpa using h3.1,fun i v g h5 h6=>(h3.2 i v (dk f g) h5 (by rw [getElem?_map,h6];rfl)).AL⟩,h4⟩
 | vec E k fz rows =>
  obtain ⟨h0,xs,h1,h2,h3,h4,h5⟩:=h;refine ⟨h0,xs,h1,h2,⟨h3.1,fun i v g h6 h7=>(h3.2 i v g h6 h7).pc ?_⟩,h4,h5⟩;obtain ⟨r,fR,c6⟩:=List.mem_flatten.1 (mem_of_getElem? h7);exact (h4 r fR).2 g c6
 | vech E k rows x =>
  obtain ⟨xs,h1,h2,h3,h4,h5⟩:=h;refine ⟨xs,h1,h2,⟨h3.1,fun i v g h6 h7=>(h3.2 i v g h6 h7).pc ?_⟩,h4,h5⟩;obtain ⟨r,fR,c6⟩:=List.mem_flatten.1 (mem_of_getElem? h7);exact (h4 r fR).2 g c6
 | lost=>exact h
theorem jG.A1 {K:Fz} {β:Bt} {w:World} {f:Nat->Nat} {j:Nat} {x:Ob} (h:jG K (fun j=>β (f j)) w j x):jG K β w (f j) (x.dk f):=by
 cases x with
 | gone=>exact h
 | box E cs =>
  obtain ⟨b,vs,h1,h2,h3,h4⟩:=h;refine ⟨b,vs,h1,h2,?_,h4⟩;rw [jv];refine ⟨by simpa using h3.1,fun i v g h5 h6=>?_⟩;rw [getElem?_map] at h6
  cases hc:cs[i]? with
  | none=>rw [hc] at h6;cases h6
  | some c=>rw [hc] at h6;cases h6;exact (h3.2 i v c h5 hc).A1
 | vec E k fz rows =>
  obtain ⟨h0,xs,h1,h2,h3,h4,h5⟩:=h;refine ⟨h0,xs,h1,h2,⟨h3.1,fun i v g h6 h7=>(h3.2 i v g h6 h7).pc ?_⟩,h4,h5⟩;obtain ⟨r,fR,c6⟩:=List.mem_flatten.1 (mem_of_getElem? h7);exact (h4 r fR).2 g c6
 | vech E k rows x =>
  obtain ⟨xs,h1,h2,h3,h4,h5⟩:=h;refine ⟨xs,h1,h2,⟨h3.1,fun i v g h6 h7=>(h3.2 i v g h6 h7).pc ?_⟩,h4,h5⟩;obtain ⟨r,fR,c6⟩:=List.mem_flatten.1 (mem_of_getElem? h7);exact (h4 r fR).2 g c6
 | lost=>exact h
section
variable {K:Fz} {β:Bt} {Γ:List Ob} {w:World} {B:Bs}
theorem Inv.enter {aM:List Nat} {gy:List Ob} (h:Inv B K β Γ w) (ew:gR aM Γ.length=true) (hl:gy.length=aM.length) (bu:∀ j x,gy[j]?=some x->Γ[bN aM Γ.length j]?=some (x.dk (bN aM Γ.length))) :
  Inv (cur K (fun j=>β (bN aM Γ.length j)) gy w) K (fun j=>β (bN aM Γ.length j)) gy w:=by
 have bT:∀ i,gy.length<=i->β (bN aM Γ.length i)=.no:=fun i hi=>by
  rw [BZ (by omega)];exact h.out _ (by omega)
 exact ⟨Ext.refl w,cj.refl K,cX.refl _,bT,h.fz,fun i x hi=>(h.ob _ _ (bu i x hi)).AL,bT,fun i j b hi hj=>zH ew (h.dis _ _ b hi hj),fun i b hb=>.inl ⟨i,hb⟩,fun _ _ _ h=>.inl h,h.tab.step (S:=gQ) (Ext.refl w) (fun _ h=>h.elim) (cj.refl K) (fun i b2 h2=>.inl ⟨_,h2⟩)⟩
theorem Inv.leave {aM:List Nat} {gy qp:List Ob} {K':Fz} {zO:Bt} {w':World} (h:Inv B K β Γ w) (ew:gR aM Γ.length=true) (hl:gy.length=aM.length) (iV:aM.length<=qp.length)
  (hI:Inv (cur K (fun j=>β (bN aM Γ.length j)) gy w) K' zO qp w') :
  ∃ bM,cj K K'/\cX β bM/\(∀ j,bM (bN aM Γ.length j)=zO j)/\Inv B K' bM (dJ Γ aM (qp.map (Ob.dk (bN aM Γ.length)))) w':=by
 obtain ⟨s1,s2,s3⟩:=GY (aM:=aM) (n:=Γ.length) (Γ:=Γ) (xs:=qp.map (Ob.dk (bN aM Γ.length))) rfl ew (by simpa using iV);rw [List.length_map] at s3;generalize hf:bN aM Γ.length=f at *
 have Ew:∀ {j j'},f j=f j'->j=j':=by subst hf;exact zH ew
 have kQ:∀ j,aM.length<=j->f j=Γ.length+(j - aM.length):=fun j hj=>by subst hf;exact BZ hj
 have XG:∀ i,Γ.length<=i->f (aM.length+(i - Γ.length))=i:=fun i hi=>by rw [kQ _ (by omega)];omega
 have ⟨bM,hβ1,hβ2⟩:∃ bM:Bt,(∀ j,bM (f j)=zO j)/\∀ i,(∀ j,f j≠i)->bM i=β i:=by
  classical
  refine ⟨fun i=>if h:∃ j,f j=i then zO (Classical.choose h) else β i,fun j=>?_,fun i hi=>?_⟩
  ·have hex:∃ j',f j'=f j:=⟨j,rfl⟩;simp only;rw [dif_pos hex,Ew (Classical.choose_spec hex)]
  ·simp only;rw [dif_neg (fun ⟨j,hj⟩=>hi j hj)]
 have Tq:cX β bM:=fun i=>by
  by_cases hi:∃ j,f j=i
  ·obtain ⟨j,rfl⟩:=hi;rw [hβ1];exact hI.ble j
  ·rw [hβ2 i (fun j hj=>hi ⟨j,hj⟩)];exact rO.refl _
 have Jl:∀ b,blocks (fun j=>β (f j)) b->blocks β b:=fun b ⟨j,hj⟩=>⟨f j,hj⟩
 have eS:∀ i b,(bM i).blk=some b->blocks β b\/w.heap.size<=b:=fun i b hb=>by
  by_cases hi:∃ j,f j=i
  ·obtain ⟨j,rfl⟩:=hi;rw [hβ1] at hb;exact (hI.own j b hb).imp (Jl b) id
  ·rw [hβ2 i (fun j hj=>hi ⟨j,hj⟩)] at hb;exact .inl ⟨i,hb⟩
 have qM:∀ i b,(∀ j,f j≠i)->(β i).blk=some b->¬ blocks (fun j=>β (f j)) b:=fun i b hi hb ⟨j,hj⟩=>hi j (h.dis _ _ b hj hb)
 refine ⟨bM,hI.kle,Tq,hβ1,h.MY (Xe:=Γ) ?_⟩;refine ⟨hI.ext.mono (fun k _ hk=>Jl k hk),hI.kle,Tq,h.out,hI.fz,fun i x hi=>?_,fun i hi=>?_,fun i i' b hi nX=>?_,eS,fun b o g hg=>?_,⟨hI.tab.le,hI.tab.pow,hI.tab.spc,fun i b hb=>(eS i b hb).elim (fun ⟨j,hj⟩=>h.tab.free j b hj) (fun hs=>⟨by have:=h.tab.pow.lt;have hs:w.heap.size<=b:=hs;omega,by have:=h.tab.spc.lt;have hs:w.heap.size<=b:=hs;omega⟩)⟩⟩
 ·by_cases hj:∃ j,f j=i
  ·obtain ⟨j,rfl⟩:=hj;rw [s1 j,getElem?_map] at hi
   cases hc:qp[j]? with
   | none=>rw [hc] at hi;cases hi
   | some c =>
    rw [hc] at hi;cases hi;refine jG.A1 ?_;have:=hI.ob j c hc;rw [show (fun j=>bM (f j))=zO from funext hβ1];exact this
  ·have lp:∀ j,f j≠i:=fun j h=>hj ⟨j,h⟩
   rw [s2 i lp] at hi;refine (h.ob i x hi).ext hI.ext (fun b hb=>qM i b lp hb) hI.kle Tq (hβ2 i lp) (fun b o hb hk=>?_)
   cases kR:K' b o with
   | none=>rfl
   | some g =>
    rcases hI.kn b o g kR with h7 | h7 | h7
    ·have h7:K b o=some g:=h7;rw [hk] at h7;cases h7
    ·exact absurd h7 (qM i b lp hb)
    ·have:=h.lt hb;have h7:w.heap.size<=b:=h7;omega
 ·rw [s3] at hi;have h1:=XG i (by omega);rw [<-h1,hβ1];exact hI.out _ (by omega)
 ·by_cases h1:∃ j,f j=i <;> by_cases h2:∃ j,f j=i'
  ·obtain ⟨j,rfl⟩:=h1;obtain ⟨j',rfl⟩:=h2;rw [hβ1] at hi nX;rw [hI.dis j j' b hi nX]
  ·obtain ⟨j,rfl⟩:=h1
   have pK:∀ j,f j≠i':=fun j h=>h2 ⟨j,h⟩
   rw [hβ1] at hi;rw [hβ2 i' pK] at nX
   rcases hI.own j b hi with h7 | h7
   ·exact absurd h7 (qM i' b pK nX)
   ·have:=h.lt nX;have h7:w.heap.size<=b:=h7;omega
  ·obtain ⟨j,rfl⟩:=h2
   have cv:∀ j,f j≠i:=fun j h=>h1 ⟨j,h⟩
   rw [hβ1] at nX;rw [hβ2 i cv] at hi
   rcases hI.own j b nX with h7 | h7
   ·exact absurd h7 (qM i b cv hi)
   ·have:=h.lt hi;have h7:w.heap.size<=b:=h7;omega
  ·rw [hβ2 i (fun j h=>h1 ⟨j,h⟩)] at hi;rw [hβ2 i' (fun j h=>h2 ⟨j,h⟩)] at nX;exact h.dis i i' b hi nX
 ·rcases hI.kn b o g hg with h7 | h7 | h7
  ·exact .inl h7
  ·exact .inr (.inl (Jl b h7))
  ·exact .inr (.inr h7)
end
section
variable {P:Program} {m:Nat} {Q:dH} {fr:List GV} {Γ:List Ob} {ops:Array Oper} {rest:List Oper} {d:Option Tmp} {op:Op} {ty:TypeId} {pos:String} {af:Array Edge}
def seen (f:Nat->Nat) (Γ:List Ob):List Nat->List Ob->Prop
 | [],[]=>True
 | i::r,x::xs=>Γ[i]?=some (x.dk f)/\seen f Γ r xs
 | _,_=>False
theorem Dd {f:Nat->Nat} {Γ:List Ob} {n:Nat}:∀ {aM:List Nat} {gy:List Ob},seen f Γ aM gy->gy.length=aM.length/\∀ j x,gy[j]?=some x->Γ[bN aM n j]?=some (x.dk f)
 | [],[],_=>⟨rfl,fun j x h=>by simp at h⟩
 | i::r,y::ys,h=>by
  obtain ⟨h1,h2⟩:=h;obtain ⟨h3,h4⟩:=Dd (n:=n) h2;refine ⟨by simp [h3],fun j x hx=>?_⟩
  cases j with
  | zero=>cases hx;exact h1
  | succ j=>exact h4 j x hx
 | [],_::_,h=>h.elim
 | _::_,[],h=>h.elim
theorem GL.calls {f:FuncId} {aM:List Nat} {gs:List GV} {gy:List Ob} {R:GV->List Ob->Prop} {vs:List Value->List Value} (hr:∀ K β w l,FR K β fr l->aY K β (vs l) (kY (bN aM Γ.length) gs)/\(execOp (ev l) ⟨d,op,ty,pos,af,none⟩).run P w=.ok (.enter f (vs l).toArray) w)
  (ew:gR aM Γ.length=true) (bu:seen (bN aM Γ.length) Γ aM gy) (hc:GC P f gs gy R)
  (h:∀ g aJ,R g aJ->aM.length<=aJ.length/\GL P m ops Q rest (bm fr d (dk (bN aM Γ.length) g)) (dJ Γ aM (aJ.map (Ob.dk (bN aM Γ.length))))) :
  GL P m ops Q (⟨d,op,ty,pos,af,none⟩::rest) fr Γ:=fun B K β w l hm hI hF=>by
 obtain ⟨hl,hs⟩:=Dd (n:=Γ.length) bu;obtain ⟨ha,hr⟩:=hr K β w l hF;have Y5:=hI.enter ew hl hs
 have xU:aY K (fun j=>β (bN aM Γ.length j)) (vs l) gs:=by
  rw [jv] at ha;exact ⟨by simpa using ha.1,fun i v g h5 h6=>(ha.2 i v (dk _ g) h5 (by rw [getElem?_map,h6];rfl)).AL⟩
 refine WL.calls hr (hc _ K _ w _ rfl Y5 xU) ?_;rintro v w' ⟨K',zO,g,aJ,bf,eL,hR⟩;obtain ⟨iV,h⟩:=h g aJ hR;obtain ⟨bM,hK,hB,pS,nC⟩:=hI.leave ew hl iV bf;refine h B K' bM w' _ hm nC ((hF.mono hK hB).put d (Rel.A1 ?_));rw [show (fun j=>bM (bN aM Γ.length j))=zO from funext pS];exact eL
theorem GL.vd {f:FuncId} [hf:aD P f] (aM:List Nat) {x:Operand} {first cap:List GV} {args:List Operand} {lW:Array TypeId} {gs:List GV} {gy:List Ob} {R:GV->List Ob->Prop} (hc:GC P f gs gy R) (hx:aS fr x=.fn (.func f) first cap) (ha:first++args.map (aS fr)++cap=kY (bN aM Γ.length) gs) (ew:gR aM Γ.length=true)
  (bu:seen (bN aM Γ.length) Γ aM gy) (h:∀ g aJ,R g aJ->aM.length<=aJ.length/\GL P m ops Q rest (bm fr d (dk (bN aM Γ.length) g)) (dJ Γ aM (aJ.map (Ob.dk (bN aM Γ.length))))) :
  GL P m ops Q (⟨d,.call ⟨.value x,args.toArray,lW⟩,ty,pos,af,none⟩::rest) fr Γ :=
 GL.calls (vs:=fun l=>match ev l x with | .func _ a c=>a.toList++args.map (ev l)++c.toList | _=>[]) (fun K β w l hF=>by
  have hr:=hF.ev x;rw [hx] at hr;generalize hv:ev l x=v at hr
  cases hr with
  | fn _ xs ys _ _ h1 h2 h3 h4 =>
   refine ⟨?_,?_⟩
   ·rw [<-ha];exact (aY.app (aY.app ⟨h1,h3⟩ (hF.args args)) ⟨h2,h4⟩)
   ·simp [execOp,resolve,hv,Deferred.ofValue,invoke,kZ]) ew bu hc h
theorem GL.Vs {f:FuncId} [hf:aD P f] (aM:List Nat) {x:Operand} {args:List Operand} {lW:Array TypeId} {gs:List GV} {gy:List Ob} {R:GV->List Ob->Prop} (hc:GC P f gs gy R) (hx:aS fr x=.v (.func (.func f) #[] #[])) (ha:args.map (aS fr)=kY (bN aM Γ.length) gs) (ew:gR aM Γ.length=true)
  (bu:seen (bN aM Γ.length) Γ aM gy) (h:∀ g aJ,R g aJ->aM.length<=aJ.length/\GL P m ops Q rest (bm fr d (dk (bN aM Γ.length) g)) (dJ Γ aM (aJ.map (Ob.dk (bN aM Γ.length))))) :
  GL P m ops Q (⟨d,.call ⟨.value x,args.toArray,lW⟩,ty,pos,af,none⟩::rest) fr Γ :=
 GL.calls (vs:=fun l=>args.map (ev l)) (fun K β w l hF=>⟨by rw [<-ha];exact hF.args args,by
  have hv:=hF.gD hx
  simp [execOp,resolve,hv,Deferred.ofValue,invoke,kZ]⟩) ew bu hc h
end
end Go.Xg
namespace Go.Xg
open Go.RowKit Go.Xw
def mH (ops:List Oper) (fr:List GV):Nat->Option (Option Bool):=fun j =>
 match jb ops j,(rh ops j).dst with
 | true,some t=>match jb fr t,cq fr t with
  | true,.v (.bool c)=>some (some c)
  | true,.v (.tuple _)=>some none
  | _,_=>none
 | _,_=>none
section
variable {P:Program} {m:Nat} {Q:dH} {fr:List GV} {Γ:List Ob} {ops:Array Oper} {rest:List Oper} {d:Option Tmp} {op:Op} {ty:TypeId} {pos:String} {af:Array Edge}
theorem uq {K:Fz} {β:Bt} {l:List Value} {j:Nat} {b:Bool} {c:Option Bool} (hF:FR K β fr l) (h:mH ops.toList fr j=some c):CQ (some (j,b)) ops.toList l=true/\gv ops.toList l (j,b)=c:=by
 unfold mH at h;split at h
 ·rename_i t h1 h2;split at h
  ·rename_i c' h3 h4;cases h;have hv:nth l t=.bool c':=Rel.eo (by rw [<-h4];exact hF.nth t);have hl:=lR hF h3;simp only [CQ,gv,h1,h2,hl,hv,Bool.and_self];exact ⟨trivial,trivial⟩
  ·rename_i vs h3 h4;cases h;have hv:nth l t=.tuple vs:=Rel.eo (by rw [<-h4];exact hF.nth t);have hl:=lR hF h3;simp only [CQ,gv,h1,h2,hl,hv,Bool.and_self];exact ⟨trivial,trivial⟩
  ·cases h
 ·cases h
theorem GL.gt {gd:Nat × Bool} {c:Bool} (hv:mH ops.toList fr gd.1=some (some c)) (hc:c=gd.2) (h:GL P m ops Q (⟨d,op,ty,pos,af,none⟩::rest) fr Γ):GL P m ops Q (⟨d,op,ty,pos,af,some gd⟩::rest) fr Γ:=fun B K β w l hm hI hF=>by
 obtain ⟨h1,h2⟩:=uq (b:=gd.2) hF hv;exact Xw.GT h1 h2 hc (h B K β w l hm hI hF)
theorem GL.gf {gd:Nat × Bool} {c:Bool} (hv:mH ops.toList fr gd.1=some (some c)) (hc:c=!gd.2) (h:GL P m ops Q rest (bm fr d (.v undef)) Γ):GL P m ops Q (⟨d,op,ty,pos,af,some gd⟩::rest) fr Γ:=fun B K β w l hm hI hF=>by
 obtain ⟨h1,h2⟩:=uq (b:=gd.2) hF hv;exact Xw.GF h1 h2 hc (h B K β w _ hm hI (hF.put d (.v _)))
theorem GL.gu {gd:Nat × Bool} (hv:mH ops.toList fr gd.1=some none) (h:GL P m ops Q rest (bm fr d (.v undef)) Γ):GL P m ops Q (⟨d,op,ty,pos,af,some gd⟩::rest) fr Γ:=fun B K β w l hm hI hF=>by
 obtain ⟨h1,h2⟩:=uq (b:=gd.2) hF hv;exact Xw.GU h1 h2 (h B K β w _ hm hI (hF.put d (.v _)))
end
def gG (ops:List Oper) (fr:List GV):Option (Nat × Bool)->Option Bool
 | none=>some true
 | some (j,b)=>match mH ops fr j with
  | some (some c)=>some (c==b)
  | some none=>some false
  | none=>none
theorem HB {ops:Array Oper} {K:Fz} {β:Bt} {fr:List GV} {l:List Value} {o:Oper} {c:Bool} (hF:FR K β fr l) (h:gG ops.toList fr o.guard=some c):Region.wanted o (yielded ops (act l).tmps)=c:=by
 obtain ⟨d,op,ty,pos,af,gd⟩:=o
 cases gd with
 | none=>simp only [gG] at h;cases h;rfl
 | some gd =>
  obtain ⟨j,b⟩:=gd;simp only [gG] at h;split at h
  ·rename_i c' hc;cases h;obtain ⟨h1,h2⟩:=uq (b:=b) hF hc;rw [u6 h1]
   cases yA:(c'==b) with
   | true=>exact Nw h2 (by simpa using yA)
   | false=>exact Nv h2 (by cases c' <;> cases b <;> simp_all)
  ·rename_i hc;cases h;obtain ⟨h1,h2⟩:=uq (b:=b) hF hc;rw [u6 h1];exact Nx h2
  ·cases h
def C3 (P:Program) (o:Oper) (e:Operand->Value) (w:World) (Kv:Value->World->Prop):Prop :=
 match (execOp e o).run P w with
 | .ok (.value v) w'=>Kv v w'
 | .ok .skip w'=>Kv undef w'
 | .ok (.enter f args) w'=>Calls P f args w' fun e Q4=>∃ v,e=.returned v/\Kv v Q4
 | .ok (.row row args) w'=>Rows P row args w' Kv
 | _=>False
theorem UG {P:Program} {o:Oper} {a:Act} {w:World} {Kv:Value->World->Prop} {next:Act->World->Prop} {Q:Exit->Act->World->Prop} (h:C3 P o a.eval w Kv) (hn:∀ v w',Kv v w'->next (a.put o.dst v) w'):o.wp P a w next Q:=by
 unfold C3 at h;unfold Oper.wp;generalize (execOp a.eval o).run P w=r at *
 cases r with
 | ok n w' =>
  cases n <;> simp only [Oper.upon] at h |- <;> first
   | exact hn _ _ h
   | exact Calls.mono h (fun e Q4 ⟨v,he,hv⟩=>by subst he;exact hn _ _ hv)
   | exact Rows.mono h (fun _ _ hv=>hn _ _ hv)
   | exact h.elim
 | halt x w'=>exact h.elim
theorem Vc {P:Program} {o:Oper} {a:Act} {w:World} {Kv:Value->World->Prop} {next:Act->World->Prop} {Q:Exit->Act->World->Prop} (h:o.wp P a w next Q) (hQ:∀ c a w,¬ Q (.panic c) a w) (Y7:∀ a w,¬ Q .outgrown a w) (hn:∀ v w',next (a.put o.dst v) w'->Kv v w')
  (hd:∀ d w',¬ next ({ a with defers:=d::a.defers }.put o.dst undef) w'):C3 P o a.eval w Kv:=by
 unfold C3;unfold Oper.wp at h;generalize (execOp a.eval o).run P w=r at *
 cases r with
 | ok n w' =>
  cases n <;> simp only [Oper.upon] at h |- <;> first
   | exact hn _ _ h
   | exact Calls.mono h (fun e Q4 he=>by
     cases e with
     | returned v=>exact ⟨v,rfl,hn _ _ he⟩
     | panicked c=>exact (hQ _ _ _ he).elim
     | outgrown=>obtain ⟨a0,w0,hf⟩:=he;exact (Y7 _ _ hf).elim)
   | exact Rows.mono h (fun _ _ hv=>hn _ _ hv)
   | exact h.elim
   | exact absurd h (hd _ _)
 | halt x w' =>
  cases x <;> simp only [Oper.upon] at h
  exact (hQ _ _ _ h).elim
def cy (ts:List Nat):Nat->List GV->List GV
 | _,[]=>[]
 | k,g::gs=>(match ts.contains k with | true=>g | false=>.U)::cy ts (k+1) gs
theorem FR.mask {K:Fz} {β:Bt} {ts:List Nat} {fr:List GV} {l:List Value} (h:FR K β fr l):∀ k,FR K β (cy ts k fr) l:=by
 induction h with
 | nil=>intro k;exact .nil
 | cons h t ih =>
  intro k;rw [cy];split
  ·exact .cons h (ih _)
  ·exact .cons (.U _) (ih _)
theorem Pj {ts:List Nat} {d:Option Tmp} {g:GV} (hd:∀ t,d=some t->t ∉ ts) (fr:List GV):cy ts 0 (bm fr d g)=cy ts 0 fr:=by
 cases d with
 | none=>rfl
 | some t =>
  have hd:=hd t rfl
  have gen:∀ (fr:List GV) (k t:Nat),k+t ∉ ts->cy ts k (bo fr t g)=cy ts k fr:=by
   intro fr
   induction fr with
   | nil=>intro k t _;rfl
   | cons x fr ih =>
    intro k t h
    cases t with
    | zero =>
     have hc:ts.contains k=false:=by
      cases hb:ts.contains k with
      | false=>rfl
      | true=>exact absurd (List.contains_iff_mem.1 hb) (by simpa using h)
     simp only [bo,cy,hc]
    | succ t=>simp only [bo,cy];rw [ih (k+1) t (by rw [show k+1+t=k+(t+1) by omega];exact h)]
  exact gen fr 0 t (by simpa using hd)
section
variable {P:Program} {ops:Array Oper}
def YQ (P:Program) (ops:Array Oper) (i:Nat) (g:GV) (fr:List GV) (Γ:List Ob):Prop :=
 ∃ o c,ops[i]?=some o/\gG ops.toList (cy (o.looksAt ops) 0 fr) o.guard=some c/\match c with
  | true=>YG P o.op (cy (o.looksAt ops) 0 fr) Γ g
  | false=>g=.v undef
abbrev kq:=List (Nat × GV × List GV)
def GA (P:Program) (o:Oper) (Kt:GV->List Ob->Prop) (fr:List GV) (Γ:List Ob):Prop :=
 ∀ B K β w l,Inv B K β Γ w->FR K β fr l->C3 P o (ev l) w fun v w'=>∃ K' bM g aJ,cj K K'/\cX β bM/\Inv B K' bM aJ w'/\(∀ fr l,FR K' bM fr l->FR K' bM (bm fr o.dst g) (put l o.dst v))/\Kt g aJ
def GI (P:Program) (ops:Array Oper) (i:Nat) (Kt:GV->List Ob->Prop) (fr:List GV) (Γ:List Ob):Prop :=
 ∃ o c,ops[i]?=some o/\gG ops.toList fr o.guard=some c/\match c with
  | true=>GA P o Kt fr Γ
  | false=>Kt (.v undef) Γ
def kv (ops:Array Oper) (i:Nat):Option Tmp:=(ops[i]?).bind (·.dst)
def waits (ops:Array Oper) (i j:Nat):Bool:=match ops[i]? with
 | some o=>o.after.any fun e=>Region.binds .any e&&e.on==j
 | none=>false
def stay (ops:Array Oper) (i:Nat) (aU:kq):kq:=aU.filter fun p=>!waits ops i p.1
def oU (P:Program) (ops:Array Oper) (Q:List GV->List Ob->Prop):Nat->kq->Array Bool->List GV->List Ob->Prop
 | 0,_,listed,fr,Γ=>Region.ready .any ops listed=[]/\Q fr Γ
 | n+1,aU,listed,fr,Γ=>(Region.ready .any ops listed=[]->Q fr Γ) /\
   ∀ i∈Region.ready .any ops listed,GI P ops i (fun g aJ=>(∀ p∈stay ops i aU,YQ P ops p.1 p.2.1 p.2.2 aJ)/\oU P ops Q n (stay ops i aU) (listed.setIfInBounds i true) (bm fr (kv ops i) g) aJ) fr Γ
theorem GA.mono {o:Oper} {Kt DL:GV->List Ob->Prop} {fr:List GV} {Γ:List Ob} (h:GA P o Kt fr Γ) (hk:∀ g aJ,Kt g aJ->DL g aJ):GA P o DL fr Γ:=fun B K β w l hI hF=>by
 have:=h B K β w l hI hF;unfold C3 at *;generalize (execOp (ev l) o).run P w=r at *
 have key:∀ v w',(∃ K' bM g aJ,cj K K'/\cX β bM/\Inv B K' bM aJ w'/\(∀ fr l,FR K' bM fr l->FR K' bM (bm fr o.dst g) (put l o.dst v))/\Kt g aJ)->∃ K' bM g aJ,cj K K'/\cX β bM/\Inv B K' bM aJ w'/\(∀ fr l,FR K' bM fr l->FR K' bM (bm fr o.dst g) (put l o.dst v))/\DL g aJ :=
  fun v w' ⟨K',bM,g,aJ,h1,h2,h3,h4,h5⟩=>⟨K',bM,g,aJ,h1,h2,h3,h4,hk _ _ h5⟩
 cases r with
 | ok n w'=>cases n <;> simp only at this |- <;> first
   | exact key _ _ this
   | exact Calls.mono this (fun e Q4 ⟨v,he,hv⟩=>⟨v,he,key _ _ hv⟩)
   | exact Rows.mono this (fun _ _ hv=>key _ _ hv)
   | exact this.elim
 | halt x w'=>exact this.elim
theorem GI.mono {i:Nat} {Kt DL:GV->List Ob->Prop} {fr:List GV} {Γ:List Ob} (h:GI P ops i Kt fr Γ) (hk:∀ g aJ,Kt g aJ->DL g aJ):GI P ops i DL fr Γ:=by
 obtain ⟨o,c,h1,h2,h3⟩:=h;refine ⟨o,c,h1,h2,?_⟩
 cases c with
 | true=>exact GA.mono h3 hk
 | false=>exact hk _ _ h3
theorem oU.Qi {Q:List GV->List Ob->Prop}:∀ (n:Nat) (aU dA:kq) (listed:Array Bool) (fr:List GV) (Γ:List Ob),(∀ p∈dA,p∈aU)->oU P ops Q n aU listed fr Γ->oU P ops Q n dA listed fr Γ
 | 0,_,_,_,_,_,_,h=>h
 | n+1,aU,dA,listed,fr,Γ,hs,h=>⟨h.1,fun i hi=>(h.2 i hi).mono fun g aJ ⟨h1,h2⟩=>by
  have nE:∀ p∈stay ops i dA,p∈stay ops i aU:=fun p hp=>by
   simp only [stay,mem_filter] at hp |-;exact ⟨hs p hp.1,hp.2⟩
  exact ⟨fun p hp=>h1 p (nE p hp),oU.Qi n _ _ _ _ _ nE h2⟩⟩
theorem oU.sound {m:Nat} {Q:List GV->List Ob->Prop} {B:Bs} {Q':dH} (hm:B.m=m) (hQ:∀ fr Γ,Q fr Γ->Q' .normal fr Γ):∀ (n:Nat) (aU:kq) (listed:Array Bool) (fr:List GV) (Γ:List Ob) (K:Fz) (β:Bt) (w:World) (l:List Value),
  oU P ops Q n aU listed fr Γ->Inv B K β Γ w->FR K β fr l->wpAny P .any ops (lift (gl B Q')) n listed (act l) w
 | 0,_,_,fr,Γ,K,β,w,l,h,hI,hF=>⟨h.1,l,rfl,K,β,fr,Γ,hI,hF,hQ _ _ h.2⟩
 | n+1,aU,listed,fr,Γ,K,β,w,l,h,hI,hF=>by
  refine ⟨fun h0=>⟨l,rfl,K,β,fr,Γ,hI,hF,hQ _ _ (h.1 h0)⟩,fun i hi=>?_⟩;obtain ⟨o,c,ho,hg,hc⟩:=h.2 i hi;have hw:=HB hF hg;unfold wpOp;simp only [ho,hw]
  have hd:kv ops i=o.dst:=by simp [kv,ho]
  cases c with
  | true =>
   simp only [if_true];refine .inl (UG (by rw [mz];exact hc B K β w l hI hF) ?_);rintro v w' ⟨K',bM,g,aJ,hK,hB,bf,hf,h1,h2⟩;rw [oB];rw [hd] at h2;exact oU.sound hm hQ n _ _ _ _ K' bM w' _ h2 bf (hf _ _ (hF.mono hK hB))
  | false =>
   simp only [Bool.false_eq_true,if_false];rw [oB];obtain ⟨h1,h2⟩:=hc;rw [hd] at h2;exact oU.sound hm hQ n _ _ _ _ K β w _ h2 hI (hF.put o.dst (.v _))
theorem Gs {fr:List GV} {t t':Nat} (h:t'≠t) (g:GV):cq (bo fr t g) t'=cq fr t':=by
 induction fr generalizing t t' with
 | nil=>rfl
 | cons x l ih=>cases t with
  | zero=>cases t' with | zero=>exact absurd rfl h | succ t'=>rfl
  | succ t=>cases t' with | zero=>rfl | succ t'=>exact ih (fun e=>h (by rw [e]))
theorem HT {fr:List GV} {t t':Nat} {g:GV}:jb (bo fr t g) t'=jb fr t':=by
 induction fr generalizing t t' with
 | nil=>rfl
 | cons x l ih=>cases t with
  | zero=>cases t' <;> rfl
  | succ t=>cases t' with | zero=>rfl | succ t'=>exact ih
theorem Tf {o:Oper} {fr:List GV} {d:Option Tmp} {g:GV} (h:∀ t,d=some t->t ∉ o.looksAt ops):gG ops.toList (bm fr d g) o.guard=gG ops.toList fr o.guard:=by
 cases d with
 | none=>rfl
 | some t =>
  have h:=h t rfl;obtain ⟨d',op,ty,pos,af,gd⟩:=o
  cases gd with
  | none=>rfl
  | some gd =>
   obtain ⟨j,b⟩:=gd
   have bL:∀ t',jb ops.toList j=true->(rh ops.toList j).dst=some t'->t'≠t:=fun t' hj Ap he=>by
    subst he;apply h;have lp:=Ig ops.toList j (Ax hj);simp only [Array.toArray_toList] at lp;simp [Oper.looksAt,lp,Ap]
   have hv:mH ops.toList (bo fr t g) j=mH ops.toList fr j:=by
    unfold mH
    cases gI:jb ops.toList j with
    | false=>rfl
    | true =>
     cases hd:(rh ops.toList j).dst with
     | none=>rfl
     | some t' =>
      simp only;rw [HT,Gs (bL t' gI hd)]
   simp only [gG,bm,hv]
theorem YQ.at {i:Nat} {g:GV} {fr:List GV} {Γ:List Ob} {o:Oper} (h:YQ P ops i g fr Γ) (ho:ops[i]?=some o) {B:Bs} {K:Fz} {β:Bt} {w:World} {l:List Value} (hI:Inv B K β Γ w) (hF:FR K β fr l):∃ v,Rel K β v g/\((Region.wanted o (yielded ops (act l).tmps)=true/\(execOp (ev l) o).run P w=.ok (.value v) w)\/(Region.wanted o (yielded ops (act l).tmps)=false/\v=undef)):=by
 obtain ⟨o',c,h1,h2,h3⟩:=h;rw [ho] at h1;cases h1;have hw:=HB (hF.mask (ts:=o.looksAt ops) 0) h2
 cases c with
 | true =>
  obtain ⟨v,hr,hv⟩:=h3 B K β w l hI (hF.mask 0);exact ⟨v,hv,.inl ⟨hw,by obtain ⟨d,op,ty,pos,af,gd⟩:=o;exact hr d ty pos af⟩⟩
 | false=>subst h3;exact ⟨undef,.v _,.inr ⟨hw,rfl⟩⟩
theorem GI.comm {i j:Nat} {g:GV} {oi oj:Oper} {Kt:GV->List Ob->Prop} {fr:List GV} {Γ:List Ob} (hi:ops[i]?=some oi) (hj:ops[j]?=some oj) (Qt:oi.apart ops oj=true) (ZJ:∀ cs b,oj.op≠.select cs b) (hy:YQ P ops i g fr Γ)
  (h:GI P ops j Kt (bm fr oi.dst g) Γ):GI P ops j Kt fr Γ:=by
 obtain ⟨a1,a2,a3⟩:=Oper.apart_spec Qt;obtain ⟨o,c,h1,h2,h3⟩:=h;rw [hj] at h1;cases h1;rw [Tf a1] at h2;refine ⟨oj,c,hj,h2,?_⟩
 cases c with
 | false=>exact h3
 | true =>
  intro B K β w l hI hF;obtain ⟨v,hv,_⟩:=hy.at hi hI hF;have:=h3 B K β w (put l oi.dst v) hI (hF.put _ hv)
  have he:execOp (ev (put l oi.dst v)) oj=execOp (ev l) oj:=by
   have:=execOp_put oj ZJ (act l) oi.dst v a1;rw [oB,mz,mz] at this;exact this
  unfold C3 at this |-;rw [he] at this;exact this
theorem oU.first {Q:List GV->List Ob->Prop} {i:Nat} {oi:Oper} {g:GV} {nV:List GV} (hi:ops[i]?=some oi) (X3:∀ (j:Nat) (o:Oper) cs b,ops[j]?=some o->o.op≠.select cs b) :
  ∀ (n:Nat) (aU:kq) (listed:Array Bool) (fr:List GV) (Γ:List Ob),
   (∀ j oj,ops[j]?=some oj->j≠i->listed.getD j true=false->(∀ e∈oj.after,Region.binds .any e=true->e.on≠i)->oi.apart ops oj=true) ->
   i∈Region.ready .any ops listed->cy (oi.looksAt ops) 0 fr=cy (oi.looksAt ops) 0 nV->YQ P ops i g nV Γ->(∀ p∈aU,YQ P ops p.1 p.2.1 p.2.2 Γ) ->
   oU P ops Q n ((i,g,nV)::aU) (listed.setIfInBounds i true) (bm fr oi.dst g) Γ->oU P ops Q (n+1) aU listed fr Γ:=by
 have hd:kv ops i=oi.dst:=by simp [kv,hi]
 have U8:∀ {fr:List GV} {Γ:List Ob},cy (oi.looksAt ops) 0 fr=cy (oi.looksAt ops) 0 nV->YQ P ops i g nV Γ->YQ P ops i g fr Γ:=by
  rintro fr Γ hm ⟨o,c,h1,h2,h3⟩;rw [hi] at h1;cases h1;exact ⟨oi,c,hi,by rw [hm];exact h2,by rw [hm];exact h3⟩
 have self:∀ (n:Nat) (aU:kq) (listed:Array Bool) (fr:List GV) (Γ:List Ob),cy (oi.looksAt ops) 0 fr=cy (oi.looksAt ops) 0 nV->YQ P ops i g nV Γ->(∀ p∈aU,YQ P ops p.1 p.2.1 p.2.2 Γ) ->
   oU P ops Q n ((i,g,nV)::aU) (listed.setIfInBounds i true) (bm fr oi.dst g) Γ ->
   GI P ops i (fun g aJ=>(∀ p∈stay ops i aU,YQ P ops p.1 p.2.1 p.2.2 aJ)/\oU P ops Q n (stay ops i aU) (listed.setIfInBounds i true) (bm fr (kv ops i) g) aJ) fr Γ:=by
  intro n aU listed fr Γ sj hy hp H
  have b6:∀ p∈stay ops i aU,p∈aU:=fun p hp=>by simp only [stay,mem_filter] at hp;exact hp.1
  have H':oU P ops Q n (stay ops i aU) (listed.setIfInBounds i true) (bm fr (kv ops i) g) Γ:=by
   rw [hd];exact oU.Qi n _ _ _ _ _ (fun p hp=>mem_cons_of_mem _ (b6 p hp)) H
  obtain ⟨o,c,h1,h2,h3⟩:=U8 sj hy;rw [hi] at h1;cases h1
  have pK:gG ops.toList fr oi.guard=some c:=by
   obtain ⟨d',op,ty,pos,af,gd⟩:=oi
   cases gd with
   | none=>exact h2
   | some gd =>
    obtain ⟨j,b⟩:=gd;simp only [gG] at h2 |-
    have hv:∀ x,mH ops.toList (cy (Oper.looksAt ops ⟨d',op,ty,pos,af,some (j,b)⟩) 0 fr) j=some x->mH ops.toList fr j=some x:=by
     intro x hx;unfold mH at hx |-
     cases gI:jb ops.toList j with
     | false=>rw [gI] at hx;cases hx
     | true =>
      rw [gI] at hx
      cases hdt:(rh ops.toList j).dst with
      | none=>rw [hdt] at hx;cases hx
      | some t =>
       rw [hdt] at hx;simp only at hx |-
       have we:∀ (ts:List Nat) (fr:List GV) (k t:Nat),jb (cy ts k fr) t=jb fr t:=by
        intro ts fr
        induction fr with
        | nil=>intro k t;rfl
        | cons x fr ih=>intro k t;cases t with | zero=>rfl | succ t=>exact ih (k+1) t
       have Zj:∀ (ts:List Nat) (fr:List GV) (k t:Nat) ,cq (cy ts k fr) t=cq fr t\/cq (cy ts k fr) t=.U:=by
        intro ts fr
        induction fr with
        | nil=>intro k t;exact .inl rfl
        | cons x fr ih =>
         intro k t
         cases t with
         | zero=>simp only [cy,cq];split <;> first | exact .inl rfl | exact .inr rfl
         | succ t=>exact ih (k+1) t
       rw [we] at hx
       rcases Zj (Oper.looksAt ops ⟨d',op,ty,pos,af,some (j,b)⟩) fr 0 t with h | h
       ·rw [h] at hx;exact hx
       ·rw [h] at hx
        split at hx <;> first | (rename_i h5;cases h5;done) | cases hx
    split at h2
    ·rename_i c' hc;rw [hv _ hc];exact h2
    ·rename_i hc;rw [hv _ hc];exact h2
    ·cases h2
  refine ⟨oi,c,hi,pK,?_⟩
  have kH:∀ p∈stay ops i aU,YQ P ops p.1 p.2.1 p.2.2 Γ:=fun p hq=>hp p (b6 p hq)
  cases c with
  | true =>
   intro B K β w l hI hF;obtain ⟨v,hr,hv⟩:=h3 B K β w l hI (hF.mask 0)
   have mb:(execOp (ev l) oi).run P w=.ok (.value v) w:=by obtain ⟨d,op,ty,pos,af,gd⟩:=oi;exact hr d ty pos af
   unfold C3;rw [mb];exact ⟨K,β,g,Γ,cj.refl K,cX.refl β,hI,fun fr l hf=>hf.put _ hv,kH,H'⟩
  | false =>
   simp only at h3;subst h3;exact ⟨kH,H'⟩
 intro n
 induction n with
 | zero =>
  intro aU listed fr Γ _ hr sj hy hp H;refine ⟨fun h=>(by rw [h] at hr;cases hr),fun j hj=>?_⟩
  by_cases hji:j=i
  ·subst hji;exact self 0 aU listed fr Γ sj hy hp H
  ·have:=ready_mono hj hji;rw [H.1] at this;cases this
 | succ n ih =>
  intro aU listed fr Γ Qx hr sj hy hp H;refine ⟨fun h=>(by rw [h] at hr;cases hr),fun j hj=>?_⟩
  by_cases hji:j=i
  ·subst hji;exact self (n+1) aU listed fr Γ sj hy hp H
  ·have h1:=H.2 j (ready_mono hj hji);obtain ⟨TK,oj,L9,aR⟩:=mem_ready.1 hj
   have TR:∀ e∈oj.after,Region.binds .any e=true->e.on≠i:=fun e he hb heq=>by
    have h1:=aR e he hb;have h0:=(mem_ready.1 hr).1;rw [heq] at h1
    rcases Nat.lt_or_ge i listed.size with h' | h'
    ·simp [h'] at h0 h1;rw [h0] at h1;cases h1
    ·simp [Array.getElem?_eq_none h'] at h1
   have Qt:=Qx j oj L9 hji TK TR;obtain ⟨a1,a2,a3⟩:=Oper.apart_spec Qt
   have rn:waits ops j i=false:=by
    simp only [waits,L9];rw [Array.any_eq_false'];intro e he hb;simp only [Bool.and_eq_true,beq_iff_eq] at hb;exact TR e he hb.1 hb.2
   have b6:stay ops j ((i,g,nV)::aU)=(i,g,nV)::stay ops j aU:=by
    simp [stay,List.filter_cons,rn]
   rw [b6] at h1;have h2:=GI.comm hi L9 Qt (fun cs b=>X3 j oj cs b L9) (U8 sj hy) h1
   have WJ:kv ops j=oj.dst:=by simp [kv,L9]
   have TI:∀ k ok,ops[k]?=some ok->k≠i->(listed.setIfInBounds j true).getD k true=false ->
     (∀ e∈ok.after,Region.binds .any e=true->e.on≠i)->oi.apart ops ok=true:=fun k ok hk cQ WZ bT=>by
    refine Qx k ok hk cQ ?_ bT
    by_cases hjk:j=k
    ·subst hjk;exact TK
    ·rw [getD_set_ne true hjk] at WZ;exact WZ
   refine h2.mono fun gj aJ ⟨h3,h4⟩=>⟨fun p hp=>h3 p (mem_cons_of_mem _ hp),?_⟩
   refine ih (stay ops j aU) (listed.setIfInBounds j true) (bm fr (kv ops j) gj) aJ TI (ready_mono hr (Ne.symm hji)) ?_ (h3 (i,g,nV) (mem_cons_self)) (fun p hp=>h3 p (mem_cons_of_mem _ hp)) ?_
   ·rw [<-sj,WJ];exact Pj a3 fr
   ·rw [Array.setIfInBounds_comm _ _ hji]
    have VH:bm (bm fr (kv ops j) gj) oi.dst g=bm (bm fr oi.dst g) (kv ops j) gj:=by
     rw [WJ]
     cases hdi:oi.dst with
     | none=>rfl
     | some t =>
      cases hdj':oj.dst with
      | none=>rfl
      | some u =>
       have bL:t≠u:=fun e=>a2 t hdi (by rw [hdj',e])
       have gen:∀ (fr:List GV) (t u:Nat),t≠u->bo (bo fr u gj) t g=bo (bo fr t g) u gj:=by
        intro fr
        induction fr with
        | nil=>intro t u _;rfl
        | cons x fr ih =>
         intro t u h
         cases t with
         | zero=>cases u with | zero=>exact absurd rfl h | succ u=>rfl
         | succ t=>cases u with | zero=>rfl | succ u=>simp only [bo];rw [ih t u (fun e=>h (by rw [e]))]
       exact gen fr t u bL
    rw [VH];exact h4
inductive Ot where
 | nil
 | q (i:Nat) (r:Ot)
 | a (i:Nat) (r:Ot)
 | f (i:Nat) (r:Ot) (j:Nat) (s:Ot)
def Ot.len:Ot->Nat
 | .nil=>0
 | .q _ r=>r.len+1
 | .a _ r=>r.len+1
 | .f _ r _ _=>r.len+1
def sB (ops:Array Oper):Ot->Array Bool->Bool
 | .nil,listed=>(Region.ready .any ops listed).isEmpty
 | .q i r,listed=>(Region.ready .any ops listed).contains i&&Region.free .any ops listed i&&sB ops r (listed.setIfInBounds i true)
 | .a i r,listed=>(Region.ready .any ops listed==[i])&&sB ops r (listed.setIfInBounds i true)
 | .f i r j s,listed=>(Region.ready .any ops listed==[i,j])&&sB ops r (listed.setIfInBounds i true)&&sB ops s (listed.setIfInBounds j true)&&(r.len==s.len)
def GO (P:Program) (ops:Array Oper) (Q:List GV->List Ob->Prop):Ot->kq->List GV->List Ob->Prop
 | .nil,_,fr,Γ=>Q fr Γ
 | .q i r,aU,fr,Γ=>∃ g,YQ P ops i g fr Γ/\GO P ops Q r ((i,g,fr)::aU) (bm fr (kv ops i) g) Γ
 | .a i r,aU,fr,Γ=>GI P ops i (fun g aJ=>(∀ p∈stay ops i aU,YQ P ops p.1 p.2.1 p.2.2 aJ)/\GO P ops Q r (stay ops i aU) (bm fr (kv ops i) g) aJ) fr Γ
 | .f i r j s,aU,fr,Γ=>GI P ops i (fun g aJ=>(∀ p∈stay ops i aU,YQ P ops p.1 p.2.1 p.2.2 aJ)/\GO P ops Q r (stay ops i aU) (bm fr (kv ops i) g) aJ) fr Γ/\GI P ops j (fun g aJ=>(∀ p∈stay ops j aU,YQ P ops p.1 p.2.1 p.2.2 aJ)/\GO P ops Q s (stay ops j aU) (bm fr (kv ops j) g) aJ) fr Γ
theorem GO.fork {ops:Array Oper} {Q:List GV->List Ob->Prop} {i j:Nat} {r s:Ot} {aU:kq} {fr:List GV} {Γ:List Ob} (h1:GO P ops Q (.a i r) aU fr Γ) (h2:GO P ops Q (.a j s) aU fr Γ):GO P ops Q (.f i r j s) aU fr Γ:=⟨h1,h2⟩
theorem GO.all {ol:List Oper} {Q:List GV->List Ob->Prop} (hs:Region.noSelect ol.toArray=true):∀ (ord:Ot) (aU:kq) (listed:Array Bool) (fr:List GV) (Γ:List Ob),
  sB ol.toArray ord listed=true->(∀ p∈aU,YQ P ol.toArray p.1 p.2.1 p.2.2 Γ)->GO P ol.toArray Q ord aU fr Γ->oU P ol.toArray Q ord.len aU listed fr Γ
 | .nil,aU,listed,fr,Γ,ho,_,h=>⟨by simpa [sB] using ho,h⟩
 | .q i r,aU,listed,fr,Γ,ho,hp,h=>by
  simp only [sB,Bool.and_eq_true] at ho;obtain ⟨⟨hr,hf⟩,ho⟩:=ho;obtain ⟨g,hy,h⟩:=h
  have BD:i∈Region.ready .any ol.toArray listed:=by simpa using hr
  obtain ⟨_,o,hi,_⟩:=mem_ready.1 BD
  have hd:kv ol.toArray i=o.dst:=by simp only [kv,hi];rfl
  rw [hd] at h
  exact oU.first hi (Region.noSelect_spec hs) _ aU listed fr Γ (Region.free_spec hi hf) BD rfl hy hp (GO.all hs r _ _ _ _ ho (fun p kH=>by
   rcases List.mem_cons.1 kH with rfl | kH
   ·exact hy
   ·exact hp p kH) h)
 | .a i r,aU,listed,fr,Γ,ho,hp,h=>by
  simp only [sB,Bool.and_eq_true,beq_iff_eq] at ho;obtain ⟨hr,ho⟩:=ho;refine ⟨fun h0=>by rw [h0] at hr;simp at hr,fun j hj=>?_⟩;rw [hr,List.mem_singleton] at hj;subst hj
  exact GI.mono h fun g aJ ⟨h1,h2⟩=>⟨h1,GO.all hs r _ _ _ _ ho h1 h2⟩
 | .f i r j s,aU,listed,fr,Γ,ho,hp,h=>by
  simp only [sB,Bool.and_eq_true,beq_iff_eq] at ho;obtain ⟨⟨⟨hr,ZA⟩,ZB⟩,hl⟩:=ho;refine ⟨fun h0=>by rw [h0] at hr;simp at hr,fun k hk=>?_⟩;rw [hr] at hk;simp only [List.mem_cons,List.not_mem_nil,or_false] at hk
  rcases hk with rfl | rfl
  ·exact GI.mono h.1 fun g aJ ⟨h1,h2⟩=>⟨h1,GO.all hs r _ _ _ _ ZA h1 h2⟩
  ·exact GI.mono h.2 fun g aJ ⟨h1,h2⟩=>⟨h1,by
    have:=GO.all hs s _ _ _ _ ZB h1 h2
    rw [<-hl] at this;exact this⟩
theorem GW.draw {m id:Nat} {ol:List Oper} {Q:dH} {fr:List GV} {Γ:List Ob} (ord:Ot) (hm:P.follows .mixedOrders=true)
  (ew:(Region.noSelect ol.toArray&&(ord.len==ol.length)&&sB ol.toArray ord (Array.replicate ol.toArray.size false))=true)
  (h:GO P ol.toArray (Q .normal) ord [] fr Γ):GW P m (.region id ol.toArray true) Q fr Γ:=fun B K β w l hB hI hF=>by
 simp only [Bool.and_eq_true,beq_iff_eq] at ew;obtain ⟨⟨hs,hl⟩,ho⟩:=ew;refine wp_region_any hm ?_;have h1:=GO.all hs ord [] _ fr Γ ho (fun p hp=>by cases hp) h;rw [hl] at h1;have h2:=oU.sound (Q':=Q) hB (fun fr Γ h=>h) _ _ _ _ _ K β w.drew l h1 (hI.same (Ext.drew w)) hF;simpa using h2
end
end Go.Xg
namespace Go.Xg
open Go.RowKit Go.Xw
def iY:List Oper->Nat->Option Oper
 | [],_=>none
 | o::_,0=>some o
 | _::r,n+1=>iY r n
theorem p8 {ol:List Oper} {i:Nat} {o:Oper} (h:iY ol i=some o):ol.toArray[i]?=some o:=by
 have:∀ (ol:List Oper) (i:Nat),iY ol i=ol[i]?:=by
  intro ol
  induction ol with
  | nil=>intro i;rfl
  | cons x ol ih=>intro i;cases i with | zero=>rfl | succ i=>simpa [iY] using ih i
 rw [this] at h;simpa using h
section
variable {P:Program} {Q:List GV->List Ob->Prop} {ol:List Oper} {r:Ot} {aU:kq} {fr:List GV} {Γ:List Ob} {i:Nat} {g:GV} {d:Option Tmp} {op:Op} {ty:TypeId} {pos:String} {af:Array Edge} {gd:Nat × Bool}
theorem ui {o:Oper} (h:iY ol i=some o):kv ol.toArray i=o.dst:=by simp only [kv,p8 h];rfl
theorem GO.more {ops:Array Oper}:∀ (r:Ot) (aU dA:kq) (fr:List GV) (Γ:List Ob),(∀ p∈dA,p∈aU\/∀ Γ,YQ P ops p.1 p.2.1 p.2.2 Γ)->GO P ops Q r aU fr Γ->GO P ops Q r dA fr Γ
 | .nil,_,_,_,_,_,h=>h
 | .q i r,aU,dA,fr,Γ,hs,⟨g,h1,h2⟩=>⟨g,h1,GO.more r _ _ _ _ (fun p hp=>by
   rcases List.mem_cons.1 hp with rfl | hp
   ·exact .inl (mem_cons_self)
   ·exact (hs p hp).imp (mem_cons_of_mem _) id) h2⟩
 | .a i r,aU,dA,fr,Γ,hs,h=>GI.mono h fun g aJ ⟨h1,h2⟩=>by
   have nE:∀ p∈stay ops i dA,p∈stay ops i aU\/∀ Γ,YQ P ops p.1 p.2.1 p.2.2 Γ:=fun p hp=>by
    simp only [stay,mem_filter] at hp |-;exact (hs p hp.1).imp (fun h=>⟨h,hp.2⟩) id
   exact ⟨fun p hp=>(nE p hp).elim (h1 p) (fun h=>h aJ),GO.more r _ _ _ _ nE h2⟩
 | .f i r j s,aU,dA,fr,Γ,hs,h=>by
   have nE:∀ k,∀ p∈stay ops k dA,p∈stay ops k aU\/∀ Γ,YQ P ops p.1 p.2.1 p.2.2 Γ:=fun k p hp=>by
    simp only [stay,mem_filter] at hp |-;exact (hs p hp.1).imp (fun h=>⟨h,hp.2⟩) id
   exact ⟨GI.mono h.1 fun g aJ ⟨h1,h2⟩=>⟨fun p hp=>(nE i p hp).elim (h1 p) (fun h=>h aJ),GO.more r _ _ _ _ (nE i) h2⟩,GI.mono h.2 fun g aJ ⟨h1,h2⟩=>⟨fun p hp=>(nE j p hp).elim (h1 p) (fun h=>h aJ),GO.more s _ _ _ _ (nE j) h2⟩⟩
theorem GO.skip {ops:Array Oper} {x:Nat × GV × List GV} (hx:∀ Γ,YQ P ops x.1 x.2.1 x.2.2 Γ) (h:GO P ops Q r aU fr Γ):GO P ops Q r (x::aU) fr Γ:=by
 refine GO.more r aU _ fr Γ (fun p hp=>?_) h
 rcases List.mem_cons.1 hp with he | hp
 ·subst he;exact .inr hx
 ·exact .inl hp
theorem GO.yq {o:Oper} (hi:iY ol i=some o) (hy:YQ P ol.toArray i g fr Γ) (h:GO P ol.toArray Q r ((i,g,fr)::aU) (bm fr o.dst g) Γ):GO P ol.toArray Q (.q i r) aU fr Γ :=
 ⟨g,hy,by rw [ui hi];exact h⟩
theorem GO.yp {o:Oper} (hi:iY ol i=some o) (hy:∀ Γ,YQ P ol.toArray i g fr Γ) (h:GO P ol.toArray Q r aU (bm fr o.dst g) Γ):GO P ol.toArray Q (.q i r) aU fr Γ :=
 GO.yq hi (hy Γ) (GO.skip hy h)
theorem Bx {c:Bool} {ops:List Oper} (hv:mH ops fr gd.1=some (some c)) (hc:c=gd.2):gG ops fr (some gd)=some true:=by
 obtain ⟨j,b⟩:=gd;simp only at hv hc;simp only [gG,hv,hc];simp
theorem Ec {c:Bool} {ops:List Oper} (hv:mH ops fr gd.1=some (some c)) (hc:c=!gd.2):gG ops fr (some gd)=some false:=by
 obtain ⟨j,b⟩:=gd;simp only at hv hc;simp only [gG,hv,hc];simp
theorem Tg {ops:List Oper} (hv:mH ops fr gd.1=some none):gG ops fr (some gd)=some false:=by
 obtain ⟨j,b⟩:=gd;simp only at hv;simp only [gG,hv]
theorem YQ.t {o:Oper} (hi:iY ol i=some o) (hg:gG ol (cy (o.looksAt ol.toArray) 0 fr) o.guard=some true) (hy:YG P o.op (cy (o.looksAt ol.toArray) 0 fr) Γ g):YQ P ol.toArray i g fr Γ:=⟨o,true,p8 hi,hg,hy⟩
theorem YQ.f {o:Oper} (hi:iY ol i=some o) (hg:gG ol (cy (o.looksAt ol.toArray) 0 fr) o.guard=some false):YQ P ol.toArray i (.v undef) fr Γ:=⟨o,false,p8 hi,hg,rfl⟩
theorem OQ (hi:iY ol i=some ⟨d,op,ty,pos,af,none⟩) (hy:YG P op (cy (Oper.looksAt ol.toArray ⟨d,op,ty,pos,af,none⟩) 0 fr) Γ g) (h:GO P ol.toArray Q r ((i,g,fr)::aU) (bm fr d g) Γ):GO P ol.toArray Q (.q i r) aU fr Γ :=
 GO.yq hi (YQ.t hi rfl hy) h
theorem OP (hi:iY ol i=some ⟨d,op,ty,pos,af,none⟩) (hy:∀ Γ,YG P op (cy (Oper.looksAt ol.toArray ⟨d,op,ty,pos,af,none⟩) 0 fr) Γ g) (h:GO P ol.toArray Q r aU (bm fr d g) Γ):GO P ol.toArray Q (.q i r) aU fr Γ :=
 GO.yp hi (fun Γ=>YQ.t hi rfl (hy Γ)) h
theorem Yy {c:Bool} (hi:iY ol i=some ⟨d,op,ty,pos,af,some gd⟩) (hv:mH ol (cy (Oper.looksAt ol.toArray ⟨d,op,ty,pos,af,some gd⟩) 0 fr) gd.1=some (some c)) (hc:c=gd.2) (hy:YG P op (cy (Oper.looksAt ol.toArray ⟨d,op,ty,pos,af,some gd⟩) 0 fr) Γ g)
  (h:GO P ol.toArray Q r ((i,g,fr)::aU) (bm fr d g) Γ):GO P ol.toArray Q (.q i r) aU fr Γ :=
 GO.yq hi (YQ.t hi (Bx hv hc) hy) h
theorem Wv {c:Bool} (hi:iY ol i=some ⟨d,op,ty,pos,af,some gd⟩) (hv:mH ol (cy (Oper.looksAt ol.toArray ⟨d,op,ty,pos,af,some gd⟩) 0 fr) gd.1=some (some c)) (hc:c=gd.2) (hy:∀ Γ,YG P op (cy (Oper.looksAt ol.toArray ⟨d,op,ty,pos,af,some gd⟩) 0 fr) Γ g)
  (h:GO P ol.toArray Q r aU (bm fr d g) Γ):GO P ol.toArray Q (.q i r) aU fr Γ :=
 GO.yp hi (fun Γ=>YQ.t hi (Bx hv hc) (hy Γ)) h
theorem Yu {c:Bool} (hi:iY ol i=some ⟨d,op,ty,pos,af,some gd⟩) (hv:mH ol (cy (Oper.looksAt ol.toArray ⟨d,op,ty,pos,af,some gd⟩) 0 fr) gd.1=some (some c)) (hc:c=!gd.2) (h:GO P ol.toArray Q r aU (bm fr d (.v undef)) Γ):GO P ol.toArray Q (.q i r) aU fr Γ :=
 GO.yp hi (fun Γ=>YQ.f hi (Ec hv hc)) h
theorem Yv (hi:iY ol i=some ⟨d,op,ty,pos,af,some gd⟩) (hv:mH ol (cy (Oper.looksAt ol.toArray ⟨d,op,ty,pos,af,some gd⟩) 0 fr) gd.1=some none) (h:GO P ol.toArray Q r aU (bm fr d (.v undef)) Γ):GO P ol.toArray Q (.q i r) aU fr Γ :=
 GO.yp hi (fun Γ=>YQ.f hi (Tg hv)) h
theorem Ib:∀ (fr:List GV) (ts:List Nat) (k t:Nat),k+t∈ts->cq (cy ts k fr) t=cq fr t
 | [],_,_,_,_=>rfl
 | g::fr,ts,k,0,h=>by
  have hc:ts.contains k=true:=List.contains_iff_mem.2 (by simpa using h);simp only [cy,hc,cq]
 | g::fr,ts,k,t+1,h=>by
  simp only [cy,cq];exact Ib fr ts (k+1) t (by rw [show k+1+t=k+(t+1) by omega];exact h)
theorem uF {o:Oper} {ops:Array Oper} {x:Operand} (h:x∈o.op.operands.toList):aS (cy (o.looksAt ops) 0 fr) x=aS fr x:=by
 cases x with
 | tmp t =>
  refine Ib fr _ 0 t ?_;rw [Nat.zero_add];refine List.mem_append_left _ (List.mem_filterMap.2 ⟨.tmp t,h,rfl⟩)
 | _=>rfl
theorem Yx {x:Operand} (hi:iY ol i=some ⟨d,.move x,ty,pos,af,none⟩) (h:GO P ol.toArray Q r aU (bm fr d (aS fr x)) Γ):GO P ol.toArray Q (.q i r) aU fr Γ :=
 OP hi (fun Γ=>by
  have:=YG.mv (P:=P) (x:=x) (Γ:=Γ) (fr:=cy (Oper.looksAt ol.toArray ⟨d,.move x,ty,pos,af,none⟩) 0 fr)
  rw [uF (by simp [Op.operands])] at this;exact this) h
theorem Yw {x:Operand} (hi:iY ol i=some ⟨d,.assign x,ty,pos,af,none⟩) (h:GO P ol.toArray Q r aU (bm fr d (aS fr x)) Γ):GO P ol.toArray Q (.q i r) aU fr Γ :=
 OP hi (fun Γ=>by
  have:=YG.sT (P:=P) (x:=x) (Γ:=Γ) (fr:=cy (Oper.looksAt ol.toArray ⟨d,.assign x,ty,pos,af,none⟩) 0 fr)
  rw [uF (by simp [Op.operands])] at this;exact this) h
theorem Xi {x:Operand} {c:Bool} (hi:iY ol i=some ⟨d,.move x,ty,pos,af,some gd⟩) (hv:mH ol (cy (Oper.looksAt ol.toArray ⟨d,.move x,ty,pos,af,some gd⟩) 0 fr) gd.1=some (some c)) (hc:c=gd.2) (h:GO P ol.toArray Q r aU (bm fr d (aS fr x)) Γ):GO P ol.toArray Q (.q i r) aU fr Γ :=
 Wv hi hv hc (fun Γ=>by
  have:=YG.mv (P:=P) (x:=x) (Γ:=Γ) (fr:=cy (Oper.looksAt ol.toArray ⟨d,.move x,ty,pos,af,some gd⟩) 0 fr)
  rw [uF (by simp [Op.operands])] at this;exact this) h
theorem Xh {c a b:Operand} {t:Bool} (hi:iY ol i=some ⟨d,.pick c a b,ty,pos,af,none⟩) (hc:aS (cy (Oper.looksAt ol.toArray ⟨d,.pick c a b,ty,pos,af,none⟩) 0 fr) c=.v (.bool t)) (ht:t=true) (h:GO P ol.toArray Q r aU (bm fr d (aS fr a)) Γ):GO P ol.toArray Q (.q i r) aU fr Γ :=
 OP hi (fun Γ=>by
  have:=YG.C8 (P:=P) (Γ:=Γ) (a:=a) (b:=b) hc ht
  rw [uF (by simp [Op.operands])] at this;exact this) h
theorem Xf {c a b:Operand} {t:Bool} (hi:iY ol i=some ⟨d,.pick c a b,ty,pos,af,none⟩) (hc:aS (cy (Oper.looksAt ol.toArray ⟨d,.pick c a b,ty,pos,af,none⟩) 0 fr) c=.v (.bool t)) (ht:t=false) (h:GO P ol.toArray Q r aU (bm fr d (aS fr b)) Γ):GO P ol.toArray Q (.q i r) aU fr Γ :=
 OP hi (fun Γ=>by
  have:=YG.C7 (P:=P) (Γ:=Γ) (a:=a) (b:=b) hc ht
  rw [uF (by simp [Op.operands])] at this;exact this) h
inductive iz (P:Program) (ops:Array Oper) (i:Nat) (aJ:List Ob):kq->kq->Prop
 | n:iz P ops i aJ [] []
 | w {j:Nat} {g:GV} {nV:List GV} {aU dA:kq} (hw:waits ops i j=true) (h:iz P ops i aJ aU dA):iz P ops i aJ ((j,g,nV)::aU) dA
 | y {j:Nat} {g:GV} {nV:List GV} {aU dA:kq} (hy:YQ P ops j g nV aJ) (h:iz P ops i aJ aU dA):iz P ops i aJ ((j,g,nV)::aU) ((j,g,nV)::dA)
theorem tD {ops:Array Oper} {q p:Nat × GV × List GV} (h:p∈stay ops i (q::aU)):(p=q/\waits ops i q.1=false)\/p∈stay ops i aU:=by
 simp only [stay,mem_filter] at h |-
 rcases List.mem_cons.1 h.1 with he | kH
 ·subst he;exact .inl ⟨rfl,by simpa using h.2⟩
 ·exact .inr ⟨kH,h.2⟩
theorem iz.spec {ops:Array Oper} {aJ:List Ob} {dA:kq} (h:iz P ops i aJ aU dA):(∀ p∈stay ops i aU,YQ P ops p.1 p.2.1 p.2.2 aJ)/\∀ p∈stay ops i aU,p∈dA:=by
 induction h with
 | n=>exact ⟨fun p hp=>(by cases hp),fun p hp=>(by cases hp)⟩
 | w hw h ih =>
  refine ⟨fun p hp=>?_,fun p hp=>?_⟩
  ·rcases tD hp with ⟨_,h2⟩ | kH
   ·simp only at h2;rw [hw] at h2;cases h2
   ·exact ih.1 p kH
  ·rcases tD hp with ⟨_,h2⟩ | kH
   ·simp only at h2;rw [hw] at h2;cases h2
   ·exact ih.2 p kH
 | y hy h ih =>
  refine ⟨fun p hp=>?_,fun p hp=>?_⟩
  ·rcases tD hp with ⟨he,_⟩ | kH
   ·subst he;exact hy
   ·exact ih.1 p kH
  ·rcases tD hp with ⟨he,_⟩ | kH
   ·subst he;exact mem_cons_self
   ·exact mem_cons_of_mem _ (ih.2 p kH)
def SV (fr:List GV):Option Tmp->Bool
 | none=>true
 | some t=>jb fr t
def eA (P:Program) (Q:List GV->List Ob->Prop) (ol:List Oper) (i:Nat) (r:Ot) (aU:kq) (fr:List GV) (d:Option Tmp) (bV:List GV) (aJ:List Ob):Prop :=
 ∃ g dA,bV=bm fr d g/\iz P ol.toArray i aJ aU dA/\GO P ol.toArray Q r dA (bm fr d g) aJ
theorem GA.of {o:Oper} {Kt:GV->List Ob->Prop} {R:List GV->List Ob->Prop} {ops:Array Oper} (hg:o.guard=none) (hd:SV fr o.dst=true) (hR:∀ bV aJ,R bV aJ->∃ g,bV=bm fr o.dst g/\Kt g aJ) (h:GL P Γ.length ops (aW R (fun _ _ _=>False)) [o] fr Γ):GA P o Kt fr Γ:=fun B K β w l hI hF=>by
 have h1:=h (cur K β Γ w) K β w l rfl hI.here hF;obtain ⟨d,op,ty,pos,af,gd⟩:=o;simp only at hg;subst hg;simp only at h1 hd;unfold WL wpList at h1;rw [if_pos (by rfl)] at h1
 rcases h1 with h1 | ⟨_,a0,w0,hf⟩
 ·rw [<-mz];refine Vc h1 (fun c a w' hf=>?_) (fun a w' hf=>?_) ?_ ?_
  ·obtain ⟨l',_,_,_,_,_,_,_,hq⟩:=hf;exact hq
  ·obtain ⟨l',_,_,_,_,_,_,_,hq⟩:=hf;exact hq
  ·rintro v w' ⟨l',hl,K',bM,bV,aJ,bf,ur,hq⟩;obtain ⟨g,rfl,hk⟩:=hR bV aJ hq;rw [oB] at hl
   have iV:put l d v=l':=by
    have:=congrArg (fun a:Act=>a.tmps.toList) hl;simpa [act] using this
   subst iV;refine ⟨K',bM,g,aJ,bf.kle,bf.ble,hI.MY bf,fun Lx l2 h2=>?_,hk⟩
   cases d with
   | none=>exact h2
   | some t =>
    refine h2.eK t ?_;have hv:=ur.nth t;have h3:nth (put l (some t) v) t=v:=rI (lR hF hd) v
    have h4:cq (bm fr (some t) g) t=g:=by
     have gen:∀ (fr:List GV) (t:Nat),jb fr t=true->cq (bo fr t g) t=g:=by
      intro fr
      induction fr with
      | nil=>intro t h;cases h
      | cons x fr ih=>intro t h;cases t with | zero=>rfl | succ t=>exact ih t h
     exact gen fr t hd
    rw [h3,h4] at hv;exact hv
  ·rintro d' w' ⟨l',hl,_⟩;have:=congrArg (fun a:Act=>a.defers) hl
   cases d <;> simp [act,Act.put] at this
 ·obtain ⟨l',_,_,_,_,_,_,_,hq⟩:=hf;exact hq.elim
theorem eA.kt {bV:List GV} {aJ:List Ob} (h:eA P Q ol i r aU fr d bV aJ):∃ g,bV=bm fr d g/\((∀ p∈stay ol.toArray i aU,YQ P ol.toArray p.1 p.2.1 p.2.2 aJ)/\GO P ol.toArray Q r (stay ol.toArray i aU) (bm fr d g) aJ):=by
 obtain ⟨g,dA,h1,h2,h3⟩:=h;obtain ⟨h4,h5⟩:=h2.spec;exact ⟨g,h1,h4,GO.more r _ _ _ _ (fun p hp=>.inl (h5 p hp)) h3⟩
theorem OA (hi:iY ol i=some ⟨d,op,ty,pos,af,none⟩) (hd:SV fr d=true) (h:GL P Γ.length ol.toArray (aW (eA P Q ol i r aU fr d) (fun _ _ _=>False)) [⟨d,op,ty,pos,af,none⟩] fr Γ):GO P ol.toArray Q (.a i r) aU fr Γ:=by
 refine ⟨_,true,p8 hi,rfl,?_⟩
 exact (GA.of (o:=⟨d,op,ty,pos,af,none⟩) rfl hd (fun bV aJ hq=>eA.kt hq) h).mono fun g aJ ⟨h1,h2⟩=>⟨h1,by rw [ui hi];exact h2⟩
theorem Qa {c:Bool} (hi:iY ol i=some ⟨d,op,ty,pos,af,some gd⟩) (hd:SV fr d=true) (hv:mH ol fr gd.1=some (some c)) (hc:c=gd.2) (h:GL P Γ.length ol.toArray (aW (eA P Q ol i r aU fr d) (fun _ _ _=>False)) [⟨d,op,ty,pos,af,none⟩] fr Γ):GO P ol.toArray Q (.a i r) aU fr Γ:=by
 refine ⟨_,true,p8 hi,Bx hv hc,?_⟩
 have:=(GA.of (o:=⟨d,op,ty,pos,af,none⟩) rfl hd (fun bV aJ hq=>eA.kt hq) h).mono (DL:=fun g aJ=>(∀ p∈stay ol.toArray i aU,YQ P ol.toArray p.1 p.2.1 p.2.2 aJ)/\GO P ol.toArray Q r (stay ol.toArray i aU) (bm fr (kv ol.toArray i) g) aJ) fun g aJ ⟨h1,h2⟩=>⟨h1,by rw [ui hi];exact h2⟩
 exact this
theorem Ys {c:Bool} {dA:kq} (hi:iY ol i=some ⟨d,op,ty,pos,af,some gd⟩) (hv:mH ol fr gd.1=some (some c)) (hc:c=!gd.2) (hs:iz P ol.toArray i Γ aU dA) (h:GO P ol.toArray Q r dA (bm fr d (.v undef)) Γ):GO P ol.toArray Q (.a i r) aU fr Γ :=
 ⟨_,false,p8 hi,Ec hv hc,hs.spec.1,by rw [ui hi];exact GO.more r _ _ _ _ (fun p hp=>.inl (hs.spec.2 p hp)) h⟩
theorem Yt {dA:kq} (hi:iY ol i=some ⟨d,op,ty,pos,af,some gd⟩) (hv:mH ol fr gd.1=some none) (hs:iz P ol.toArray i Γ aU dA) (h:GO P ol.toArray Q r dA (bm fr d (.v undef)) Γ):GO P ol.toArray Q (.a i r) aU fr Γ :=
 ⟨_,false,p8 hi,Tg hv,hs.spec.1,by rw [ui hi];exact GO.more r _ _ _ _ (fun p hp=>.inl (hs.spec.2 p hp)) h⟩
theorem GO.nil (h:Q fr Γ):GO P ol.toArray Q .nil aU fr Γ:=h
theorem eA.mk {dA:kq} (hs:iz P ol.toArray i Γ aU dA) {nV:List GV} (h:GO P ol.toArray Q r dA (bm nV d g) Γ):eA P Q ol i r aU nV d (bm nV d g) Γ:=⟨g,dA,rfl,hs,h⟩
theorem nG {ops:Array Oper} {bV:List GV} {aJ:List Ob} (h1:fr=bV) (h2:Γ=aJ) (h:GO P ops Q r aU bV aJ):GO P ops Q r aU fr Γ:=by subst h1;subst h2;exact h
theorem Wu {ops:Array Oper} {bV:List GV} (h1:fr=bV) (h:GO P ops Q r aU bV Γ):GO P ops Q r aU fr Γ:=by subst h1;exact h
end
theorem GW.range {P:Program} {m:Nat} {Q:dH} {fr:List GV} {Γ:List Ob} {B C r1 r2:Nat} {body:Code} {tb ti tn ta:Tmp} {T1 T2 T3 T4 T5 T6 T7:TypeId} {p1 p2 p3:String} {a1 a2 a3:Array Edge} (n:Nat) (I:Nat->List GV->List Ob->Prop)
  (h0:ym m (I 0) fr Γ) (hn:n<=1099511627776)
  (hI:∀ k fr Γ,I k fr Γ->cq fr ti=.v (ii k)/\cq fr tn=.v (ii n)/\jb fr tb=true)
  (VG:∀ k fr Γ,k < n->I k fr Γ->GW P m body (aZ C (aW (fun bV aJ=>cq bV ti=.v (ii k)/\jb bV ta=true/\ym m (I (k+1)) (bo (bo bV ta (.v (ii ((k+1:Nat):Int)))) ti (.v (ii ((k+1:Nat):Int)))) aJ) (aZ B Q))) (bo fr tb (.v (.bool true))) Γ)
  (ot:∀ fr Γ,I n fr Γ->Q .normal (bo fr tb (.v (.bool false))) Γ) :
  GW P m (.loop (.seq (.region r1 [(⟨some tb,.binOp .lss T1 (.tmp ti) (.tmp tn) T2,T3,p1,a1,none⟩:Oper)].toArray false) (.seq (.cond (.tmp tb) .skip (.exit B))
   (.seq (.block C body) (.region r2 [(⟨some ta,.binOp .add T4 (.tmp ti) (.const (.int .i64 1)) T5,T6,p2,a2,none⟩:Oper),⟨some ti,.move (.tmp ta),T7,p3,a3,none⟩].toArray false))))) (aZ B Q) fr Γ:=by
 have yD:∀ (fr:List GV) (t:Nat) (g:GV),jb fr t=true->cq (bo fr t g) t=g:=by
  intro fr
  induction fr with
  | nil=>intro t g h;cases h
  | cons x fr ih=>intro t g h;cases t with | zero=>rfl | succ t=>exact ih t g h
 refine GW.loop (fun k:Nat=>n - k) (fun k fr Γ=>k<=n/\I k fr Γ) 0 ?_ ?_
 ·obtain ⟨bV,aJ,hw,h⟩:=h0;exact ⟨bV,aJ,hw,Nat.zero_le _,h⟩
 rintro k fr Γ ⟨hk,hi⟩;obtain ⟨h1,h2,h3⟩:=hI k fr Γ hi;refine GW.seq (GW.region (GL.q (YG.go (v:=.bool (decide ((k:Int) < (n:Int)))) ?_) (GL.nil (aK ?_))))
 ·simp only [Tm,Xw.go,aS,h1,h2,BA,Jh,ii,J5,Ji]
 by_cases ar:k < n
 ·have hd:decide ((k:Int) < (n:Int))=true:=by simpa using ar
  simp only [bm,hd];refine GW.seq (P7 (yD fr tb _ h3) rfl (GW.skip (aK (GW.seq (GW.block ?_)))));refine GW.mono (VG k fr Γ ar hi) ?_;intro e bV aJ hq;have key:∀ bV aJ,(cq bV ti=.v (ii k)/\jb bV ta=true/\ym m (I (k+1)) (bo (bo bV ta (.v (ii ((k+1:Nat):Int)))) ti (.v (ii ((k+1:Nat):Int)))) aJ) ->
    GW P m (.region r2 [(⟨some ta,.binOp .add T4 (.tmp ti) (.const (.int .i64 1)) T5,T6,p2,a2,none⟩:Oper),⟨some ti,.move (.tmp ta),T7,p3,a3,none⟩].toArray false) (aW (fun bV aJ=>∃ y:Nat,ym m (fun fr Γ=>y<=n/\I y fr Γ) bV aJ/\n - y < n - k) (aZ B Q)) bV aJ:=by
   rintro bV aJ ⟨h5,h6,Lx,Dk,hw,h7⟩;refine GW.region (GL.q (YG.wC (a:=k) h5 rfl (by omega)) (GL.q YG.mv (GL.nil (aK ⟨k+1,⟨Lx,Dk,?_,ar,h7⟩,by omega⟩))));have h8:aS (bo bV ta (.v (ii ((k+1:Nat):Int)))) (.tmp ta)=.v (ii ((k+1:Nat):Int)):=yD bV ta _ h6;simp only [bm,h8];exact hw
  cases e with
  | normal=>exact key bV aJ hq
  | exit id =>
   simp only [aZ] at hq |-;split <;> rename_i hh
   ·rw [if_pos hh] at hq;exact key bV aJ hq
   ·rw [if_neg hh] at hq;exact hq
  | goto _=>exact hq
  | ret=>exact hq
  | panic _=>exact hq
  | outgrown=>exact hq
 ·have uw:k=n:=by omega
  have hd:decide ((k:Int) < (n:Int))=false:=by simpa using ar
  simp only [bm,hd];refine GW.seq (P6 (yD fr tb _ h3) rfl (GW.exit (Ef (Ef (HD ?_)))));subst uw;exact ot fr Γ hi
end Go.Xg
namespace Go.Xg
open Go.RowKit Go.Xw
def lK (g g':GV):Prop:=∀ K β x,Rel K β x g->Rel K β x g'
def kp (gs hs:List GV):Prop:=∀ K β vs,aY K β vs gs->aY K β vs hs
theorem lK.refl {g:GV}:lK g g:=fun _ _ _ h=>h
theorem lK.U {g:GV}:lK g .U:=fun _ _ _ _=>.U _
theorem lK.nil {k:Nat}:lK (.v (.slice none 0 0)) (.sl k []):=fun K β x h=>by
 rw [Rel.eo h];exact .sl0 _ _ _
theorem kp.nil:kp [] []:=fun _ _ _ h=>h
theorem kp.refl {gs:List GV}:kp gs gs:=fun _ _ _ h=>h
theorem kp.cons {g h:GV} {gs hs:List GV} (h1:lK g h) (h2:kp gs hs):kp (g::gs) (h::hs):=fun K β vs hv=>by
 cases vs with
 | nil=>have:=hv.1;simp at this
 | cons v vs=>obtain ⟨a,b⟩:=hv.mZ;exact .cons (h1 K β v a) (h2 K β vs b)
theorem lK.agg {gs hs:List GV} (h:kp gs hs):lK (.agg gs) (.agg hs):=fun K β x hx=>by
 cases hx with
 | agg vs _ hl h'=>obtain ⟨a,b⟩:=h K β vs ⟨hl,h'⟩;exact .agg vs hs a b
theorem lK.tup {gs hs:List GV} (h:kp gs hs):lK (.tup gs) (.tup hs):=fun K β x hx=>by
 cases hx with
 | tup vs _ hl h'=>obtain ⟨a,b⟩:=h K β vs ⟨hl,h'⟩;exact .tup vs hs a b
inductive SG:List GV->List GV->Prop
 | nil:SG [] []
 | cons {f g:GV} {fs gs:List GV} (h:lK f g) (t:SG fs gs):SG (f::fs) (g::gs)
section
variable {P:Program} {m:Nat} {Q:dH} {fr:List GV} {Γ:List Ob} {ops:Array Oper} {rest:List Oper} {d:Option Tmp} {op:Op} {ty:TypeId} {pos:String} {af:Array Edge}
theorem Wk.cells (i:Nat) {E:TypeId} {cs ds:List GV} (hi:Γ[i]?=some (.box E cs)) (h:kp cs ds):Wk m fr Γ fr (oset Γ i (.box E ds)):=fun B K β w l _ hI hF=>by
 rw [ba];refine ⟨K,β,⟨hI.ext,hI.kle,hI.ble,hI.loc,hI.fz,fun j x hj=>?_,fun j hj=>hI.out j (by simpa using hj),hI.dis,hI.own,hI.kn,hI.tab⟩,hF⟩;rw [getElem?_set] at hj;split at hj
 ·rename_i fw;split at hj
  ·cases hj;subst fw
   obtain ⟨b,vs,h1,h2,h3,h4⟩:=hI.ob i _ hi;exact ⟨b,vs,h1,h2,h K β vs h3,h4⟩
  ·cases hj
 ·exact hI.ob j x hj
theorem GL.zS {f:FuncId} [hf:aD P f] (aM:List Nat) {args:List Operand} {lW:Array TypeId} {gs:List GV} {gy:List Ob} {R:GV->List Ob->Prop} (hc:GC P f gs gy R) (ha:kp (args.map (aS fr)) (kY (bN aM Γ.length) gs)) (ew:gR aM Γ.length=true)
  (bu:seen (bN aM Γ.length) Γ aM gy) (h:∀ g aJ,R g aJ->aM.length<=aJ.length/\GL P m ops Q rest (bm fr d (dk (bN aM Γ.length) g)) (dJ Γ aM (aJ.map (Ob.dk (bN aM Γ.length))))) :
  GL P m ops Q (⟨d,.call ⟨.value (.func f),args.toArray,lW⟩,ty,pos,af,none⟩::rest) fr Γ :=
 GL.calls (vs:=fun l=>args.map (ev l)) (fun K β w l hF=>⟨ha K β _ (hF.args args),by simp [execOp,resolve,ev,Deferred.ofValue,invoke,kZ]⟩) ew bu hc h
theorem GL.Vr {f:FuncId} [hf:aD P f] (aM:List Nat) {args:List Operand} {lW:Array TypeId} {gs:List GV} {gy qp:List Ob} {g:GV} (hc:GF P f gs gy g qp) (ha:kp (args.map (aS fr)) (kY (bN aM Γ.length) gs)) (ew:gR aM Γ.length=true)
  (bu:seen (bN aM Γ.length) Γ aM gy) (hl:Nat.ble aM.length qp.length=true) (h:GL P m ops Q rest (bm fr d (dk (bN aM Γ.length) g)) (dJ Γ aM (qp.map (Ob.dk (bN aM Γ.length))))) :
  GL P m ops Q (⟨d,.call ⟨.value (.func f),args.toArray,lW⟩,ty,pos,af,none⟩::rest) fr Γ :=
 GL.zS aM hc ha ew bu fun g' aJ ⟨h1,h2⟩=>by subst h1;subst h2;exact ⟨by simpa using hl,h⟩
end
section
variable {P:Program} {fr:List GV} {Γ:List Ob} {g:GV}
theorem K.bin {o:BinOp} {t t':TypeId} {x y:Operand} (h:YG P (.binOp o t x y t') fr Γ g):YG P (.binOp o t x y t') fr Γ g:=h
theorem K.ld {t:TypeId} {x:Operand} (h:YG P (.load t x) fr Γ g):YG P (.load t x) fr Γ g:=h
theorem K.wQ {t:TypeId} {x:Operand} {i:Nat} (h:YG P (.fieldAddr t x i) fr Γ g):YG P (.fieldAddr t x i) fr Γ g:=h
theorem K.len {t:TypeId} {x:Operand} (h:YG P (.call ⟨.builtin .len,#[x],#[t]⟩) fr Γ g):YG P (.call ⟨.builtin .len,#[x],#[t]⟩) fr Γ g:=h
theorem K.ML {x:Operand} (h:YG P (.nilCheck x) fr Γ g):YG P (.nilCheck x) fr Γ g:=h
theorem K.idx {t:TypeId} {x y:Operand} (h:YG P (.indexAddr t x y) fr Γ g):YG P (.indexAddr t x y) fr Γ g:=h
theorem K.pick {a b c:Operand} (h:YG P (.pick a b c) fr Γ g):YG P (.pick a b c) fr Γ g:=h
theorem K.M7 {t:TypeId} {x:Operand} {a b c:Option Operand} (h:YG P (.slice t x a b c) fr Γ g):YG P (.slice t x a b c) fr Γ g:=h
theorem K.pk {f:Fn} {a b:Array Operand} (h:YG P (.makeFunc f a b) fr Γ g):YG P (.makeFunc f a b) fr Γ g:=h
end
section
variable {P:Program} {fn:Func} {m:Nat} {fr:List GV} {Γ aJ:List Ob} {e:Exit} {g:GV}
theorem zY {R:GV->List Ob->Prop} (h:r7 P fn m (fun x Δ=>∃ y,lK x y/\R y Δ) e fr Γ):r7 P fn m R e fr Γ :=
 ⟨h.1,fun B K β w l hm hI hF=>by
  obtain ⟨v,K',bM,x,Δ,h1,h2,h3,y,h4,h5⟩:=h.2 B K β w l hm hI hF
  exact ⟨v,K',bM,y,Δ,h1,h2,h4 _ _ _ h3,h5⟩⟩
end
end Go.Xg
