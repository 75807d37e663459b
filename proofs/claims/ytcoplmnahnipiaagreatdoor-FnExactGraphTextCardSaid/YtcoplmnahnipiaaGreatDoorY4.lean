/- Part 4 of proofs that are told in their last texts. -/
import Derived.WalkKit
import Derived.KernelRfl
import Derived.Orders
open List (all_cons eq_nil_of_length_eq_zero flatten_cons getElem?_append_left getElem?_drop getElem?_map getElem?_set getElem?_take length_cons map_nil map_toArray mem_cons_of_mem mem_cons_self mem_filter mem_of_getElem? size_toArray)
set_option linter.unusedVariables false
set_option linter.unusedSimpArgs false
set_option maxRecDepth 100000
namespace Go.Xw
open Go.RowKit
def nth:List Value->Nat->Value
 | [],_=>undef
 | v::_,0=>v
 | _::l,n+1=>nth l n
def eK:List Value->Nat->Value->List Value
 | [],_,_=>[]
 | _::l,0,v=>v::l
 | x::l,n+1,v=>x::eK l n v
def ev (l:List Value):Operand->Value
 | .tmp t=>nth l t
 | .const v=>v
 | .global g=>.pointer (some ⟨g,0,none⟩)
 | .func f=>.func (.func f) #[] #[]
def put (l:List Value) (d:Option Tmp) (v:Value):List Value :=
 match d with | some d=>eK l d v | none=>l
theorem jz (l:List Value) (t:Nat):l.toArray.getD t undef=nth l t:=by
 induction l generalizing t with
 | nil=>simp [nth]
 | cons x l ih =>
  cases t with
  | zero=>simp [nth]
  | succ t=>rw [nth,<-ih];simp [Array.getD]
theorem yu (l:List Value) (t:Nat) (v:Value):l.toArray.setIfInBounds t v=(eK l t v).toArray:=by
 have h:∀ (l:List Value) t,eK l t v=l.set t v:=by
  intro l
  induction l with
  | nil=>intro t;rfl
  | cons x l ih=>intro t;cases t with | zero=>rfl | succ t=>simp [eK,ih]
 rw [h];simp
def act (l:List Value):Act:=⟨l.toArray,[]⟩
theorem mG (l:List Value):(act l).eval=ev l:=by
 funext x;cases x <;> first | rfl | exact jz l _
theorem oJ (l:List Value) (d:Option Tmp) (v:Value):(act l).put d v=act (put l d v):=by
 cases d with
 | none=>rfl
 | some d=>simp only [act,Act.put,put];rw [yu]
abbrev kV:=Exit->List Value->World->Prop
def lift (Q:kV):Exit->Act->World->Prop:=fun e a w=>∃ l,a=act l/\Q e l w
def W (P:Program) (c:Code) (Q:kV) (l:List Value) (w:World):Prop:=c.wp P (lift Q) (act l) w
def WL (P:Program) (ops:Array Oper) (Q:kV) (rest:List Oper) (l:List Value) (w:World):Prop :=
 wpList P ops (lift Q) rest (act l) w
def Xo (next:List Value->World->Prop) (Q:kV):kV
 | .normal,l,w=>next l w
 | e,l,w=>Q e l w
def UA (id:Nat) (Q:kV):kV
 | .exit BI,l,w=>if BI=id then Q .normal l w else Q (.exit BI) l w
 | e,l,w=>Q e l w
section
variable {P:Program} {Q:kV} {l:List Value} {w:World} {ops:Array Oper} {rest:List Oper}
theorem W.seq {x y:Code} (h:W P x (Xo (W P y Q) Q) l w):W P (.seq x y) Q l w:=by
 refine wp_seq (wp_mono h ?_);rintro e a w ⟨l,rfl,hq⟩
 cases e <;> first | exact hq | exact ⟨l,rfl,hq⟩
theorem W.skip (h:Q .normal l w):W P .skip Q l w:=wp_skip ⟨l,rfl,h⟩
theorem W.exit {n:Nat} (h:Q (.exit n) l w):W P (.exit n) Q l w:=wp_exit ⟨l,rfl,h⟩
theorem W.ret (h:Q .ret l w):W P .ret Q l w:=wp_ret ⟨l,rfl,h⟩
theorem W.block {id:Nat} {c:Code} (h:W P c (UA id Q) l w):W P (.block id c) Q l w:=by
 refine wp_block (wp_mono h ?_);rintro e a w ⟨l,rfl,hq⟩
 cases e with
 | exit BI =>
  simp only [UA] at hq;simp only [Exit.inBlock];split <;> rename_i hh
  ·rw [if_pos hh] at hq;exact ⟨l,rfl,hq⟩
  ·rw [if_neg hh] at hq;exact ⟨l,rfl,hq⟩
 | normal=>exact ⟨l,rfl,hq⟩
 | goto _=>exact ⟨l,rfl,hq⟩
 | ret=>exact ⟨l,rfl,hq⟩
 | panic _=>exact ⟨l,rfl,hq⟩
 | outgrown=>exact ⟨l,rfl,hq⟩
theorem W.cond {c:Operand} {x y:Code} {t:Bool} (hc:ev l c=.bool t) (ht:t=true->W P x Q l w) (hf:t=false->W P y Q l w):W P (.cond c x y) Q l w:=by
 refine wp_cond_split (t:=t) (by rw [mG];exact hc) ht hf
theorem W.mono {c:Code} {Q':kV} (h:W P c Q l w) (hq:∀ e l w,Q e l w->Q' e l w):W P c Q' l w :=
 wp_mono h fun _ _ _ ⟨l,ha,q⟩=>⟨l,ha,hq _ _ _ q⟩
theorem W.loop {c:Code} {α:Type} (μ:α->Nat) (I:α->List Value->World->Prop) (x:α) (h0:I x l w)
  (round:∀ x l w,I x l w->W P c (Xo (fun l' w'=>∃ y,I y l' w'/\μ y < μ x) Q) l w):W P (.loop c) Q l w:=by
 have key:∀ n x l w,μ x=n->I x l w->∀ (b:Frame) (k:List Item) (cs:List Frame),
   ∃ e a' w',lift Q e a' w'/\Arrives P (lone (b.at (act l) (.code c::.inLoop c::k)) cs w) b k cs e a' w':=by
  intro n
  induction n using Nat.strongRecOn with
  | _ n ih =>
   intro x l w hn hI b k cs;obtain ⟨e,aag,C7,hq,xC⟩:=round x l w hI b (.inLoop c::k) cs;obtain ⟨CJ,rfl,hq⟩:=hq
   cases e with
   | normal =>
    obtain ⟨y,VP,aq⟩:=hq;obtain ⟨XB,Xy,Yz,VY,R7⟩:=ih (μ y) (hn ▸ aq) y CJ C7 rfl VP b k cs;exact ⟨XB,Xy,Yz,VY,.of_steps (Steps.trans xC (.one step_inLoop)) R7⟩
   | exit id=>exact ⟨_,_,C7,⟨CJ,rfl,hq⟩,.pass (x:=.inLoop c) rfl (fun _ _=>.inl (by simp)) xC⟩
   | goto _=>exact ⟨_,_,C7,⟨CJ,rfl,hq⟩,.pass (x:=.inLoop c) rfl (fun _ _=>.inl (by simp)) xC⟩
   | ret=>exact ⟨_,_,C7,⟨CJ,rfl,hq⟩,.pass (x:=.inLoop c) rfl (fun _ _=>.inl (by simp)) xC⟩
   | panic ch=>exact ⟨_,_,C7,⟨CJ,rfl,hq⟩,.pass (x:=.inLoop c) rfl (fun _ _=>.inl (by simp)) xC⟩
   | outgrown=>exact ⟨_,_,C7,⟨CJ,rfl,hq⟩,.pass (x:=.inLoop c) rfl (fun _ _=>.inl (by simp)) xC⟩
 intro b k cs;obtain ⟨e,a',w',hq,xC⟩:=key _ x l w rfl h0 b k cs;exact ⟨e,a',w',hq,.of_steps (.one step_loop) xC⟩
theorem W.region {id:Nat} {ol:List Oper} (h:WL P ol.toArray Q ol l w):W P (.region id ol.toArray false) Q l w :=
 wp_region_lit h
theorem WL.nil (h:Q .normal l w):WL P ops Q [] l w:=⟨l,rfl,h⟩
theorem WL.val {d:Option Tmp} {op:Op} {ty:TypeId} {pos:String} {af:Array Edge} {v:Value} {w':World}
  (hr:(execOp (ev l) ⟨d,op,ty,pos,af,none⟩).run P w=.ok (.value v) w')
  (h:WL P ops Q rest (put l d v) w'):WL P ops Q (⟨d,op,ty,pos,af,none⟩::rest) l w:=by
 refine wpList_plain rfl fun K hK=>?_
 simp only [Oper.wp,mG,hr,Oper.upon_value,oJ];exact hK _ _ h
theorem WL.skp {d:Option Tmp} {op:Op} {ty:TypeId} {pos:String} {af:Array Edge} {w':World}
  (hr:(execOp (ev l) ⟨d,op,ty,pos,af,none⟩).run P w=.ok .skip w')
  (h:WL P ops Q rest (put l d undef) w'):WL P ops Q (⟨d,op,ty,pos,af,none⟩::rest) l w:=by
 refine wpList_plain rfl fun K hK=>?_
 simp only [Oper.wp,mG,hr,Oper.upon_skip,oJ];exact hK _ _ h
theorem WL.gt {d:Option Tmp} {op:Op} {ty:TypeId} {pos:String} {af:Array Edge} {g:Option (Nat × Bool)}
  (hw:Region.wanted ⟨d,op,ty,pos,af,g⟩ (yielded ops (act l).tmps)=true)
  (h:WL P ops Q (⟨d,op,ty,pos,af,none⟩::rest) l w):WL P ops Q (⟨d,op,ty,pos,af,g⟩::rest) l w:=by
 unfold WL wpList at *;rw [if_pos hw];rw [if_pos (by rfl)] at h;exact h
theorem WL.gf {d:Option Tmp} {op:Op} {ty:TypeId} {pos:String} {af:Array Edge} {g:Option (Nat × Bool)}
  (hw:Region.wanted ⟨d,op,ty,pos,af,g⟩ (yielded ops (act l).tmps)=false)
  (h:WL P ops Q rest (put l d undef) w):WL P ops Q (⟨d,op,ty,pos,af,g⟩::rest) l w:=by
 unfold WL wpList;rw [if_neg (by rw [hw];decide)];show wpList P ops (lift Q) rest ((act l).put d undef) w;rw [oJ];exact h
end
section
variable {next:List Value->World->Prop} {Q:kV} {l:List Value} {w:World} {id BI:Nat}
end
end Go.Xw
namespace Go.Xw
open Go.RowKit
structure Ext (S:Nat->Prop) (w w':World):Prop where
 os:w'.os=w.os
 tape:w'.tape=w.tape
 output:w'.output=w.output
 size:w.heap.size<=w'.heap.size
 block:∀ k,k < w.heap.size->¬ S k->w'.heap[k]?=w.heap[k]?
abbrev gP:Nat->Prop:=fun _=>False
theorem Ext.refl {S:Nat->Prop} (w:World):Ext S w w:=⟨rfl,rfl,rfl,Nat.le_refl _,fun _ _ _=>rfl⟩
theorem Ext.trans {S:Nat->Prop} {a b c:World} (h:Ext S a b) (k:Ext S b c):Ext S a c :=
 ⟨k.os.trans h.os,k.tape.trans h.tape,k.output.trans h.output,Nat.le_trans h.size k.size,
  fun i hi hs=>(k.block i (Nat.lt_of_lt_of_le hi h.size) hs).trans (h.block i hi hs)⟩
theorem Ext.step {S0 S:Nat->Prop} {a b c:World} (h:Ext S0 a b) (k:Ext S b c) (hs:∀ j,S j->a.heap.size<=j\/S0 j):Ext S0 a c :=
 ⟨k.os.trans h.os,k.tape.trans h.tape,k.output.trans h.output,Nat.le_trans h.size k.size,
  fun i hi hn=>(k.block i (Nat.lt_of_lt_of_le hi h.size) fun Ul=>by
   rcases hs i Ul with h1 | h1
   ·omega
   ·exact hn h1).trans (h.block i hi hn)⟩
theorem Ext.mono {S S':Nat->Prop} {a b:World} (h:Ext S a b) (hs:∀ k,k < a.heap.size->S k->S' k):Ext S' a b :=
 ⟨h.os,h.tape,h.output,h.size,fun i hi hn=>h.block i hi fun x=>hn (hs i hi x)⟩
theorem Ext.blk {S:Nat->Prop} {a b:World} (h:Ext S a b) {k:Nat} {o:Obj} (hv:a.heap[k]?=some o) (hs:¬ S k):b.heap[k]?=some o:=by
 rw [h.block k (by have:=(Array.getElem?_eq_some_iff.1 hv).1;exact this) hs,hv]
theorem rp {w:World} {k:Nat} {o:Obj} (hv:w.heap[k]?=some o):k < w.heap.size:=(Array.getElem?_eq_some_iff.1 hv).1
theorem LA {w:World} {b o:Nat} {cs:Array Value} {E:TypeId} {fz:Nat × Nat} {v:Value} (hb:w.heap[b]?=some (.cells cs E fz)) (hv:cs[o]?=some v):w.cell? ⟨b,o,none⟩=some v:=by
 rw [cell_of_row w b o cs E fz hb,hv]
theorem Ext.below {a b:World} (h:Ext gP a b):Below a.heap.size a b:=⟨h.os,h.tape,h.output,h.size,fun k hk=>h.block k hk (fun x=>x)⟩
structure uK (w w':World) (b:Nat) (o:Obj):Prop where
 fresh:b=w.heap.size
 size:w'.heap.size=b+1
 blk:w'.heap[b]?=some o
 ext:Ext gP w w'
theorem uK.of (w:World) (o:Obj):uK w (w.alloc o) w.heap.size o :=
 ⟨rfl,by simp,heap_alloc_new w o,⟨rfl,rfl,rfl,by simp,fun k hk _=>Below.heap_alloc _ _ _ hk⟩⟩
def yx:TypeDesc->Bool
 | .struct _=>true
 | .array _ _=>true
 | _=>false
class Ty (P:Program) (t:TypeId) (agg:outParam Bool) (k:outParam Nat):Prop where
 und:(P.underlying t).map yx=some agg
 siz:(P.info? t).map (·.size)=some k
class mq (P:Program) (t:TypeId) (e:outParam TypeId) (k:outParam Nat):Prop where
 und:P.underlying t=some (.slice e)
 siz:(P.info? e).map (·.size)=some k
class pd (P:Program) (t:TypeId):Prop where
 und:P.underlying t=some .string
def JW (P:Program) (s:TypeId) (i:Nat) (off:Nat) (k:Nat) (agg:Bool):Bool :=
 match P.underlying s with
 | some (.struct fs)=>match fs[i]? with
  | some f=>f.offset==off&&(match P.info? f.type with | some x=>x.size==k | none=>false)&&k != 0&&((P.underlying f.type).map yx==some agg)
  | none=>false
 | _=>false
class de (P:Program) (s:TypeId) (i:Nat) (off:outParam Nat) (k:outParam Nat) (agg:outParam Bool):Prop where
 is:JW P s i off k agg=true
section
variable {P:Program} {w:World}
theorem DY {t:TypeId} {agg:Bool} {k:Nat} [h:Ty P t agg k]:(isAgg t).run P w=.ok agg w:=by
 obtain ⟨hu,_⟩:=h
 cases hd:P.underlying t with
 | none=>simp [hd] at hu
 | some d =>
  rw [hd] at hu;unfold isAgg;rw [Sem.run_bind,run_underlying hd w]
  cases d <;> simp_all [yx]
theorem im {t:TypeId} {k:Nat} (h:(P.info? t).map (·.size)=some k):(sizeOf t).run P w=.ok k w:=by
 cases hq:P.info? t with
 | none=>simp [hq] at h
 | some i=>simp [hq] at h;simp [sizeOf,typeInfo,hq,h]
theorem pf (b o n:Nat):(⟨b,o,none⟩:Addr).add n=⟨b,o+n,none⟩:=by
 unfold Addr.add;split
 ·rename_i h;subst h;rfl
 ·rfl
theorem Gt {t:TypeId} [h:Ty P t false 1] {a:Addr} {v:Value} (hv:w.cell? a=some v):(loadVar t a).run P w=.ok v w:=by
 unfold loadVar;rw [Sem.run_bind,DY (agg:=false) (k:=1)];simp [hv]
theorem mW {t:TypeId} {k:Nat} [h:Ty P t true k] {b o:Nat} {vs:List Value} (hl:vs.length=k) (hv:∀ j v,vs[j]?=some v->w.cell? ⟨b,o+j,none⟩=some v) :
  (loadVar t ⟨b,o,none⟩).run P w=.ok (.agg vs.toArray) w:=by
 unfold loadVar;rw [Sem.run_bind,DY (agg:=true) (k:=k)]
 have hc:(loadCells ⟨b,o,none⟩ k).run P w=.ok vs.toArray w:=by
  rw [<-hl]
  exact run_loadCells_list w _ vs fun j v hj=>by rw [pf];exact hv j v hj
 simp [im h.siz,hc]
end
def eg (P:Program) (l:List Value) (w:World) (op:Op) (v:Value):Prop :=
 ∀ (d:Option Tmp) (ty:TypeId) (pos:String) (af:Array Edge),(execOp (ev l) ⟨d,op,ty,pos,af,none⟩).run P w=.ok (.value v) w
theorem WL.v {P:Program} {Q:kV} {l:List Value} {w:World} {ops:Array Oper} {rest:List Oper} {d:Option Tmp} {op:Op} {ty:TypeId} {pos:String} {af:Array Edge} {v:Value}
  (hr:eg P l w op v) (h:WL P ops Q rest (put l d v) w):WL P ops Q (⟨d,op,ty,pos,af,none⟩::rest) l w:=WL.val (hr d ty pos af) h
section
variable {P:Program} {l:List Value} {w:World}
theorem R.mv {x:Operand}:eg P l w (.move x) ((ev l x)):=fun d ty pos af=>by simp [execOp]
theorem R.tN {x:Operand}:eg P l w (.assign x) ((ev l x)):=fun d ty pos af=>by simp [execOp]
theorem R.pick {c a b:Operand} {t:Bool} (hc:ev l c=.bool t):eg P l w (.pick c a b) ((if t then ev l a else ev l b)):=fun d ty pos af=>by simp [execOp,hc,asBool]
theorem R.KC {x:Operand} {a:Addr} (hx:ev l x=.pointer (some a)):eg P l w (.nilCheck x) ((.pointer (some a))):=fun d ty pos af=>by simp [execOp,hx]
theorem R.extract {x:Operand} {i:Nat} {vs:Array Value} {v:Value} (hx:ev l x=.tuple vs) (hv:vs[i]?=some v):eg P l w (.extract x i) (v):=fun d ty pos af=>by simp [execOp,hx,Instr.extract,hv]
theorem R.jc {fn:Fn} {first cap:Array Operand}:eg P l w (.makeFunc fn first cap) ((.func fn (first.map (ev l)) (cap.map (ev l)))):=fun d ty pos af=>by simp [execOp,Instr.makeFunc]
abbrev ah:=List UInt8
def sv (s:ah):Value:=.string ⟨s.toArray⟩
theorem toList_mk (s:ah):(⟨s.toArray⟩:ByteArray).toList=s:=by
 simp [ByteArray.toList_eq]
theorem vE (s:ah):(⟨s.toArray⟩:ByteArray).size=s.length:=by
 simp [ByteArray.size]
theorem Et (b:ByteArray):Value.string b=sv b.data.toList:=by
 simp [sv]
theorem Lz (a b:ah):(⟨a.toArray⟩:ByteArray)++⟨b.toArray⟩=⟨(a++b).toArray⟩:=by
 apply ByteArray.ext;simp
theorem extract_mk (s:ah) (i j:Nat):(⟨s.toArray⟩:ByteArray).extract i j=⟨((s.take j).drop i).toArray⟩:=by
 apply ByteArray.ext;simp [ByteArray.data_extract,List.take_drop]
 by_cases h:i<=j
 ·rw [Nat.add_sub_cancel' h]
 ·rw [List.drop_eq_nil_of_le (by simp;omega),List.drop_eq_nil_of_le (by simp;omega)]
theorem aae (x c:UInt8):((x.toNat:Int)==(c.toNat:Int))=(x==c):=by
 rw [Bool.eq_iff_iff];simp only [beq_iff_eq];constructor
 ·intro h;exact UInt8.toNat_inj.1 (by omega)
 ·rintro rfl;rfl
abbrev ii (n:Int):Value:=.int .i64 n
theorem C4 {n:Int} (h1 : -9223372036854775808<=n) (h2:n<=9223372036854775807):IntKind.i64.wrap n=n:=IntWalk.i64_in _ ⟨h1,h2⟩
theorem R.qu {x:Operand} {t:TypeId} [hT:pd P t] {s:ah} (hx:ev l x=sv s):eg P l w (.call ⟨.builtin .len,#[x],#[t]⟩) ((ii s.length)):=fun d ty pos af=>by simp [execOp,resolve,invoke,builtin,hx,sv,Builtin.len_,goInt,run_underlying hT.und,vE]
theorem R.Ks {x:Operand} {t e:TypeId} {k:Nat} [hT:mq P t e k] {a:Option Addr} {n c:Nat} (hx:ev l x=.slice a n c):eg P l w (.call ⟨.builtin .len,#[x],#[t]⟩) ((ii n)):=fun d ty pos af=>by simp [execOp,resolve,invoke,builtin,hx,Builtin.len_,goInt,run_underlying hT.und]
theorem R.add {x y:Operand} {t t':TypeId} {a b:Int} (hx:ev l x=ii a) (hy:ev l y=ii b) (h1 : -9223372036854775808<=a+b) (h2:a+b<=9223372036854775807):eg P l w (.binOp .add t x y t') ((ii (a+b))):=fun d ty pos af=>by simp [execOp,eqGuard,hx,hy,binOp,Op.intArith,C4 h1 h2]
theorem R.sub {x y:Operand} {t t':TypeId} {a b:Int} (hx:ev l x=ii a) (hy:ev l y=ii b) (h1 : -9223372036854775808<=a - b) (h2:a - b<=9223372036854775807):eg P l w (.binOp .sub t x y t') ((ii (a - b))):=fun d ty pos af=>by simp [execOp,eqGuard,hx,hy,binOp,Op.intArith,C4 h1 h2]
theorem R.mul {x y:Operand} {t t':TypeId} {a b:Int} (hx:ev l x=ii a) (hy:ev l y=ii b) (h1 : -9223372036854775808<=a * b) (h2:a * b<=9223372036854775807):eg P l w (.binOp .mul t x y t') ((ii (a * b))):=fun d ty pos af=>by simp [execOp,eqGuard,hx,hy,binOp,Op.intArith,C4 h1 h2]
theorem R.cat {x y:Operand} {t t':TypeId} {a b:ah} (hx:ev l x=sv a) (hy:ev l y=sv b) (h1:a.length+b.length<=9223372036854775807):eg P l w (.binOp .add t x y t') ((sv (a++b))):=fun d ty pos af=>by
  have h2:¬ ((((⟨a.toArray⟩:ByteArray).size+(⟨b.toArray⟩:ByteArray).size:Nat):Int) > IntKind.i64.max):=by
   rw [vE,vE];simp [IntKind.max,IntKind.signed,IntKind.bits];omega
  simp only [execOp,eqGuard,hx,hy,binOp,sv,Op.stringOp,if_neg h2,Lz];simp
theorem R.eq {x y:Operand} {t t':TypeId} {k:IntKind} {a b:Int} (hx:ev l x=.int k a) (hy:ev l y=.int k b):eg P l w (.binOp .eql t x y t') ((.bool (a==b))):=fun d ty pos af=>by simp [execOp,eqGuard,hx,hy,binOp,Op.intCmp]
theorem R.ne {x y:Operand} {t t':TypeId} {k:IntKind} {a b:Int} (hx:ev l x=.int k a) (hy:ev l y=.int k b):eg P l w (.binOp .neq t x y t') ((.bool (a != b))):=fun d ty pos af=>by simp [execOp,eqGuard,hx,hy,binOp,Op.intCmp]
theorem R.lt {x y:Operand} {t t':TypeId} {k:IntKind} {a b:Int} (hx:ev l x=.int k a) (hy:ev l y=.int k b):eg P l w (.binOp .lss t x y t') ((.bool (decide (a < b)))):=fun d ty pos af=>by simp [execOp,eqGuard,hx,hy,binOp,Op.intCmp]
theorem R.le {x y:Operand} {t t':TypeId} {k:IntKind} {a b:Int} (hx:ev l x=.int k a) (hy:ev l y=.int k b):eg P l w (.binOp .leq t x y t') ((.bool (decide (a<=b)))):=fun d ty pos af=>by simp [execOp,eqGuard,hx,hy,binOp,Op.intCmp]
theorem R.YY {x y:Operand} {t t':TypeId} {k:IntKind} {a b:Int} (hx:ev l x=.int k a) (hy:ev l y=.int k b):eg P l w (.binOp .gtr t x y t') ((.bool (decide (b < a)))):=fun d ty pos af=>by simp [execOp,eqGuard,hx,hy,binOp,Op.intCmp]
theorem R.ge {x y:Operand} {t t':TypeId} {k:IntKind} {a b:Int} (hx:ev l x=.int k a) (hy:ev l y=.int k b):eg P l w (.binOp .geq t x y t') ((.bool (decide (b<=a)))):=fun d ty pos af=>by simp [execOp,eqGuard,hx,hy,binOp,Op.intCmp]
theorem R.uY {x y:Operand} {t t':TypeId} {a b:ah} (hx:ev l x=sv a) (hy:ev l y=sv b):eg P l w (.binOp .eql t x y t') ((.bool (a==b))):=fun d ty pos af=>by simp only [execOp,eqGuard,hx,hy,binOp,sv,Op.stringOp,toList_mk];simp
theorem R.vq {x y:Operand} {t t':TypeId} {a b:ah} (hx:ev l x=sv a) (hy:ev l y=sv b):eg P l w (.binOp .neq t x y t') ((.bool (!(a==b)))):=fun d ty pos af=>by simp only [execOp,eqGuard,hx,hy,binOp,sv,Op.stringOp,toList_mk];simp
theorem R.not {x:Operand} {t:TypeId} {b:Bool} (hx:ev l x=.bool b):eg P l w (.unOp .not t x) ((.bool (!b))):=fun d ty pos af=>by simp [execOp,hx,Op.unary]
theorem R.qs {x y:Operand} {t:TypeId} [hT:pd P t] {s:ah} {k:IntKind} {i:Nat} {c:UInt8} (hx:ev l x=sv s) (hy:ev l y=.int k i) (hc:s[i]?=some c):eg P l w (.index t x y) ((.int .u8 c.toNat)):=fun d ty pos af=>by
  have hg:(⟨s.toArray⟩:ByteArray)[i]?=some c:=by
   obtain ⟨hi,hv⟩:=List.getElem?_eq_some_iff.1 hc
   have n7:i < (⟨s.toArray⟩:ByteArray).size:=by rw [vE];exact hi
   rw [getElem?_pos (⟨s.toArray⟩:ByteArray) i n7];simp only [ByteArray.getElem_eq_getElem_data];simpa using hv
  simp [execOp,Instr.index,hx,hy,asIntOf,run_underlying hT.und,sv,hg]
theorem R.P1 {x:Operand} {t:TypeId} [hT:pd P t] {s:ah} {lo hi:Option Operand} {i j:Nat} (hx:ev l x=sv s)
  (gS:match lo with | some y=>∃ k,ev l y=.int k i | none=>i=0) (Bx:match hi with | some y=>∃ k,ev l y=.int k j | none=>j=s.length)
  (h1:i<=j) (h2:j<=s.length):eg P l w (.slice t x lo hi none) ((sv ((s.take j).drop i))):=fun d ty pos af=>by
  have cI:=vE s
  cases lo <;> cases hi <;> simp only at gS Bx
  ·subst gS;subst Bx;simp [execOp,Instr.sliceAt,Instr.slice,Instr.sliceBounds,hx,sv,run_underlying hT.und,cI,extract_mk]
  ·obtain ⟨k,hk⟩:=Bx;subst gS;simp [execOp,Instr.sliceAt,Instr.slice,Instr.sliceBounds,Instr.sliceBound,asIntOf,hx,hk,sv,run_underlying hT.und,cI,extract_mk,h2]
  ·obtain ⟨k,hk⟩:=gS;subst Bx;simp [execOp,Instr.sliceAt,Instr.slice,Instr.sliceBounds,Instr.sliceBound,asIntOf,hx,hk,sv,run_underlying hT.und,cI,extract_mk,h1]
  ·obtain ⟨k,hk⟩:=gS;obtain ⟨k',kY⟩:=Bx;simp [execOp,Instr.sliceAt,Instr.slice,Instr.sliceBounds,Instr.sliceBound,asIntOf,hx,hk,kY,sv,run_underlying hT.und,cI,extract_mk,h1,h2]
theorem R.qp {x y:Operand} {t e:TypeId} {k:Nat} [hT:mq P t e k] {b o n c:Nat} {kk:IntKind} {i:Nat} (hx:ev l x=.slice (some ⟨b,o,none⟩) n c) (hy:ev l y=.int kk i) (hi:i < n):eg P l w (.indexAddr t x y) ((.pointer (some ⟨b,o+i * k,none⟩))):=fun d ty pos af=>by
  simp [execOp,Instr.indexAt,hx,hy,asIntOf,run_underlying hT.und,hi,im hT.siz,pf]
theorem R.OS {x:Operand} {s:TypeId} {i off k:Nat} {agg:Bool} [hT:de P s i off k agg] {b o:Nat} (hx:ev l x=.pointer (some ⟨b,o,none⟩)):eg P l w (.fieldAddr s x i) ((.pointer (some ⟨b,o+off,none⟩))):=fun d ty pos af=>by
  obtain ⟨hT⟩:=hT;unfold JW at hT;split at hT
  ·rename_i fs hu;split at hT
   ·rename_i f hf;simp only [Bool.and_eq_true,beq_iff_eq,bne_iff_ne,ne_eq] at hT;obtain ⟨⟨⟨h1,h2⟩,h3⟩,h4⟩:=hT;split at h2
    ·rename_i x hq
     have hs:(P.info? f.type).map (·.size)=some k:=by rw [hq];simpa using h2
     simp [execOp,Instr.fieldAt,hx,run_underlying hu,hf,Instr.sureAddr,fieldPlace,im hs,h3,pf,h1]
    ·cases h2
   ·cases hT
  ·cases hT
theorem R.ld1 {x:Operand} {t:TypeId} [hT:Ty P t false 1] {a:Addr} {v:Value} (hx:ev l x=.pointer (some a)) (hv:w.cell? a=some v):eg P l w (.load t x) (v):=fun d ty pos af=>by simp [execOp,Instr.loadAt,hx,Instr.sureAddr,Gt hv]
theorem R.ldN {x:Operand} {t:TypeId} {k:Nat} [hT:Ty P t true k] {b o:Nat} {vs:List Value} (hx:ev l x=.pointer (some ⟨b,o,none⟩)) (hl:vs.length=k)
  (hv:∀ j v,vs[j]?=some v->w.cell? ⟨b,o+j,none⟩=some v):eg P l w (.load t x) ((.agg vs.toArray)):=fun d ty pos af=>by simp [execOp,Instr.loadAt,hx,Instr.sureAddr,mW hl hv]
end
def fy (H:Array Obj) (b o:Nat):Option Value :=
 match H[b]? with
 | some (.cells c _ _)=>c[o]?
 | _=>none
theorem eT (w:World) (b o:Nat):w.cell? ⟨b,o,none⟩=fy w.heap b o:=by
 unfold World.cell? fy
 cases w.heap[b]? with
 | none=>rfl
 | some x=>cases x <;> rfl
theorem EK {H:Array Obj} {b o:Nat} {v:Value} (h:fy H b o=some v):b < H.size:=by
 unfold fy at h
 cases hb:H[b]? with
 | none=>rw [hb] at h;cases h
 | some x=>exact (Array.getElem?_eq_some_iff.1 hb).1
theorem Ext.c {S:Nat->Prop} {w w':World} (hx:Ext S w w') {b o:Nat} {v:Value} (h:fy w.heap b o=some v) (hs:¬ S b):fy w'.heap b o=some v:=by
 unfold fy at *;rw [hx.block b (EK (H:=w.heap) (by unfold fy;exact h)) hs];exact h
theorem vR {H:Array Obj} {b o:Nat} {cs:Array Value} {E:TypeId} {fz:Nat × Nat} {v:Value} (hb:H[b]?=some (.cells cs E fz)) (hv:cs[o]?=some v):fy H b o=some v:=by
 unfold fy;rw [hb];exact hv
theorem Ext.drew {S:Nat->Prop} (w:World):Ext S w w.drew:=⟨rfl,rfl,rfl,Nat.le_refl _,fun _ _ _=>rfl⟩
theorem R.ld {P:Program} {l:List Value} {w:World} {x:Operand} {t:TypeId} [hT:Ty P t false 1] {b o:Nat} {v:Value} (hx:ev l x=.pointer (some ⟨b,o,none⟩)) (hv:fy w.heap b o=some v):eg P l w (.load t x) v:=R.ld1 hx (by rw [eT];exact hv)
theorem R.Xl {P:Program} {l:List Value} {w:World} {x:Operand} {t:TypeId} {k:Nat} [hT:Ty P t true k] {b o:Nat} {vs:List Value} (hx:ev l x=.pointer (some ⟨b,o,none⟩)) (hl:vs.length=k)
  (hv:∀ j v,vs[j]?=some v->fy w.heap b (o+j)=some v):eg P l w (.load t x) (.agg vs.toArray):=R.ldN hx hl (fun j v h=>by rw [eT];exact hv j v h)
section
variable {H:Array Obj} {b o:Nat} {v0 v1 v2 v3 v4 v5:Value}
end
end Go.Xw
namespace Go.Xw
open Go.RowKit
class pV (P:Program) (t:TypeId) (z:outParam Value):Prop where
 is:(P.info? t).bind (·.zero)=some z
structure tL (w w':World) (b:Nat) (cs:Array Value) (E:TypeId):Prop where
 blk:w'.heap[b]?=some (.cells cs E (0,0))
 ext:Ext (·=b) w w'
 size:w'.heap.size=w.heap.size
def uF (cs:Array Value) (o:Nat):List Value->Array Value
 | []=>cs
 | v::r=>uF (cs.setIfInBounds o v) (o+1) r
def lf (vs:List Value):Bool:=vs.all (·.oneCell')
section
variable {P:Program} {w:World}
theorem A1 {t:TypeId} {z:Value} [h:pV P t z]:(zeroValue t).run P w=.ok z w:=by
 obtain ⟨h⟩:=h
 cases hq:P.info? t with
 | none=>simp [hq] at h
 | some i=>simp [hq] at h;simp [zeroValue,typeInfo,hq,h]
theorem tL.refl {b:Nat} {cs:Array Value} {E:TypeId} (hb:w.heap[b]?=some (.cells cs E (0,0))):tL w w b cs E:=⟨hb,Ext.refl _,rfl⟩
theorem tL.trans {w1 w2:World} {b:Nat} {cs zm:Array Value} {E:TypeId} (h:tL w w1 b cs E) (k:tL w1 w2 b zm E):tL w w2 b zm E :=
 ⟨k.blk,h.ext.trans k.ext,k.size.trans h.size⟩
theorem tL.setCell {b o:Nat} {cs:Array Value} {E:TypeId} (hb:w.heap[b]?=some (.cells cs E (0,0))) (v:Value) :
  tL w (w.setCell ⟨b,o,none⟩ v) b (cs.setIfInBounds o v) E :=
 ⟨heap_setCell_same w b o cs E v hb,⟨rfl,rfl,rfl,by simp,fun k _ hs=>heap_setCell_other w _ k v hs⟩,by simp⟩
theorem vD {b o:Nat} {E:TypeId}:∀ (vs:List Value) (i:Nat) (w:World) (cs:Array Value),w.heap[b]?=some (.cells cs E (0,0))->o+i+vs.length<=cs.size->lf vs=true ->
  ∃ w',(storeCells ⟨b,o,none⟩ vs i).run P w=.ok () w'/\tL w w' b (uF cs (o+i) vs) E
 | [],i,w,cs,hb,_,_=>⟨w,by simp [storeCells],tL.refl hb⟩
 | v::r,i,w,cs,hb,hl,h1=>by
  simp only [lf,all_cons,Bool.and_eq_true] at h1;simp only [length_cons] at hl;have hs:=tL.setCell (w:=w) (o:=o+i) hb v;obtain ⟨w',hr,bY⟩:=vD (b:=b) (o:=o) (E:=E) r (i+1) _ _ hs.blk (by simp;omega) h1.2;refine ⟨w',?_,hs.trans (by simpa [uF,Nat.add_assoc] using bY)⟩;have hc:w.cell? ⟨b,o+i,none⟩=cs[o+i]?:=cell_of_row w b (o+i) cs E (0,0) hb;have df:∃ u,w.cell? ⟨b,o+i,none⟩=some u:=⟨cs[o+i]'(by omega),by rw [hc];simp⟩;obtain ⟨u,hu⟩:=df;have hf:w.frozen? ⟨b,o+i,none⟩=false:=frozen_of_row w b _ cs E hb
  have Yi:(store ((⟨b,o,none⟩:Addr).add i) v).run P w=.ok () (w.setCell ⟨b,o+i,none⟩ v):=by
   rw [pf]
   cases v <;> first | (simp [Value.oneCell'] at h1;done) | simp [store,Sem.run,hu,hf]
  simp only [storeCells,Sem.run_bind,Yi,Result.andThen_ok,hr]
theorem Gu {t:TypeId} {agg:Bool} {k:Nat} [hT:Ty P t agg k] {b o:Nat} {E:TypeId} {cs:Array Value} {v:Value} (hb:w.heap[b]?=some (.cells cs E (0,0)))
  (hl:v.cells.size=k) (ho:o+k<=cs.size) (h1:lf v.cells.toList=true) :
  ∃ w',(storeVar t ⟨b,o,none⟩ v).run P w=.ok () w'/\tL w w' b (uF cs o v.cells.toList) E:=by
 obtain ⟨w',hr,hs⟩:=vD (P:=P) (o:=o) v.cells.toList 0 w cs hb (by simp;omega) h1;refine ⟨w',?_,by simpa using hs⟩;simp [storeVar,im hT.siz,hl,hr]
end
def gw:List Value->Nat->List Value->List Value
 | cs,_,[]=>cs
 | cs,o,v::r=>gw (eK cs o v) (o+1) r
def pk (pl:Nat->Option (Nat × Nat)):List Value->List (Nat × Value)->Option (List Value)
 | cs,[]=>some cs
 | cs,(i,v)::r=>match pl i with
  | none=>none
  | some (o,k)=>if v.cells.size≠k || decide (o+v.cells.size > cs.length) then none else pk pl (gw cs o v.cells.toList) r
theorem A3:∀ (vs:List Value) (cs:List Value) (o:Nat),(gw cs o vs).length=cs.length
 | [],_,_=>rfl
 | v::r,cs,o=>by
  rw [gw,A3 r];have:=congrArg Array.size (yu cs o v);simpa using this.symm
theorem Bh:∀ (vs:List Value) (cs:List Value) (o n:Nat),
  (vs.zipIdx n).foldl (fun (cs:Array Value) (x:Value × Nat)=>cs.setIfInBounds (o+x.2) x.1) cs.toArray=(gw cs (o+n) vs).toArray
 | [],cs,o,n=>by simp [gw]
 | v::r,cs,o,n=>by
  simp only [List.zipIdx_cons,List.foldl_cons,yu,gw];rw [Bh r];rfl
theorem xw (pl:Nat->Option (Nat × Nat)):∀ (parts:List (Nat × Value)) (cs:List Value),
  Instr.fill pl cs.toArray parts=(pk pl cs parts).map List.toArray
 | [],cs=>by simp [Instr.fill,pk]
 | (i,v)::r,cs=>by
  simp only [Instr.fill,pk]
  cases hp:pl i with
  | none=>rfl
  | some x =>
   obtain ⟨o,k⟩:=x;simp only [size_toArray];split
   ·rfl
   ·have h:(v.cells.zipIdx.foldl (fun (cs:Array Value) (x:Value × Nat)=>cs.setIfInBounds (o+x.2) x.1) cs.toArray)=(gw cs o v.cells.toList).toArray:=by
     have:=Bh v.cells.toList cs o 0;rw [<-Array.foldl_toList,Array.toList_zipIdx];exact this
    have h2:=xw pl r (gw cs o v.cells.toList);rw [<-h2,<-h]
def Rk (P:Program) (t:TypeId) (pl:List (Nat × Nat)):Bool :=
 match P.underlying t with
 | some (.struct fs)=>(fs.toList.map fun f=>(f.offset,(P.info? f.type).map (·.size)))==pl.map fun x=>(x.1,some x.2)
 | _=>false
class tK (P:Program) (t:TypeId) (pl:outParam (List (Nat × Nat))) (z:outParam (List Value)):Prop where
 is:Rk P t pl=true
 zero:(P.info? t).bind (·.zero)=some (.agg z.toArray)
section
variable {P:Program} {w:World}
theorem B0 {fs:List Field}:∀ {pl:List (Nat × Nat)},(fs.map fun f=>(f.offset,(P.info? f.type).map (·.size)))=(pl.map fun x=>(x.1,some x.2)) ->
  (List.mapM (m:=Sem) (fun (f:Field)=>Functor.map (Prod.mk f.offset) (sizeOf f.type)) fs).run P w=.ok pl w:=by
 induction fs with
 | nil=>intro pl h;cases pl with | nil=>simp | cons=>simp at h
 | cons f fs ih =>
  intro pl h
  cases pl with
  | nil=>simp at h
  | cons x pl =>
   simp only [List.map_cons,List.cons.injEq,Prod.mk.injEq] at h;obtain ⟨⟨h1,h2⟩,h3⟩:=h;have:=ih h3;have h5:=im (w:=w) h2;simp [List.mapM_cons,Sem.run_bind,h5,this,h1]
theorem run_build {t:TypeId} {pl:List (Nat × Nat)} {z:List Value} [hT:tK P t pl z] {parts:List (Nat × Value)} {cs:List Value} (hf:pk (fun i=>pl[i]?) z parts=some cs) :
  (Instr.build t parts.toArray).run P w=.ok (.agg cs.toArray) w:=by
 obtain ⟨hi,hz⟩:=hT
 have Z6:(zeroValue t).run P w=.ok (.agg z.toArray) w:=by
  haveI:pV P t (.agg z.toArray):=⟨hz⟩
  exact A1
 unfold Rk at hi;split at hi
 ·rename_i fs hu;have hm:=B0 (P:=P) (w:=w) (eq_of_beq hi)
  have kc:(Array.mapM (m:=Sem) (fun (f:Field)=>Functor.map (Prod.mk f.offset) (sizeOf f.type)) fs).run P w=.ok pl.toArray w:=by
   rw [Array.mapM_eq_mapM_toList];simp [hm]
  have iU:=xw (fun i=>pl[i]?) parts z;rw [hf] at iU;simp [Instr.build,Sem.run_bind,Z6,run_underlying hu,kc,Value.cells];simp [iU]
 ·cases hi
end
section
variable {P:Program} {Q:kV} {l:List Value} {w:World} {ops:Array Oper} {rest:List Oper} {d:Option Tmp} {ty:TypeId} {pos:String} {af:Array Edge}
theorem B1 (t:TypeId) (v:Value):(newVar t v).run P w=.ok ⟨w.heap.size,0,none⟩ (w.alloc (.cells v.cells t)):=by
 rfl
theorem WL.alloc {t:TypeId} {z:Value} [hT:pV P t z] (h:∀ b w',uK w w' b (.cells z.cells t)->WL P ops Q rest (put l d (.pointer (some ⟨b,0,none⟩))) w') :
  WL P ops Q (⟨d,.alloc t,ty,pos,af,none⟩::rest) l w :=
 WL.val (w':=w.alloc (.cells z.cells t)) (by simp [execOp,Instr.alloc,A1 (w:=w) (z:=z),B1]) (h _ _ (uK.of w _))
theorem WL.box {t:TypeId} {x:Operand} {v:Value} (hx:ev l x=v) (h:∀ b w',uK w w' b (.cells v.cells t)->WL P ops Q rest (put l d (.pointer (some ⟨b,0,none⟩))) w') :
  WL P ops Q (⟨d,.box t x,ty,pos,af,none⟩::rest) l w :=
 WL.val (w':=w.alloc (.cells v.cells t)) (by simp [execOp,Instr.box,B1,hx]) (h _ _ (uK.of w _))
theorem R.build {t:TypeId} {pl:List (Nat × Nat)} {z:List Value} [hT:tK P t pl z] {parts:List (Nat × Operand)} {cs:List Value}
  (hf:pk (fun i=>pl[i]?) z (parts.map fun x=>(x.1,ev l x.2))=some cs):eg P l w (.build t parts.toArray) (.agg cs.toArray):=fun d ty pos af=>by
  have hr:=run_build (P:=P) (w:=w) (t:=t) hf;simp only [execOp,map_toArray];simp [hr]
class pb (P:Program) (t:TypeId) (e:outParam TypeId) (k:outParam Nat) (z:outParam (List Value)):Prop where
 und:P.underlying t=some (.slice e)
 siz:(P.info? e).map (·.size)=some k
 zero:(P.info? e).bind (·.zero)=some (if k=1 then z.headD undef else .agg z.toArray)
 zl:z.length=k
 pos:0 < k
 one:k=1->(z.headD undef).cells=#[z.headD undef]
theorem pb.cells {t e:TypeId} {k:Nat} {z:List Value} (h:pb P t e k z):(if k=1 then z.headD undef else .agg z.toArray).cells=z.toArray:=by
 split
 ·rename_i hk;rw [h.one hk];have:=h.zl;rw [hk] at this
  match z,this with
  | [a],_=>rfl
 ·rfl
theorem WL.CL {t e:TypeId} {k:Nat} {z:List Value} [hT:pb P t e k z] {n:Nat} {parts:List (Nat × Operand)} {cs:List Value} (hn:n * k<=16777216)
  (hf:pk (fun i=>some (i * k,k)) ((List.range (n * k)).map fun j=>z.getD (j % k) undef) (parts.map fun x=>(x.1,ev l x.2))=some cs)
  (h:∀ b w',uK w w' b (.cells cs.toArray e)->WL P ops Q rest (put l d (.slice (some ⟨b,0,none⟩) n n)) w') :
  WL P ops Q (⟨d,.buildSlice t n parts.toArray,ty,pos,af,none⟩::rest) l w :=
 WL.val (w':=w.alloc (.cells cs.toArray e)) (by
  have hz:(zeroValue e).run P w=.ok (if k=1 then z.headD undef else .agg z.toArray) w:=by
   haveI:pV P e (if k=1 then z.headD undef else .agg z.toArray):=⟨hT.zero⟩
   exact A1
  have hc:=hT.cells;generalize (if k=1 then z.headD undef else .agg z.toArray:Value)=zv at hz hc;have iU:=xw (fun i=>some (i * k,k)) (parts.map fun x=>(x.1,ev l x.2)) ((List.range (n * k)).map fun j=>z.getD (j % k) undef);rw [hf] at iU
  have BB:¬ (16777216 < n * k):=by omega
  by_cases h0:n * k=0
  ·have YZ:n=0:=by
    rcases Nat.mul_eq_zero.1 h0 with h | h
    ·exact h
    ·have:=hT.pos;omega
   subst YZ;simp only [Nat.zero_mul,List.range_zero,map_nil] at iU;simp only [execOp,map_toArray];have rj:(Array.range 0)=#[]:=rfl;simp [Instr.buildSlice,run_underlying hT.und,im hT.siz,rj,iU];rfl
  ·have he:(Array.range (n * k)).map (fun j=>z.toArray[j % z.toArray.size]!)=((List.range (n * k)).map fun j=>z.getD (j % k) undef).toArray:=by
    apply Array.ext';simp only [Array.toList_map,Array.toList_range];apply List.map_congr_left;intro j _;have hk:=hT.pos
    have aq:j % k < z.length:=by rw [hT.zl];exact Nat.mod_lt _ hk
    rw [List.getD_eq_getElem?_getD,List.getElem?_eq_getElem aq];simp [hT.zl];rw [List.getElem?_eq_getElem aq];rfl
   rw [<-he] at iU;simp only [execOp,map_toArray];simp [Instr.buildSlice,run_underlying hT.und,im hT.siz,BB,h0,hz,hc];simp only [size_toArray] at iU;simp at iU;simp [iU]
   rfl) (h _ _ (uK.of w _))
theorem WL.st {x y:Operand} {t:TypeId} {agg:Bool} {k:Nat} [hT:Ty P t agg k] {b o:Nat} {E:TypeId} {cs:Array Value} {v:Value} (hx:ev l x=.pointer (some ⟨b,o,none⟩)) (hy:ev l y=v)
  (hb:w.heap[b]?=some (.cells cs E (0,0))) (hl:v.cells.size=k) (ho:o+k<=cs.size) (h1:lf v.cells.toList=true)
  (h:∀ w',tL w w' b (uF cs o v.cells.toList) E->WL P ops Q rest (put l d undef) w'):WL P ops Q (⟨d,.store t x y,ty,pos,af,none⟩::rest) l w:=by
 obtain ⟨w',hr,hs⟩:=Gu (P:=P) (t:=t) hb hl ho h1;exact WL.skp (w':=w') (by simp [execOp,Instr.storeAt,hx,hy,Instr.sureAddr,hr]) (h w' hs)
end
def EN (P:Program) (f:FuncId):Bool :=
 match P.funcs[f]? with
 | some fn=>fn.name != "runtime.NumGoroutine" && fn.body.isSome
 | none=>false
class aC (P:Program) (f:FuncId):Prop where
 ok:EN P f=true
def lT (P:Program) (f:FuncId) (args:List Value) (w:World) (R:Value->World->Prop):Prop :=
 Calls P f args.toArray w fun e w'=>∃ v,e=.returned v/\R v w'
theorem lT.mono {P:Program} {f:FuncId} {args:List Value} {w:World} {R R':Value->World->Prop} (h:lT P f args w R) (hr:∀ v w',R v w'->R' v w'):lT P f args w R' :=
 Calls.mono h fun _ _ ⟨v,he,r⟩=>⟨v,he,hr _ _ r⟩
theorem lk {P:Program} {w:World} {f:FuncId} [h:aC P f] (args:Array Value):(callFunc f args).run P w=.ok (.enter f args) w:=by
 obtain ⟨h⟩:=h;unfold EN at h;split at h
 ·rename_i fn hf;simp only [Bool.and_eq_true,bne_iff_ne,ne_eq] at h
  have h2:fn.body.isNone=false:=by cases hb:fn.body <;> simp_all
  simp [callFunc,program,Sem.run,hf,h.1,h2];intro hn;simp [hn] at h2
 ·cases h
section
variable {P:Program} {Q:kV} {l:List Value} {w:World} {ops:Array Oper} {rest:List Oper} {d:Option Tmp} {ty:TypeId} {pos:String} {af:Array Edge}
theorem WL.calls {op:Op} {f:FuncId} {Ck:List Value} (hr:(execOp (ev l) ⟨d,op,ty,pos,af,none⟩).run P w=.ok (.enter f Ck.toArray) w) {R:Value->World->Prop}
  (hc:lT P f Ck w R) (h:∀ v w',R v w'->WL P ops Q rest (put l d v) w'):WL P ops Q (⟨d,op,ty,pos,af,none⟩::rest) l w:=by
 refine wpList_plain rfl fun K hK=>?_
 simp only [Oper.wp,mG,hr,Oper.upon_enter];refine Calls.mono hc ?_;rintro e w' ⟨v,rfl,hv⟩;simp only [oJ];exact hK _ _ (h v w' hv)
theorem WL.call {f:FuncId} [hf:aC P f] {args:List Operand} {l8:Array TypeId} {Ck:List Value} (ha:args.map (ev l)=Ck) {R:Value->World->Prop}
  (hc:lT P f Ck w R) (h:∀ v w',R v w'->WL P ops Q rest (put l d v) w'):WL P ops Q (⟨d,.call ⟨.value (.func f),args.toArray,l8⟩,ty,pos,af,none⟩::rest) l w :=
 WL.calls (by simp [execOp,resolve,ev,Deferred.ofValue,invoke,lk,ha]) hc h
end
def Gn:Nat->List Value
 | 0=>[]
 | n+1=>undef::Gn n
def frame:List Value->Nat->List Value
 | [],n=>Gn n
 | a::r,n=>a::frame r (n - 1)
theorem U1 (n:Nat):Gn n=List.replicate n undef:=by
 induction n with
 | zero=>rfl
 | succ n ih=>rw [Gn,ih];rfl
theorem OV (args:List Value) (n:Nat):frame args n=args++List.replicate (n - args.length) undef:=by
 induction args generalizing n with
 | nil=>simp [frame,U1]
 | cons a r ih=>rw [frame,ih];simp [Nat.sub_sub,Nat.add_comm]
def Qw (P:Program) (fn:Func) (R:Value->World->Prop):kV
 | .normal,l,w | .ret,l,w=>∃ v,(results fn l.toArray).run P w=.ok v w/\R v w
 | _,_,_=>False
theorem lT.enter {P:Program} {f:FuncId} {fn:Func} {c:Code} {args:List Value} {w:World} {R:Value->World->Prop} {n:Nat} {l:List Value}
  (hf:P.funcs[f]?=some fn) (hn:fn.ntmps=n) (hb:fn.body=some c) (hl:frame args n=l) (h:W P c (Qw P fn R) l w):lT P f args w R:=by
 subst hl;refine calls_of_wp hf hb ?_
 have tV:(args.toArray++Array.replicate (fn.ntmps - args.toArray.size) undef)=(frame args n).toArray:=by
  simp [OV,hn]
 rw [tV];refine wp_mono h ?_;rintro e a w ⟨l,rfl,hq⟩
 cases e <;> simp only [Qw] at hq <;> simp only [bodyPost]
 ·obtain ⟨v,hr,hv⟩:=hq;exact ⟨rfl,v,hr,v,rfl,hv⟩
 ·obtain ⟨v,hr,hv⟩:=hq;exact ⟨rfl,v,hr,v,rfl,hv⟩
end Go.Xw
namespace Go.Xw
open Go.RowKit
def S7 (P:Program) (t e k gD:Nat):Bool :=
 (match P.underlying t with | some (.slice e')=>e'==e | _=>false) &&
 (match P.info? e with
  | some i=>(match i.zero with | some z=>z.cells.size==k | none=>false)&&i.size==k&&i.bytes==gD
  | none=>false)&&k != 0
class nT (P:Program) (t:TypeId) (e:outParam TypeId) (k:outParam Nat) (gD:outParam Nat):Prop where
 is:S7 P t e k gD=true
theorem nT.parts {P:Program} {t e k gD:Nat} (h:nT P t e k gD) :
  P.underlying t=some (.slice e)/\(∃ i z,P.info? e=some i/\i.zero=some z/\z.cells.size=k/\i.size=k/\i.bytes=gD)/\0 < k:=by
 obtain ⟨h⟩:=h;simp only [S7,Bool.and_eq_true,bne_iff_ne,ne_eq] at h;obtain ⟨⟨h1,h2⟩,h3⟩:=h;refine ⟨?_,?_,by omega⟩
 ·split at h1
  ·rename_i e' hu;rw [hu];simp at h1;rw [h1]
  ·cases h1
 ·split at h2
  ·rename_i i hi;simp only [Bool.and_eq_true,beq_iff_eq] at h2;obtain ⟨⟨h4,h5⟩,h6⟩:=h2;split at h4
   ·rename_i z hz;exact ⟨i,z,hi,hz,by simpa using h4,h5,h6⟩
   ·cases h4
  ·cases h2
abbrev gk (w:World) (base:Nat) (e k:Nat) (v:Value) (n:Nat) (xs:List Value):Prop:=w.ownsRow base e k v n xs
theorem gk.nil (w:World) (base e k:Nat):gk w base e k (.slice none 0 0) 0 []:=World.ownsRow_nil w base e k
theorem gk.ext {S:Nat->Prop} {w w':World} {base e k:Nat} {v:Value} {n:Nat} {xs:List Value} (h:gk w base e k v n xs) (hx:Ext S w w') (hs:∀ b,v.ownBlock=some b->¬ S b):gk w' base e k v n xs:=by
 obtain ⟨h1,h2⟩:=h;refine ⟨h1,?_⟩
 rcases h2 with h2 | ⟨g,cap,cur,rfl,hb,hg,r⟩
 ·exact .inl h2
 ·exact .inr ⟨g,cap,cur,rfl,hb,hx.blk hg (hs g rfl),r⟩
theorem gk.lt {w:World} {base e k:Nat} {v:Value} {n:Nat} {xs:List Value} (h:gk w base e k v n xs) {b:Nat} (hv:v.ownBlock=some b):base<=b/\b < w.heap.size:=by
 obtain ⟨h1,h2⟩:=h
 rcases h2 with ⟨rfl,_⟩ | ⟨g,cap,cur,rfl,hb,hg,r⟩
 ·cases hv
 ·simp only [Value.ownBlock,Option.some.injEq] at hv;subst hv;exact ⟨hb,rp hg⟩
theorem gk.shape {w:World} {base e k:Nat} {v:Value} {n:Nat} {xs:List Value} (h:gk w base e k v n xs):∃ a c,v=.slice a n c:=by
 obtain ⟨h1,h2⟩:=h
 rcases h2 with ⟨rfl,rfl⟩ | ⟨g,cap,cur,rfl,_⟩
 ·exact ⟨_,_,rfl⟩
 ·exact ⟨_,_,rfl⟩
theorem gk.base {w:World} {base Qv e k:Nat} {v:Value} {n:Nat} {xs:List Value} (h:gk w base e k v n xs) (hb:Qv<=base):gk w Qv e k v n xs:=by
 obtain ⟨h1,h2⟩:=h;refine ⟨h1,?_⟩
 rcases h2 with h2 | ⟨g,cap,cur,rfl,bg,r⟩
 ·exact .inl h2
 ·exact .inr ⟨g,cap,cur,rfl,Nat.le_trans hb bg,r⟩
theorem gk.cells {w:World} {base e k:Nat} {v:Value} {n:Nat} {xs:List Value} (h:gk w base e k v n xs) :
  xs.length=n * k/\(xs≠[]->∃ b c,v=.slice (some ⟨b,0,none⟩) n c/\base<=b/\b < w.heap.size/\∀ j u,xs[j]?=some u->w.cell? ⟨b,j,none⟩=some u):=by
 obtain ⟨h1,h2⟩:=h;refine ⟨h1,fun bK=>?_⟩
 rcases h2 with ⟨rfl,rfl⟩ | ⟨g,cap,cur,rfl,hb,hg,hn,hm,cI,ht⟩
 ·simp at h1;exact absurd h1 bK
 ·refine ⟨g,cap,rfl,hb,rp hg,fun j u hj=>?_⟩;rw [cell_of_row w g j cur e (0,0) hg];rw [<-ht] at hj;rw [getElem?_take] at hj;split at hj
  ·simpa using hj
  ·cases hj
theorem gk.UP {w w':World} {b e k n:Nat} {cs:List Value} (h:uK w w' b (.cells cs.toArray e)) (hl:cs.length=n * k) (hm:n<=maxLen):gk w' w.heap.size e k (.slice (some ⟨b,0,none⟩) n n) n cs :=
 ⟨hl,.inr ⟨b,n,cs.toArray,rfl,by rw [h.fresh];exact Nat.le_refl _,h.blk,Nat.le_refl _,hm,by simpa using hl,by simp [<-hl]⟩⟩
section
variable {P:Program} {Q:kV} {l:List Value} {w:World} {ops:Array Oper} {rest:List Oper} {d:Option Tmp} {ty:TypeId} {pos:String} {af:Array Edge}
theorem WL.app {s x:Operand} {t e k gD:Nat} [hT:nT P t e k gD] {base n m c b o:Nat} {xs news:List Value} {v:Value} (hs:ev l s=v) (eS:gk w base e k v n xs)
  (hx:ev l x=.slice (some ⟨b,o,none⟩) m c) (hl:news.length=m * k) (QU:∀ j u,news[j]?=some u->w.cell? ⟨b,o+j,none⟩=some u) (h1:lf news=true)
  (TB:n+m<=9223372036854775807) (xI:(n+m) * gD<=140737488355328) (Bu:base<=w.heap.size)
  (h:∀ v' w',gk w' base e k v' (n+m) (xs++news)->Ext (fun b=>v.ownBlock=some b) w w'->(∀ b,v'.ownBlock=some b->v.ownBlock=some b\/w.heap.size<=b)->(Ext gP w w'\/v'.ownBlock=v.ownBlock)->WL P ops Q rest (put l d v') w') :
  WL P ops Q (⟨d,.call ⟨.builtin .append,#[s,x],#[t,t]⟩,ty,pos,af,none⟩::rest) l w:=by
 obtain ⟨hu,⟨i,z,hi,hz,MV,cI,xH⟩,hk⟩:=hT.parts;obtain ⟨v',w',hr,h2,h3,h4⟩:=run_append_own (P:=P) w base t ty e i z k gD hu hi hz cI xH MV hk v n xs eS ⟨b,o,none⟩ m c news hl
  (fun j u hj=>by rw [pf];exact QU j u hj) (by simpa [lf] using h1) (by simpa [maxLen] using TB) xI Bu
 have gq:Ext (fun b=>v.ownBlock=some b) w w':=⟨h3.os,h3.tape,h3.output,h3.size,fun j hj hn=>h3.block j hj fun he=>hn he.symm⟩
 have xN:∀ j u,news[j]?=some u->w.cell? ((⟨b,o,none⟩:Addr).add j)=some u:=fun j u hj=>by rw [pf];exact QU j u hj
 have iX:news.length=m * i.size:=by rw [cI];exact hl
 have O1:(n+m) * i.bytes<=140737488355328:=by rw [xH];exact xI
 refine WL.val (v:=v') (w':=w') (by simp [execOp,resolve,invoke,builtin,hs,hx,hr]) (h v' w' h2 gq ?_ ?_)
 ·intro b' bg;have BC:=eS.2
  rcases BC with ⟨rfl,rfl⟩ | ⟨g,cap,cur,rfl,mP,hg,n9,wW,eV,BE⟩
  ·by_cases hm:m=0
   ·have:=h4.2 ⟨rfl,hm⟩;subst this;cases bg
   ·have c6:=run_append_nil (P:=P) w t ty e i z hu hi hz ⟨b,o,none⟩ m c news iX xN (by omega) (by omega) (by simp only [Nat.zero_add] at O1;omega);rw [hr] at c6;cases c6;simp only [Value.ownBlock,Option.some.injEq] at bg;exact .inr (by omega)
  ·by_cases hroom:n+m<=cap
   ·have c6:=run_append_room (P:=P) w t ty e i hu hi g n cap cur hg ⟨b,o,none⟩ m c news iX xN (by simpa [lf] using h1) hroom
     (by rw [iX,eV,<-Nat.add_mul,cI];exact Nat.mul_le_mul_right _ hroom)
    rw [hr] at c6;cases c6;exact .inl bg
   ·have holds:∀ j u,xs[j]?=some u->w.cell? ((⟨g,0,none⟩:Addr).add j)=some u:=World.ownsRow.cells (g:=g) eS rfl;have c6:=run_append_grow (P:=P) w t ty e i z hu hi hz ⟨g,0,none⟩ n cap xs (by rw [cI];exact eS.1) holds ⟨b,o,none⟩ m c news iX xN (by omega) (by omega) (growslice_fits (by omega) O1);rw [hr] at c6;cases c6;simp only [Value.ownBlock,Option.some.injEq] at bg;exact .inr (by omega)
 ·have BC:=eS.2
  rcases BC with ⟨rfl,rfl⟩ | ⟨g,cap,cur,rfl,mP,hg,n9,wW,eV,BE⟩
  ·exact .inl (gq.mono fun k _ hk=>by cases hk)
  ·by_cases hroom:n+m<=cap
   ·have c6:=run_append_room (P:=P) w t ty e i hu hi g n cap cur hg ⟨b,o,none⟩ m c news iX xN (by simpa [lf] using h1) hroom
     (by rw [iX,eV,<-Nat.add_mul,cI];exact Nat.mul_le_mul_right _ hroom)
    rw [hr] at c6;cases c6;exact .inr rfl
   ·have holds:∀ j u,xs[j]?=some u->w.cell? ((⟨g,0,none⟩:Addr).add j)=some u:=World.ownsRow.cells (g:=g) eS rfl;have c6:=run_append_grow (P:=P) w t ty e i z hu hi hz ⟨g,0,none⟩ n cap xs (by rw [cI];exact eS.1) holds ⟨b,o,none⟩ m c news iX xN (by omega) (by omega) (growslice_fits (by omega) O1);rw [hr] at c6;cases c6;exact .inl ⟨rfl,rfl,rfl,by simp,fun k hk _=>Below.heap_alloc _ _ _ (by simpa using hk)⟩
theorem WL.push {x s:Operand} {t e k gD:Nat} {z:List Value} [hT:nT P t e k gD] [hZ:pb P t e k z] {base n:Nat} {xs vs:List Value} {v val:Value} {d1:Tmp} {N4:TypeId} {Gk:String} {Lu:Array Edge}
  (hx:ev l x=val) (hs:∀ u,ev (put l (some d1) u) s=v) (hd:∀ u,ev (put l (some d1) u) (.tmp d1)=u) (hc:val.cells=vs.toArray) (hk:vs.length=k) (h1:lf vs=true)
  (eS:gk w base e k v n xs) (TB:n+1<=9223372036854775807) (xI:(n+1) * gD<=140737488355328) (aak:k<=16777216) (Bu:base<=w.heap.size)
  (h:∀ u v' w',gk w' base e k v' (n+1) (xs++vs)->Ext (fun b=>v.ownBlock=some b) w w'->(∀ b,v'.ownBlock=some b->v.ownBlock=some b\/w.heap.size<=b)->(Ext gP w w'\/v'.ownBlock=v.ownBlock)->WL P ops Q rest (put (put l (some d1) u) d v') w') :
  WL P ops Q (⟨some d1,.buildSlice t 1 #[(0,x)],N4,Gk,Lu,none⟩::⟨d,.call ⟨.builtin .append,#[s,.tmp d1],#[t,t]⟩,ty,pos,af,none⟩::rest) l w:=by
 have hkp:=hZ.pos
 have cI:val.cells.size=k:=by rw [hc];simpa using hk
 have b6:∀ (vs cs:List Value),vs.length=cs.length->gw cs 0 vs=vs:=by
  have gen:∀ (vs pre cs:List Value),vs.length=cs.length->gw (pre++cs) pre.length vs=pre++vs:=by
   intro vs
   induction vs with
   | nil=>intro pre cs hl;cases cs <;> simp_all [gw]
   | cons a r ih =>
    intro pre cs hl
    cases cs with
    | nil=>simp at hl
    | cons c cs =>
     have hu:eK (pre++c::cs) pre.length a=pre++a::cs:=by
      clear hl
      induction pre with
      | nil=>rfl
      | cons p pre ihp=>simp [eK,ihp]
     rw [gw,hu];have:=ih (pre++[a]) cs (by simpa using hl);simpa using this
  intro vs cs hl;exact gen vs [] cs hl
 have VT:pk (fun i=>some (i * k,k)) ((List.range (1 * k)).map fun j=>z.getD (j % k) undef) ([((0:Nat),x)].map fun y=>(y.1,ev l y.2))=some vs:=by
  simp only [List.map_cons,map_nil,pk,hx,cI];simp [hk,hc];exact b6 vs _ (by simpa using hk)
 refine WL.CL (n:=1) (parts:=[(0,x)]) (by omega) VT ?_;intro b2 w2 bH;have J8:gk w2 base e k v n xs:=eS.ext bH.ext (fun _ _ h=>h);refine WL.app (base:=base) (v:=v) (n:=n) (xs:=xs) (news:=vs) (m:=1) (hs _) J8 (hd _) (by omega) (fun j u hj=>?_) h1 TB xI (Nat.le_trans Bu bH.ext.size) ?_
 ·rw [Nat.zero_add];exact LA bH.blk (by simpa using hj)
 ·intro v' w3 ho MU hb vf;refine h _ v' w3 ho ((bH.ext.mono (fun _ _ h=>h.elim)).trans MU) (fun b bg=>?_) (vf.imp (fun h5=>bH.ext.trans h5) id)
  rcases hb b bg with h4 | h4
  ·exact .inl h4
  ·exact .inr (Nat.le_trans bH.ext.size h4)
end
end Go.Xw
namespace Go.Xw
open Go.RowKit
section
variable {P:Program} {ops:Array Oper} {S:Nat->Prop}
end
def rE:List Oper->Nat->Oper
 | [],_=>default
 | o::_,0=>o
 | _::r,n+1=>rE r n
theorem Sm (ol:List Oper) (i:Nat) (o:Oper) (h:ol.toArray[i]?=some o):rE ol i=o:=by
 have h':ol[i]?=some o:=by simpa using h
 clear h
 induction ol generalizing i with
 | nil=>simp at h'
 | cons x r ih =>
  cases i with
  | zero=>simpa [rE] using h'
  | succ i=>exact ih i (by simpa using h')
section
variable {P:Program} {ops:Array Oper} {S:Nat->Prop} {Q:kV} {l:List Value} {w:World} {r:List (Oper × Bool)} {d:Option Tmp} {op:Op} {ty:TypeId} {pos:String} {af:Array Edge}
end
end Go.Xw
namespace Go.Xw
open Go.RowKit
def KQ:IntKind->IntKind->Bool
 | .i8,.i8 | .i16,.i16 | .i32,.i32 | .i64,.i64 | .u8,.u8 | .u16,.u16 | .u32,.u32 | .u64,.u64=>true
 | _,_=>false
theorem PQ {a b:IntKind} (h:KQ a b=true):a=b:=by cases a <;> cases b <;> first | rfl | cases h
def J1 (op:BinOp) (a b:Int):Option Value :=
 match op with
 | .eql=>some (.bool (a==b))
 | .neq=>some (.bool (a != b))
 | .lss=>some (.bool (decide (a < b)))
 | .leq=>some (.bool (decide (a<=b)))
 | .gtr=>some (.bool (decide (b < a)))
 | .geq=>some (.bool (decide (b<=a)))
 | _=>none
def J0 (op:BinOp):Value->Value->Option Value
 | .int k a,.int k' b=>match KQ k k' with
  | true=>J1 op a b
  | false=>none
 | _,_=>none
def v8 (c:Op) (x:Value):Option Value :=
 match c with
 | .nilCheck _=>match x with
  | .pointer (some a)=>some (.pointer (some a))
  | _=>none
 | .unOp .not _ _=>match x with
  | .bool b=>some (.bool (!b))
  | _=>none
 | .extract _ i=>match x with
  | .tuple vs=>vs[i]?
  | _=>none
 | _=>none
def go (ρ:Operand->Value) (o:Op):Option Value :=
 match o with
 | .move x=>some (ρ x)
 | .assign x=>some (ρ x)
 | .makeFunc fn f c=>some (.func fn (f.map ρ) (c.map ρ))
 | .binOp op _ x y _=>J0 op (ρ x) (ρ y)
 | .nilCheck x=>v8 o (ρ x)
 | .unOp _ _ x=>v8 o (ρ x)
 | .extract x _=>v8 o (ρ x)
 | _=>none
section
variable {P:Program} {l:List Value} {w:World}
theorem R5 {o:Op} {v:Value} (h:go (ev l) o=some v):eg P l w o v:=by
 unfold go at h;split at h
 ·cases h;exact R.mv
 ·cases h;exact R.tN
 ·cases h;exact R.jc
 ·rename_i op t x y t';unfold J0 at h;split at h
  ·rename_i k a k' b hx hy;split at h
   ·rename_i hk;have:=PQ hk;subst this;unfold J1 at h
    split at h <;> first | (cases h;done) | skip
    ·cases h;exact R.eq hx hy
    ·cases h;exact R.ne hx hy
    ·cases h;exact R.lt hx hy
    ·cases h;exact R.le hx hy
    ·cases h;exact R.YY hx hy
    ·cases h;exact R.ge hx hy
   ·cases h
  ·cases h
 ·unfold v8 at h;simp only at h;split at h
  ·rename_i a hx;cases h;exact R.KC hx
  ·cases h
 ·rename_i op t x;unfold v8 at h
  cases op <;> simp only at h <;> first | (cases h;done) | skip
  split at h
  ·rename_i b hx;cases h;exact R.not hx
  ·cases h
 ·unfold v8 at h;simp only at h;split at h
  ·rename_i vs hx;exact R.extract hx h
  ·cases h
 ·cases h
theorem R.dk {x y:Operand} {t t':TypeId} {a b:Nat} (hx:ev l x=ii a) (hy:ev l y=ii b) (hb:a+b<=9223372036854775807):eg P l w (.binOp .add t x y t') (ii ((a+b:Nat):Int)):=R.add hx hy (by omega) (by omega)
theorem R.pe {x y:Operand} {t t':TypeId} {a:Nat} (hx:ev l x=ii a) (hy:ev l y=ii 1) (hb:a+1<=9223372036854775807):eg P l w (.binOp .add t x y t') (ii ((a+1:Nat):Int)):=R.add hx hy (by omega) (by omega)
theorem R.vz {c a b:Operand} {t:Bool} (hc:ev l c=.bool t) (ht:t=true):eg P l w (.pick c a b) (ev l a):=by
 subst ht;exact R.pick hc
theorem R.vy {c a b:Operand} {t:Bool} (hc:ev l c=.bool t) (ht:t=false):eg P l w (.pick c a b) (ev l b):=by
 subst ht;exact R.pick hc
end
section
variable {P:Program} {Q:kV} {l:List Value} {w:World} {ops:Array Oper} {rest:List Oper} {d:Option Tmp} {op:Op} {ty:TypeId} {pos:String} {af:Array Edge} {v:Value} {S:Nat->Prop} {r:List (Oper × Bool)}
end
def ur (ops:List Oper) (l:List Value):Option (Nat × Bool)->Bool
 | none=>true
 | some (j,b)=>match (rE ops j).dst with
  | some t=>match nth l t with
   | .bool c=>c==b
   | _=>false
  | none=>false
def jj {α:Type}:List α->Nat->Bool
 | [],_=>false
 | _::_,0=>true
 | _::r,n+1=>jj r n
theorem BJ {α:Type}:∀ {l:List α} {n:Nat},jj l n=true->n < l.length
 | [],_,h=>by cases h
 | _::_,0,_=>by simp
 | _::r,n+1,h=>by have:=BJ (l:=r) (n:=n) h;simp;omega
def DF:Option (Nat × Bool)->List Oper->List Value->Bool
 | some (j,_),ops,l=>jj ops j&&(match (rE ops j).dst with
  | some t=>jj l t&&(match nth l t with | .bool _=>true | .tuple _=>true | _=>false)
  | none=>false)
 | none,_,_=>true
theorem I6 (ol:List Oper) (j:Nat) (h:j < ol.length):ol.toArray[j]?=some (rE ol j):=by
 obtain ⟨o,ho⟩:∃ o,ol.toArray[j]?=some o:=⟨ol[j],by simp [h]⟩;rw [ho,Sm ol j o ho]
theorem UO (l:List Value) (t:Nat) (h:t < l.length):l[t]?=some (nth l t):=by
 induction l generalizing t with
 | nil=>simp at h
 | cons x l ih=>cases t with
  | zero=>rfl
  | succ t=>simpa [nth] using ih t (by simpa using h)
theorem vM {ops:Array Oper} {d:Option Tmp} {op:Op} {ty:TypeId} {pos:String} {af:Array Edge} {gd:Option (Nat × Bool)} {l:List Value} (hb:DF gd ops.toList l=true) :
  Region.wanted ⟨d,op,ty,pos,af,gd⟩ (yielded ops (act l).tmps)=ur ops.toList l gd:=by
 cases gd with
 | none=>rfl
 | some x =>
  obtain ⟨j,b⟩:=x;simp only [DF,Bool.and_eq_true] at hb;obtain ⟨h1,h2⟩:=hb;have hj:=I6 ops.toList j (BJ h1);simp only [Array.toArray_toList] at hj;simp only [Region.wanted,ur,yielded,hj,Option.bind_some]
  cases hd:(rE ops.toList j).dst with
  | none=>rw [hd] at h2;cases h2
  | some t =>
   rw [hd] at h2;simp only [Bool.and_eq_true] at h2;have ht:=UO l t (BJ h2.1);simp only [Option.bind_some,act]
   have xU:l.toArray[t]?=some (nth l t):=by simpa using ht
   rw [xU]
   cases hv:nth l t <;> rw [hv] at h2 <;> simp_all
def gv (ops:List Oper) (l:List Value) (gd:Nat × Bool):Option Bool :=
 match (rE ops gd.1).dst with
 | some t=>match nth l t with
  | .bool c=>some c
  | _=>none
 | none=>none
theorem Oa {ops:List Oper} {l:List Value} {gd:Nat × Bool} {c:Bool} (hv:gv ops l gd=some c) (hc:c=gd.2):ur ops l (some gd)=true:=by
 obtain ⟨j,b⟩:=gd;unfold gv at hv;unfold ur;simp only at hv hc |-;split at hv
 ·rename_i t ht;split at hv
  ·rename_i c' df;cases hv;simp [hc]
  ·cases hv
 ·cases hv
theorem N9 {ops:List Oper} {l:List Value} {gd:Nat × Bool} {c:Bool} (hv:gv ops l gd=some c) (hc:c=!gd.2):ur ops l (some gd)=false:=by
 obtain ⟨j,b⟩:=gd;unfold gv at hv;unfold ur;simp only at hv hc |-;split at hv
 ·rename_i t ht;split at hv
  ·rename_i c' df;cases hv;cases b <;> simp_all
  ·cases hv
 ·cases hv
theorem Oc {ops:List Oper} {l:List Value} {gd:Nat × Bool} (hv:gv ops l gd=none):ur ops l (some gd)=false:=by
 obtain ⟨j,b⟩:=gd;unfold gv at hv;unfold ur;simp only at hv |-;split at hv
 ·rename_i t ht;split at hv
  ·cases hv
  ·first | rfl | (split <;> simp_all)
 ·rfl
section
variable {P:Program} {Q:kV} {l:List Value} {w:World} {ops:Array Oper} {rest:List Oper} {d:Option Tmp} {op:Op} {ty:TypeId} {pos:String} {af:Array Edge} {v:Value} {S:Nat->Prop} {r:List (Oper × Bool)} {gd:Nat × Bool}
theorem GT {c:Bool} (hb:DF (some gd) ops.toList l=true) (hv:gv ops.toList l gd=some c) (hc:c=gd.2) (h:WL P ops Q (⟨d,op,ty,pos,af,none⟩::rest) l w):WL P ops Q (⟨d,op,ty,pos,af,some gd⟩::rest) l w:=WL.gt ((vM hb).trans (Oa hv hc)) h
theorem GF {c:Bool} (hb:DF (some gd) ops.toList l=true) (hv:gv ops.toList l gd=some c) (hc:c=!gd.2) (h:WL P ops Q rest (put l d undef) w):WL P ops Q (⟨d,op,ty,pos,af,some gd⟩::rest) l w:=WL.gf ((vM hb).trans (N9 hv hc)) h
theorem GU (hb:DF (some gd) ops.toList l=true) (hv:gv ops.toList l gd=none) (h:WL P ops Q rest (put l d undef) w):WL P ops Q (⟨d,op,ty,pos,af,some gd⟩::rest) l w:=WL.gf ((vM hb).trans (Oc hv)) h
end
def KH:Value->Bool
 | .agg _=>false
 | .tuple _=>false
 | _=>true
theorem wD {v:Value} (h:KH v=true):v.cells=#[v]/\v.oneCell'=true:=by
 cases v <;> first | exact ⟨rfl,rfl⟩ | cases h
end Go.Xw
namespace Go.Xg
open Go.RowKit Go.Xw
inductive GV where
 | v (x:Value)
 | aaF
 | agg (cs:List GV)
 | tup (cs:List GV)
 | sl (k:Nat) (rows:List (List GV))
 | box (cs:List GV) (o:Nat)
 | loc (i o:Nat)
 | vec (i n:Nat)
 | vp (i n k idx off:Nat)
 | arr (i o n:Nat)
 | fn (f:Fn) (first cap:List GV)
abbrev Fz:=Nat->Nat->Option GV
inductive Bk where
 | no
 | fix (b:Nat)
 | gr (h:Value) (m:Nat)
def Bk.blk:Bk->Option Nat
 | .no=>none
 | .fix b=>some b
 | .gr h _=>h.ownBlock
abbrev Bt:=Nat->Bk
def ca (K K':Fz):Prop:=∀ b o g,K b o=some g->K' b o=some g
def sj:Bk->Bk->Prop
 | .no,_=>True
 | .fix b,x=>x=.fix b
 | .gr h m,x=>∃ h' m',x=.gr h' m'/\m<=m'/\(m'=m->h'=h)
def cX (β bL:Bt):Prop:=∀ i,sj (β i) (bL i)
theorem ca.refl (K:Fz):ca K K:=fun _ _ _ h=>h
theorem ca.trans {a b c:Fz} (h:ca a b) (k:ca b c):ca a c:=fun x y z hz=>k x y z (h x y z hz)
theorem sj.refl (x:Bk):sj x x:=by cases x with | no=>trivial | fix b=>rfl | gr h m=>exact ⟨h,m,rfl,Nat.le_refl _,fun _=>rfl⟩
theorem sj.trans {a b c:Bk} (h:sj a b) (k:sj b c):sj a c:=by
 cases a with
 | no=>trivial
 | fix x=>cases h;exact k
 | gr x m =>
  obtain ⟨x',m',rfl,h1,h2⟩:=h;obtain ⟨x2,m2,rfl,h3,h4⟩:=k
  exact ⟨x2,m2,rfl,Nat.le_trans h1 h3,fun he=>by
   have:m'=m:=by omega
   rw [h4 (by omega),h2 this]⟩
theorem cX.refl (β:Bt):cX β β:=fun i=>sj.refl _
theorem cX.trans {a b c:Bt} (h:cX a b) (k:cX b c):cX a c:=fun i=>(h i).trans (k i)
inductive Rel (K:Fz) (β:Bt):Value->GV->Prop
 | v (x:Value):Rel K β x (.v x)
 | aaF (x:Value):Rel K β x .aaF
 | agg (vs:List Value) (cs:List GV) (hl:vs.length=cs.length) (h:∀ (i:Nat) v g,vs[i]?=some v->cs[i]?=some g->Rel K β v g):Rel K β (.agg vs.toArray) (.agg cs)
 | tup (vs:List Value) (cs:List GV) (hl:vs.length=cs.length) (h:∀ (i:Nat) v g,vs[i]?=some v->cs[i]?=some g->Rel K β v g):Rel K β (.tuple vs.toArray) (.tup cs)
 | sl0 (a:Option Addr) (c k:Nat):Rel K β (.slice a 0 c) (.sl k [])
 | sl (b o c k:Nat) (rows:List (List GV)) (h:∀ (i:Nat) r,rows[i]?=some r->r.length=k/\∀ (j:Nat) g,r[j]?=some g->K b (o+i * k+j)=some g) (hc:rows.length<=c):Rel K β (.slice (some ⟨b,o,none⟩) rows.length c) (.sl k rows)
 | box (b o' o:Nat) (cs:List GV) (h:∀ (j:Nat) g,cs[j]?=some g->K b (o'+j)=some g):Rel K β (.pointer (some ⟨b,o'+o,none⟩)) (.box cs o)
 | loc (i o b:Nat) (h:β i=.fix b):Rel K β (.pointer (some ⟨b,o,none⟩)) (.loc i o)
 | vec (i n:Nat) (a:Option Addr) (c:Nat) (h:∃ h m,β i=.gr h m/\n<=m/\(m=n->.slice a n c=h)):Rel K β (.slice a n c) (.vec i n)
 | vp (i n k idx off:Nat) (x:Value) (h:∃ h m,β i=.gr h m/\n<=m/\(m=n->∃ b,h.ownBlock=some b/\x=.pointer (some ⟨b,idx * k+off,none⟩))):Rel K β x (.vp i n k idx off)
 | arr (i o n b c:Nat) (h:β i=.fix b):Rel K β (.slice (some ⟨b,o,none⟩) n c) (.arr i o n)
 | fn (f:Fn) (xs ys:List Value) (first cap:List GV) (hl:xs.length=first.length) (iX:ys.length=cap.length) (h:∀ (i:Nat) v g,xs[i]?=some v->first[i]?=some g->Rel K β v g)
   (h':∀ (i:Nat) v g,ys[i]?=some v->cap[i]?=some g->Rel K β v g):Rel K β (.func f xs.toArray ys.toArray) (.fn f first cap)
theorem Rel.mono {K K':Fz} {β bL:Bt} {x:Value} {g:GV} (h:Rel K β x g) (hk:ca K K') (hb:cX β bL):Rel K' bL x g:=by
 induction h with
 | v x=>exact .v x
 | aaF x=>exact .aaF x
 | agg vs cs hl h ih=>exact .agg vs cs hl ih
 | tup vs cs hl h ih=>exact .tup vs cs hl ih
 | sl0 a c k=>exact .sl0 a c k
 | sl b o c k rows h hc=>exact .sl b o c k rows (fun i r hr=>⟨(h i r hr).1,fun j g hg=>hk _ _ _ ((h i r hr).2 j g hg)⟩) hc
 | box b o' o cs h=>exact .box b o' o cs fun j g hg=>hk _ _ _ (h j g hg)
 | loc i o b h=>exact .loc i o b (by have:=hb i;rw [h] at this;exact this)
 | vec i n a c h =>
  obtain ⟨h0,m,h1,h2,h3⟩:=h;have h4:=hb i;rw [h1] at h4;obtain ⟨h',m',h5,h6,h7⟩:=h4;exact .vec i n a c ⟨h',m',h5,by omega,fun he=>by rw [h7 (by omega)];exact h3 (by omega)⟩
 | vp i n k idx off x h =>
  obtain ⟨h0,m,h1,h2,h3⟩:=h;have h4:=hb i;rw [h1] at h4;obtain ⟨h',m',h5,h6,h7⟩:=h4;exact .vp i n k idx off x ⟨h',m',h5,by omega,fun he=>by rw [h7 (by omega)];exact h3 (by omega)⟩
 | arr i o n b c h=>exact .arr i o n b c (by have:=hb i;rw [h] at this;exact this)
 | fn f xs ys first cap hl iX h h' ih ih'=>exact .fn f xs ys first cap hl iX ih ih'
def GV.pc:GV->Bool
 | .v _=>true
 | .sl _ _=>true
 | .box _ _=>true
 | _=>false
theorem Rel.pc {K:Fz} {β bL:Bt} {x:Value} {g:GV} (h:Rel K β x g) (hp:g.pc=true):Rel K bL x g:=by
 cases h <;> first | (cases hp;done) | skip
 ·exact .v _
 ·exact .sl0 _ _ _
 ·rename_i h hc;exact .sl _ _ _ _ _ h hc
 ·rename_i h;exact .box _ _ _ _ h
def GV.one:GV->Bool
 | .v x=>KH x
 | .aaF=>false
 | .agg _=>false
 | .tup _=>false
 | .vp _ _ _ _ _=>false
 | _=>true
theorem Rel.one {K:Fz} {β:Bt} {x:Value} {g:GV} (h:Rel K β x g) (ho:g.one=true):KH x=true:=by
 cases h <;> first | exact ho | rfl | (cases ho;done)
abbrev aV (K:Fz) (β:Bt) (vs:List Value) (gs:List GV):Prop:=vs.length=gs.length/\∀ (i:Nat) v g,vs[i]?=some v->gs[i]?=some g->Rel K β v g
theorem aV.mono {K K':Fz} {β bL:Bt} {vs:List Value} {gs:List GV} (h:aV K β vs gs) (hk:ca K K') (hb:cX β bL):aV K' bL vs gs:=⟨h.1,fun i v g h1 h2=>(h.2 i v g h1 h2).mono hk hb⟩
theorem aV.nil {K:Fz} {β:Bt}:aV K β [] []:=⟨rfl,fun i v g h=>by simp at h⟩
theorem aV.cons {K:Fz} {β:Bt} {v:Value} {g:GV} {vs:List Value} {gs:List GV} (h:Rel K β v g) (hs:aV K β vs gs):aV K β (v::vs) (g::gs):=by
 refine ⟨by simp [hs.1],fun i x y h1 h2=>?_⟩
 cases i with
 | zero=>cases h1;cases h2;exact h
 | succ i=>exact hs.2 i x y h1 h2
theorem aV.nf {K:Fz} {β:Bt} {v:Value} {g:GV} {vs:List Value} {gs:List GV} (h:aV K β (v::vs) (g::gs)):Rel K β v g/\aV K β vs gs :=
 ⟨h.2 0 v g rfl rfl,by simpa using h.1,fun i x y h1 h2=>h.2 (i+1) x y h1 h2⟩
theorem aV.app {K:Fz} {β:Bt} {vs us:List Value} {gs hs:List GV} (h:aV K β vs gs) (k:aV K β us hs):aV K β (vs++us) (gs++hs):=by
 induction vs generalizing gs with
 | nil =>
  have:gs=[]:=by have:=h.1;simp at this;exact eq_nil_of_length_eq_zero this.symm
  subst this;exact k
 | cons v vs ih =>
  cases gs with
  | nil=>have:=h.1;simp at this
  | cons g gs=>obtain ⟨h1,h2⟩:=h.nf;exact .cons h1 (ih h2)
theorem aV.at {K:Fz} {β:Bt} {vs:List Value} {gs:List GV} (h:aV K β vs gs) {i:Nat} {g:GV} (hg:gs[i]?=some g):∃ v,vs[i]?=some v/\Rel K β v g:=by
 have hi:i < vs.length:=by rw [h.1];exact (List.getElem?_eq_some_iff.1 hg).1
 exact ⟨vs[i],by simp [hi],h.2 i _ g (by simp [hi]) hg⟩
theorem aV.take {K:Fz} {β:Bt} {vs:List Value} {gs:List GV} (h:aV K β vs gs) (n:Nat):aV K β (vs.take n) (gs.take n):=by
 refine ⟨by simp [h.1],fun i x y h1 h2=>?_⟩;rw [getElem?_take] at h1 h2;split at h1
 ·rename_i hi;rw [if_pos hi] at h2;exact h.2 i x y h1 h2
 ·cases h1
theorem aV.drop {K:Fz} {β:Bt} {vs:List Value} {gs:List GV} (h:aV K β vs gs) (n:Nat):aV K β (vs.drop n) (gs.drop n):=by
 refine ⟨by simp [h.1],fun i x y h1 h2=>?_⟩;rw [getElem?_drop] at h1 h2;exact h.2 _ x y h1 h2
def cq:List GV->Nat->GV
 | [],_=>.aaF
 | g::_,0=>g
 | _::l,n+1=>cq l n
def bj:List GV->Nat->GV->List GV
 | [],_,_=>[]
 | _::l,0,g=>g::l
 | x::l,n+1,g=>x::bj l n g
def aP (l:List GV):Operand->GV
 | .tmp t=>cq l t
 | .const v=>.v v
 | .global g=>.v (.pointer (some ⟨g,0,none⟩))
 | .func f=>.v (.func (.func f) #[] #[])
def bh (l:List GV) (d:Option Tmp) (g:GV):List GV:=match d with | some d=>bj l d g | none=>l
inductive FR (K:Fz) (β:Bt):List GV->List Value->Prop
 | nil:FR K β [] []
 | cons {g:GV} {v:Value} {gs:List GV} {vs:List Value} (h:Rel K β v g) (t:FR K β gs vs):FR K β (g::gs) (v::vs)
theorem FR.mono {K K':Fz} {β bL:Bt} {gs:List GV} {vs:List Value} (h:FR K β gs vs) (hk:ca K K') (hb:cX β bL):FR K' bL gs vs:=by
 induction h with
 | nil=>exact .nil
 | cons h t ih=>exact .cons (h.mono hk hb) ih
theorem FR.nth {K:Fz} {β:Bt} {gs:List GV} {vs:List Value} (h:FR K β gs vs) (t:Nat):Rel K β (nth vs t) (cq gs t):=by
 induction h generalizing t with
 | nil=>exact .aaF _
 | cons h _ ih=>cases t with | zero=>exact h | succ t=>exact ih t
theorem FR.ev {K:Fz} {β:Bt} {gs:List GV} {vs:List Value} (h:FR K β gs vs) (x:Operand):Rel K β (ev vs x) (aP gs x):=by
 cases x with
 | tmp t=>exact h.nth t
 | const v=>exact .v _
 | global g=>exact .v _
 | func f=>exact .v _
theorem FR.eK {K:Fz} {β:Bt} {gs:List GV} {vs:List Value} (h:FR K β gs vs) (t:Nat) {v:Value} {g:GV} (hv:Rel K β v g):FR K β (bj gs t g) (eK vs t v):=by
 induction h generalizing t with
 | nil=>exact .nil
 | cons h ht ih=>cases t with | zero=>exact .cons hv ht | succ t=>exact .cons h (ih t)
theorem FR.put {K:Fz} {β:Bt} {gs:List GV} {vs:List Value} (h:FR K β gs vs) (d:Option Tmp) {v:Value} {g:GV} (hv:Rel K β v g):FR K β (bh gs d g) (put vs d v):=by
 cases d with | none=>exact h | some d=>exact h.eK d hv
theorem FR.args {K:Fz} {β:Bt} {gs:List GV} {vs:List Value} (h:FR K β gs vs) (xs:List Operand):aV K β (xs.map (Xw.ev vs)) (xs.map (aP gs)):=by
 induction xs with
 | nil=>exact .nil
 | cons x xs ih=>exact .cons (h.ev x) ih
inductive Ob where
 | gone
 | box (E:TypeId) (cs:List GV)
 | vec (E:TypeId) (k fz:Nat) (rows:List (List GV))
 | vech (E:TypeId) (k:Nat) (rows:List (List GV)) (x:Value)
 | lost
def iN (K:Fz) (w:World):Prop:=∀ b o g,K b o=some g->g.pc=true/\∃ v,fy w.heap b o=some v/\Rel K (fun _=>.no) v g
def fq (k:Nat) (rows:List (List GV)):Prop:=∀ r∈rows,r.length=k/\∀ g∈r,g.pc=true
def jN (K:Fz) (β:Bt) (w:World) (i:Nat):Ob->Prop
 | .gone=>β i=.no
 | .box E cs=>∃ b vs,β i=.fix b/\w.heap[b]?=some (.cells vs.toArray E (0,0))/\aV K β vs cs/\∀ o,K b o=none
 | .vec E k fz rows=>∃ h xs,β i=.gr h rows.length/\gk w 0 E k h rows.length xs/\aV K β xs rows.flatten/\fq k rows /\
   (∀ b,h.ownBlock=some b->(∀ o,fz * k<=o->K b o=none)/\∀ o g,o < fz * k->rows.flatten[o]?=some g->K b o=some g)/\fz<=rows.length
 | .vech E k rows x=>∃ xs,β i=.gr x rows.length/\gk w 0 E k x rows.length xs/\aV K β xs rows.flatten/\fq k rows/\∀ b,x.ownBlock=some b->∀ o,K b o=none
 | .lost=>∀ b,(β i).blk=some b->b < w.heap.size
def vA:List Int:=(List.range 20).map fun i=>((10 ^ i:Nat):Int)
def vF:List Int:=(List.range 256).map fun i=>if i=9\/i=10\/i=11\/i=12\/i=13\/i=32 then 1 else 0
def xg (m:Int):Fz:=fun b o =>
 if b=1 then (match o with | 0=>some (.v (.int .i64 m)) | _=>none)
 else if b=3 then vA[o]?.map fun z=>.v (.int .u64 z)
 else if b=0 then vF[o]?.map fun z=>.v (.int .u8 z)
 else none
def so (w:World) (b n:Nat):Prop:=∃ cs E z,w.heap[b]?=some (.cells cs E z)/\cs.size=n
theorem so.lt {w:World} {b n:Nat} (h:so w b n):b < w.heap.size:=by obtain ⟨cs,E,z,h,_⟩:=h;exact rp h
structure eY (K:Fz) (β:Bt) (w:World):Prop where
 le:∃ m,ca (xg m) K
 pow:so w 3 20
 spc:so w 0 256
 free:∀ i b,(β i).blk=some b->b≠3/\b≠0
theorem eY.step {S:Nat->Prop} {K K':Fz} {β bL:Bt} {w w':World} (h:eY K β w) (hx:Ext S w w') (hS:∀ b,S b->∃ i,(β i).blk=some b) (hk:ca K K') (qe:∀ i b,(bL i).blk=some b->(∃ j,(β j).blk=some b)\/w.heap.size<=b):eY K' bL w':=by
 obtain ⟨⟨m,h1⟩,h2,h3,h4⟩:=h
 have key:∀ {b n:Nat},so w b n->¬ S b->so w' b n:=fun ⟨cs,E,z,a,e⟩ hn=>⟨cs,E,z,hx.blk a hn,e⟩
 refine ⟨⟨m,h1.trans hk⟩,key h2 (fun hs=>?_),key h3 (fun hs=>?_),fun i b hb=>?_⟩
 ·obtain ⟨i,hi⟩:=hS _ hs;exact (h4 i _ hi).1 rfl
 ·obtain ⟨i,hi⟩:=hS _ hs;exact (h4 i _ hi).2 rfl
 ·rcases qe i b hb with ⟨j,hj⟩ | hs
  ·exact h4 j b hj
  ·have:=h2.lt;have:=h3.lt;exact ⟨by omega,by omega⟩
structure Bs where
 w0:World
 foot:Nat->Prop
 K0:Fz
 β0:Bt
 m:Nat
structure Inv (B:Bs) (K:Fz) (β:Bt) (Γ:List Ob) (w:World):Prop where
 ext:Ext B.foot B.w0 w
 kle:ca B.K0 K
 ble:cX B.β0 β
 loc:∀ i,B.m<=i->B.β0 i=.no
 fz:iN K w
 ob:∀ i x,Γ[i]?=some x->jN K β w i x
 out:∀ i,Γ.length<=i->β i=.no
 dis:∀ i j b,(β i).blk=some b->(β j).blk=some b->i=j
 own:∀ i b,(β i).blk=some b->B.foot b\/B.w0.heap.size<=b
 kn:∀ b o g,K b o=some g->B.K0 b o=some g\/B.foot b\/B.w0.heap.size<=b
 tab:eY K β w
section
variable {B:Bs} {K:Fz} {β:Bt} {Γ:List Ob} {w:World}
theorem jN.lt {i:Nat} {x:Ob} (h:jN K β w i x) {b:Nat} (hb:(β i).blk=some b):b < w.heap.size:=by
 cases x with
 | gone=>simp only [jN] at h;rw [h] at hb;cases hb
 | box E cs =>
  obtain ⟨b',vs,h1,h2,_⟩:=h;rw [h1] at hb;cases hb;exact rp h2
 | vec E k fz rows =>
  obtain ⟨h',xs,h1,h2,_⟩:=h;rw [h1] at hb;exact (h2.lt hb).2
 | vech E k rows x =>
  obtain ⟨xs,h1,h2,_⟩:=h;rw [h1] at hb;exact (h2.lt hb).2
 | lost=>exact h b hb
theorem Inv.lt (h:Inv B K β Γ w) {i b:Nat} (hb:(β i).blk=some b):b < w.heap.size:=by
 by_cases hi:i < Γ.length
 ·exact (h.ob i Γ[i] (by simp [hi])).lt hb
 ·rw [h.out i (by omega)] at hb;cases hb
theorem iN.lt (h:iN K w) {b o:Nat} {g:GV} (hg:K b o=some g):b < w.heap.size:=by
 obtain ⟨_,v,hv,_⟩:=h b o g hg;exact EK hv
def blocks (β:Bt):Nat->Prop:=fun b=>∃ i,(β i).blk=some b
def cur (K:Fz) (β:Bt) (Γ:List Ob) (w:World):Bs:=⟨w,blocks β,K,β,Γ.length⟩
theorem Inv.here (h:Inv B K β Γ w):Inv (cur K β Γ w) K β Γ w :=
 ⟨Ext.refl w,ca.refl K,cX.refl β,h.out,h.fz,h.ob,h.out,h.dis,fun i b hb=>.inl ⟨i,hb⟩,fun _ _ _ h=>.inl h,h.tab⟩
theorem Inv.NH {K':Fz} {bL:Bt} {aH Xr:List Ob} {w':World} (h:Inv B K β Γ w) (k:Inv (cur K β Xr w) K' bL aH w'):Inv B K' bL aH w' :=
 ⟨h.ext.step k.ext (fun j hj=>by obtain ⟨i,hi⟩:=hj;exact (h.own i j hi).symm),h.kle.trans k.kle,h.ble.trans k.ble,h.loc,k.fz,k.ob,k.out,k.dis,
  fun i b hb=>by
   rcases k.own i b hb with h1 | h1
   ·obtain ⟨j,hj⟩:=h1;exact h.own j b hj
   ·exact .inr (Nat.le_trans h.ext.size h1),
  fun b o g hg=>by
   rcases k.kn b o g hg with h1 | ⟨j,hj⟩ | h1
   ·exact h.kn b o g h1
   ·exact .inr (h.own j b hj)
   ·exact .inr (.inr (Nat.le_trans h.ext.size h1)),k.tab⟩
theorem jN.ext {S:Nat->Prop} {K':Fz} {bL:Bt} {w':World} {i:Nat} {x:Ob} (h:jN K β w i x) (hx:Ext S w w') (hs:∀ b,(β i).blk=some b->¬ S b) (hk:ca K K') (hb:cX β bL)
  (he:bL i=β i) (hn:∀ b o,(β i).blk=some b->K b o=none->K' b o=none):jN K' bL w' i x:=by
 cases x with
 | gone=>simp only [jN] at h |-;rw [he,h]
 | box E cs =>
  obtain ⟨b,vs,h1,h2,h3,h4⟩:=h
  have ef:(β i).blk=some b:=by rw [h1];rfl
  exact ⟨b,vs,he.trans h1,hx.blk h2 (hs b ef),h3.mono hk hb,fun o=>hn b o ef (h4 o)⟩
 | vec E k fz rows =>
  obtain ⟨h',xs,h1,h2,h3,h4,h5,h6⟩:=h
  have ef:∀ b,h'.ownBlock=some b->(β i).blk=some b:=fun b hb=>by rw [h1];exact hb
  exact ⟨h',xs,he.trans h1,h2.ext hx (fun b bg=>hs b (ef b bg)),h3.mono hk hb,h4,fun b bg=>⟨fun o ho=>hn b o (ef b bg) ((h5 b bg).1 o ho),fun o g ho hg=>hk _ _ _ ((h5 b bg).2 o g ho hg)⟩,h6⟩
 | vech E k rows x =>
  obtain ⟨xs,h1,h2,h3,h4,h5⟩:=h
  have ef:∀ b,x.ownBlock=some b->(β i).blk=some b:=fun b hb=>by rw [h1];exact hb
  exact ⟨xs,he.trans h1,h2.ext hx (fun b bg=>hs b (ef b bg)),h3.mono hk hb,h4,fun b bg o=>hn b o (ef b bg) (h5 b bg o)⟩
 | lost=>exact fun b bg=>Nat.lt_of_lt_of_le (h b (by rw [<-he];exact bg)) hx.size
theorem iN.ext {S:Nat->Prop} {w':World} (h:iN K w) (hx:Ext S w w') (hs:∀ b o g,K b o=some g->¬ S b):iN K w':=fun b o g hg=>by
 obtain ⟨h1,v,hv,hr⟩:=h b o g hg;exact ⟨h1,v,hx.c hv (hs b o g hg),hr⟩
theorem Inv.same {w':World} (h:Inv B K β Γ w) (hx:Ext gP w w'):Inv B K β Γ w' :=
 ⟨h.ext.step hx (fun j hj=>hj.elim),h.kle,h.ble,h.loc,h.fz.ext hx (fun _ _ _ _ h=>h),fun i x hi=>(h.ob i x hi).ext hx (fun _ _ h=>h) (ca.refl K) (cX.refl β) rfl (fun _ _ _ h=>h),h.out,h.dis,h.own,h.kn,h.tab.step hx (fun _ h=>h.elim) (ca.refl K) (fun i b h=>.inl ⟨i,h⟩)⟩
def eX (p:Nat->Bool) (β:Bt):Bt:=fun i=>match p i with
 | true=>β i
 | false=>.no
theorem hY {p:Nat->Bool} {β:Bt} {i:Nat} (h:p i=true):eX p β i=β i:=by simp [eX,h]
theorem sc {p:Nat->Bool} {β:Bt} {i:Nat} (h:p i=false):eX p β i=.no:=by simp [eX,h]
end
end Go.Xg
namespace Go.Xg
open Go.RowKit Go.Xw
section
variable {B:Bs} {K:Fz} {β:Bt} {Γ:List Ob} {w:World}
def ep (β:Bt) (i:Nat) (x:Bk):Bt:=fun j=>if j=i then x else β j
theorem ba {i:Nat} {x:Bk}:ep β i x i=x:=by simp [ep]
theorem bx {i j:Nat} {x:Bk} (h:j≠i):ep β i x j=β j:=by simp [ep,h]
theorem lD {i j b:Nat} {x:Bk} (h:(ep β i x j).blk=some b):x.blk=some b\/(β j).blk=some b:=by
 by_cases hj:j=i
 ·subst hj;rw [ba] at h;exact .inl h
 ·rw [bx hj] at h;exact .inr h
theorem fM {i:Nat} {x:Bk} (h:sj (β i) x):cX β (ep β i x):=fun j=>by
 by_cases hj:j=i
 ·subst hj;rw [ba];exact h
 ·rw [bx hj];exact sj.refl _
theorem aV.self {vs:List Value}:aV K β vs (vs.map .v):=⟨by simp,fun i v g h1 h2=>by
 rw [getElem?_map,h1] at h2;cases h2;exact .v _⟩
theorem Inv.add {w':World} {b:Nat} {vs:List Value} {cs:List GV} {E:TypeId} (h:Inv B K β Γ w) (hn:uK w w' b (.cells vs.toArray E)) (hr:aV K β vs cs) :
  Inv B K (ep β Γ.length (.fix b)) (Γ++[.box E cs]) w':=by
 have bR:β Γ.length=.no:=h.out _ (Nat.le_refl _);have hle:cX β (ep β Γ.length (.fix b)):=fM (by rw [bR];trivial)
 have aq:∀ i b',(β i).blk=some b'->b'≠b:=fun i b' bg=>by have:=h.lt bg;have:=hn.fresh;omega
 have hK:∀ o,K b o=none:=fun o=>by
  cases hk:K b o with
  | none=>rfl
  | some g=>have:=h.fz.lt hk;have:=hn.fresh;omega
 refine ⟨h.ext.step hn.ext (fun j hj=>hj.elim),h.kle,h.ble.trans hle,h.loc,h.fz.ext hn.ext (fun _ _ _ _ h=>h),fun i x hi=>?_,fun i hi=>?_,fun i j b' hi hj=>?_,fun i b' hi=>?_,h.kn,h.tab.step hn.ext (fun _ h=>h.elim) (ca.refl K) (fun i b2 hi=>by rcases lD hi with h1 | h1;(· cases h1;exact .inr (by have:=hn.fresh;omega));exact .inl ⟨i,h1⟩)⟩
 ·by_cases wY:i < Γ.length
  ·rw [getElem?_append_left wY] at hi
   have bK:i≠Γ.length:=by omega
   exact (h.ob i x hi).ext hn.ext (fun _ _ h=>h) (ca.refl K) hle (bx bK) (fun _ _ _ h=>h)
  ·have:i=Γ.length:=by have:=(List.getElem?_eq_some_iff.1 hi).1;simp at this;omega
   subst this;simp at hi;subst hi;exact ⟨b,vs,ba,hn.blk,hr.mono (ca.refl K) hle,hK⟩
 ·simp at hi;rw [bx (by omega)];exact h.out i (by omega)
 ·by_cases h1:i=Γ.length <;> by_cases h2:j=Γ.length
  ·omega
  ·subst h1;rw [ba] at hi;rw [bx h2] at hj;cases hi;exact absurd rfl (aq j _ hj)
  ·subst h2;rw [ba] at hj;rw [bx h1] at hi;cases hj;exact absurd rfl (aq i _ hi)
  ·rw [bx h1] at hi;rw [bx h2] at hj;exact h.dis i j b' hi hj
 ·by_cases h1:i=Γ.length
  ·subst h1;rw [ba] at hi;cases hi;exact .inr (by have:=hn.fresh;have:=h.ext.size;omega)
  ·rw [bx h1] at hi;exact h.own i b' hi
theorem Inv.Ci {w':World} {E k:Nat} {x:Value} {xs:List Value} {rows:List (List GV)} (h:Inv B K β Γ w) (hx:Ext gP w w') (ho:gk w' 0 E k x rows.length xs) (hf:∀ b,x.ownBlock=some b->w.heap.size<=b)
  (hr:aV K β xs rows.flatten) (hk:fq k rows):Inv B K (ep β Γ.length (.gr x rows.length)) (Γ++[.vec E k 0 rows]) w':=by
 have bR:β Γ.length=.no:=h.out _ (Nat.le_refl _);have hle:cX β (ep β Γ.length (.gr x rows.length)):=fM (by rw [bR];trivial)
 have aq:∀ i b',(β i).blk=some b'->x.ownBlock≠some b':=fun i b' bg he=>by have:=h.lt bg;have:=hf b' he;omega
 have hK:∀ b,x.ownBlock=some b->∀ o,K b o=none:=fun b hb o=>by
  cases hk:K b o with
  | none=>rfl
  | some g=>have:=h.fz.lt hk;have:=hf b hb;omega
 refine ⟨h.ext.step hx (fun j hj=>hj.elim),h.kle,h.ble.trans hle,h.loc,h.fz.ext hx (fun _ _ _ _ h=>h),fun i y hi=>?_,fun i hi=>?_,fun i j b' hi hj=>?_,fun i b' hi=>?_,h.kn,h.tab.step hx (fun _ h=>h.elim) (ca.refl K) (fun i b2 hi=>by rcases lD hi with h1 | h1;(· exact .inr (hf b2 h1));exact .inl ⟨i,h1⟩)⟩
 ·by_cases wY:i < Γ.length
  ·rw [getElem?_append_left wY] at hi
   have bK:i≠Γ.length:=by omega
   exact (h.ob i y hi).ext hx (fun _ _ h=>h) (ca.refl K) hle (bx bK) (fun _ _ _ h=>h)
  ·have:i=Γ.length:=by have:=(List.getElem?_eq_some_iff.1 hi).1;simp at this;omega
   subst this;simp at hi;subst hi;exact ⟨x,xs,ba,ho,hr.mono (ca.refl K) hle,hk,fun b hb=>⟨fun o _=>hK b hb o,fun o g ho _=>by omega⟩,Nat.zero_le _⟩
 ·simp at hi;rw [bx (by omega)];exact h.out i (by omega)
 ·by_cases h1:i=Γ.length <;> by_cases h2:j=Γ.length
  ·omega
  ·subst h1;rw [ba] at hi;rw [bx h2] at hj;exact absurd hi (aq j _ hj)
  ·subst h2;rw [ba] at hj;rw [bx h1] at hi;exact absurd hj (aq i _ hi)
  ·rw [bx h1] at hi;rw [bx h2] at hj;exact h.dis i j b' hi hj
 ·by_cases h1:i=Γ.length
  ·subst h1;rw [ba] at hi;exact .inr (Nat.le_trans h.ext.size (hf b' hi))
  ·rw [bx h1] at hi;exact h.own i b' hi
def kv (K:Fz) (b:Nat) (cs:List GV):Fz:=fun b' o=>if b'=b then cs[o]? else K b' o
theorem uM {b o:Nat} {cs:List GV} {g:GV} (h:cs[o]?=some g):kv K b cs b o=some g:=by simp [kv,h]
theorem Inv.tR {w':World} {b:Nat} {vs:List Value} {cs:List GV} {E:TypeId} (h:Inv B K β Γ w) (hn:uK w w' b (.cells vs.toArray E)) (hr:aV K β vs cs) (hp:∀ g∈cs,g.pc=true) :
  ca K (kv K b cs)/\Inv B (kv K b cs) β Γ w':=by
 have TE:∀ o,K b o=none:=fun o=>by
  cases hk:K b o with
  | none=>rfl
  | some g=>have:=h.fz.lt hk;have:=hn.fresh;omega
 have hle:ca K (kv K b cs):=fun b' o g hg=>by
  by_cases hb:b'=b
  ·subst hb;rw [TE] at hg;cases hg
  ·simp [kv,hb,hg]
 refine ⟨hle,h.ext.step hn.ext (fun j hj=>hj.elim),h.kle.trans hle,h.ble,h.loc,fun b' o g hg=>?_,fun i x hi=>?_,h.out,h.dis,h.own,fun b' o g hg=>?_,h.tab.step hn.ext (fun _ h=>h.elim) hle (fun i b2 h=>.inl ⟨i,h⟩)⟩
 ·by_cases hb:b'=b
  ·subst hb;simp [kv] at hg;obtain ⟨v,hv,eL⟩:=hr.at hg;have xR:=hp g (mem_of_getElem? hg);exact ⟨xR,v,vR hn.blk (by simpa using hv),(eL.mono hle (cX.refl β)).pc xR⟩
  ·have kW:K b' o=some g:=by simpa [kv,hb] using hg
   obtain ⟨h1,v,h2,h3⟩:=h.fz b' o g kW;exact ⟨h1,v,hn.ext.c h2 (fun h=>h),h3.mono hle (cX.refl _)⟩
 ·refine (h.ob i x hi).ext hn.ext (fun _ _ h=>h) hle (cX.refl β) rfl (fun b' o hb hk=>?_)
  have:b'≠b:=by have:=h.lt hb;have:=hn.fresh;omega
  simp [kv,this,hk]
 ·by_cases hb:b'=b
  ·exact .inr (.inr (by have:=hn.fresh;have:=h.ext.size;omega))
  ·exact h.kn b' o g (by simpa [kv,hb] using hg)
theorem Inv.store {w':World} {i b:Nat} {E:TypeId} {cs zm:List GV} {Vk:List Value} (h:Inv B K β Γ w) (hi:Γ[i]?=some (.box E cs)) (hb:β i=.fix b) (hs:tL w w' b Vk.toArray E)
  (hr:aV K β Vk zm):Inv B K β (Γ.set i (.box E zm)) w':=by
 obtain ⟨b0,vs,h1,h2,h3,h4⟩:=h.ob i _ hi;rw [hb] at h1;cases h1
 have ef:(β i).blk=some b:=by rw [hb];rfl
 refine ⟨h.ext.step hs.ext (fun j hj=>?_),h.kle,h.ble,h.loc,h.fz.ext hs.ext (fun b' o g hg he=>?_),fun j x hj=>?_,fun j hj=>h.out j (by simpa using hj),h.dis,h.own,h.kn,h.tab.step hs.ext (fun j hj=>⟨i,by subst hj;exact ef⟩) (ca.refl K) (fun i b2 h=>.inl ⟨i,h⟩)⟩
 ·subst hj;exact (h.own i _ ef).symm
 ·subst he;rw [h4] at hg;cases hg
 ·rw [getElem?_set] at hj;split at hj
  ·rename_i fB;split at hj
   ·cases hj;subst fB
    exact ⟨b,Vk,hb,hs.blk,hr,h4⟩
   ·cases hj
  ·rename_i fB;refine (h.ob j x hj).ext hs.ext (fun b' bg he=>?_) (ca.refl K) (cX.refl β) rfl (fun _ _ _ h=>h);subst he;exact fB (h.dis i j _ ef bg)
def Bj (K:Fz) (x:Value) (n:Nat) (fl:List GV):Fz:=fun b o=>if x.ownBlock=some b/\o < n then fl[o]? else K b o
theorem yL {x:Value} {n b o:Nat} {fl:List GV} (h1:x.ownBlock=some b) (h2:o < n):Bj K x n fl b o=fl[o]?:=by unfold Bj;rw [if_pos ⟨h1,h2⟩]
theorem wa {x:Value} {n b o:Nat} {fl:List GV} (h:¬ (x.ownBlock=some b/\o < n)):Bj K x n fl b o=K b o:=by unfold Bj;rw [if_neg h]
theorem Bl {x:Value} {n b o:Nat} {fl:List GV} {g:GV} (h:Bj K x n fl b o=some g):(x.ownBlock=some b/\o < n/\fl[o]?=some g)\/(¬ (x.ownBlock=some b/\o < n)/\K b o=some g):=by
 by_cases hc:x.ownBlock=some b/\o < n
 ·rw [yL hc.1 hc.2] at h;exact .inl ⟨hc.1,hc.2,h⟩
 ·rw [wa hc] at h;exact .inr ⟨hc,h⟩
theorem Inv.grow {w':World} {i:Nat} {E k fz:Nat} {rows news:List (List GV)} {h0 x:Value} {xs ns:List Value} (h:Inv B K β Γ w) (hi:Γ[i]?=some (.vec E k fz rows)) (hb:β i=.gr h0 rows.length)
  (oT:gk w 0 E k h0 rows.length xs/\aV K β xs rows.flatten) (ho:gk w' 0 E k x (rows.length+news.length) (xs++ns)) (hx:Ext (fun b=>h0.ownBlock=some b) w w') (hf:∀ b,x.ownBlock=some b->h0.ownBlock=some b\/w.heap.size<=b)
  (hr:aV K β ns news.flatten) (hk:fq k news) (bK:news≠[]) (kP:∀ b,h0.ownBlock=some b->∀ o v,o < fz * k->fy w.heap b o=some v->fy w'.heap b o=some v) :
  ∃ K',ca K K'/\cX β (ep β i (.gr x (rows++news).length))/\Inv B K' (ep β i (.gr x (rows++news).length)) (Γ.set i (.vec E k fz (rows++news))) w':=by
 obtain ⟨sH,xs',h1,h2,h3,h4,h5,h6⟩:=h.ob i _ hi;rw [hb] at h1;cases h1;clear h2 h3
 have hlen:news.length≠0:=fun h=>bK (eq_nil_of_length_eq_zero h)
 have hle:cX β (ep β i (.gr x (rows++news).length)):=fM (by rw [hb];exact ⟨x,_,rfl,by simp,fun he=>by rw [List.length_append] at he;omega⟩)
 have xF:∀ b,h0.ownBlock=some b->(β i).blk=some b:=fun b bg=>by rw [hb];exact bg
 have J3:rows.flatten.length=rows.length * k:=by rw [<-oT.2.1];exact oT.1.1
 have aaj:fz * k<=rows.flatten.length:=by rw [J3];exact Nat.mul_le_mul_right k h6
 have Dt:ca K (Bj K x (fz * k) rows.flatten):=fun b o g hg=>by
  by_cases hc:x.ownBlock=some b/\o < fz * k
  ·rw [yL hc.1 hc.2]
   rcases hf b hc.1 with h7 | h7
   ·have QX:o < rows.flatten.length:=by omega
    have:=(h5 b h7).2 o rows.flatten[o] hc.2 (by simp [QX]);rw [this] at hg;cases hg;simp [QX]
   ·have:=h.fz.lt hg;omega
  ·rw [wa hc];exact hg
 refine ⟨Bj K x (fz * k) rows.flatten,Dt,hle,h.ext.step hx (fun j hj=>(h.own i j (xF j hj)).symm),h.kle.trans Dt,h.ble.trans hle,h.loc,fun b o g hg=>?_,fun j y hj=>?_,fun j hj=>?_,fun j j' b hj lA=>?_,fun j b hj=>?_,fun b o g hg=>?_,h.tab.step hx (fun j hj=>⟨i,xF j hj⟩) Dt (fun j b2 hi=>by rcases lD hi with h1 | h1;(· exact (hf b2 h1).imp (fun h2=>⟨i,xF b2 h2⟩) id);exact .inl ⟨j,h1⟩)⟩
 ·rcases Bl hg with ⟨bg,zD,hg⟩ | ⟨hc,hg⟩
  ·have xR:g.pc=true:=by
    obtain ⟨r,fS,c6⟩:=List.mem_flatten.1 (mem_of_getElem? hg);exact (h4 r fS).2 g c6
   obtain ⟨v,hv,eL⟩:=oT.2.at hg;obtain ⟨b2,c,rm,_,_,jt⟩:=ho.cells.2 (by intro h0;have:xs=[]:=(List.append_eq_nil_iff.1 h0).1;rw [this] at hv;simp at hv)
   have eB:b2=b:=by rw [rm] at bg;cases bg;rfl
   subst eB;have aq:o < xs.length:=(List.getElem?_eq_some_iff.1 hv).1;refine ⟨xR,v,?_,(eL.mono Dt hle).pc xR⟩;rw [<-eT];exact jt o v (by rw [getElem?_append_left aq];exact hv)
  ·obtain ⟨hp,v,hv,eL⟩:=h.fz b o g hg;refine ⟨hp,v,?_,eL.mono Dt (cX.refl _)⟩
   by_cases h7:h0.ownBlock=some b
   ·by_cases h8:o < fz * k
    ·exact kP b h7 o v h8 hv
    ·rw [(h5 b h7).1 o (by omega)] at hg;cases hg
   ·exact hx.c hv h7
 ·rw [getElem?_set] at hj;split at hj
  ·rename_i fB;split at hj
   ·cases hj;subst fB
    refine ⟨x,xs++ns,ba,by simpa using ho,?_,?_,fun b bg=>⟨fun o zD=>?_,fun o g zD hg=>?_⟩,by simp;omega⟩
    ·rw [List.flatten_append];exact (oT.2.mono Dt hle).app (hr.mono Dt hle)
    ·intro r MQ
     rcases List.mem_append.1 MQ with h7 | h7
     ·exact h4 r h7
     ·exact hk r h7
    ·rw [wa (by omega)]
     rcases hf b bg with h7 | h7
     ·exact (h5 b h7).1 o zD
     ·cases kY:K b o with
      | none=>rfl
      | some g=>have:=h.fz.lt kY;omega
    ·rw [yL bg zD];rw [List.flatten_append,getElem?_append_left (by omega)] at hg;exact hg
   ·cases hj
  ·rename_i fB;refine (h.ob j y hj).ext hx (fun b bg he=>?_) Dt hle (bx (fun he=>fB he.symm)) (fun b o bg kY=>?_)
   ·exact fB (h.dis i j b (xF b he) bg)
   ·rw [wa];exact kY;rintro ⟨h7,_⟩
    rcases hf b h7 with h8 | h8
    ·exact fB (h.dis i j b (xF b h8) bg)
    ·have:=h.lt bg;omega
 ·have lA:Γ.length<=j:=by simpa using hj
  have:i < Γ.length:=(List.getElem?_eq_some_iff.1 hi).1;rw [bx (by omega)];exact h.out j lA
 ·have key:∀ j b,j≠i->(β j).blk=some b->x.ownBlock≠some b:=fun j b FF bg he=>by
   rcases hf b he with h7 | h7
   ·exact FF (h.dis j i b bg (xF b h7))
   ·have:=h.lt bg;omega
  by_cases h1:j=i <;> by_cases h2:j'=i
  ·omega
  ·subst h1;rw [ba] at hj;rw [bx h2] at lA;exact absurd hj (key j' b h2 lA)
  ·subst h2;rw [ba] at lA;rw [bx h1] at hj;exact absurd lA (key j b h1 hj)
  ·rw [bx h1] at hj;rw [bx h2] at lA;exact h.dis j j' b hj lA
 ·by_cases h1:j=i
  ·subst h1;rw [ba] at hj
   rcases hf b hj with h7 | h7
   ·exact h.own j b (xF b h7)
   ·exact .inr (Nat.le_trans h.ext.size h7)
  ·rw [bx h1] at hj;exact h.own j b hj
 ·rcases Bl hg with ⟨bg,_,_⟩ | ⟨_,hg⟩
  ·rcases hf b bg with h7 | h7
   ·exact .inr (h.own i b (xF b h7))
   ·exact .inr (.inr (Nat.le_trans h.ext.size h7))
  ·exact h.kn b o g hg
theorem Inv.iv {i E k fz:Nat} {rows:List (List GV)} (h:Inv B K β Γ w) (hi:Γ[i]?=some (.vec E k fz rows)) :
  ∃ K',ca K K'/\(∀ x b,β i=.gr x rows.length->x.ownBlock=some b->∀ (o:Nat) g,rows.flatten[o]?=some g->K' b o=some g)/\Inv B K' β (Γ.set i (.vec E k rows.length rows)) w:=by
 obtain ⟨x,xs,h1,h2,h3,h4,h5,h6⟩:=h.ob i _ hi
 have J3:rows.flatten.length=rows.length * k:=by rw [<-h3.1];exact h2.1
 have ef:∀ b,x.ownBlock=some b->(β i).blk=some b:=fun b hb=>by rw [h1];exact hb
 have hle:ca K (Bj K x (rows.length * k) rows.flatten):=fun b o g hg=>by
  by_cases hc:x.ownBlock=some b/\o < rows.length * k
  ·rw [yL hc.1 hc.2]
   have aq:o < rows.flatten.length:=by omega
   by_cases ho:o < fz * k
   ·have:=(h5 b hc.1).2 o rows.flatten[o] ho (by simp [aq]);rw [this] at hg;cases hg;simp [aq]
   ·rw [(h5 b hc.1).1 o (by omega)] at hg;cases hg
  ·rw [wa hc];exact hg
 refine ⟨Bj K x (rows.length * k) rows.flatten,hle,fun x' b IG hb o g hg=>?_,h.ext,h.kle.trans hle,h.ble,h.loc,fun b o g hg=>?_,fun j y hj=>?_,fun j hj=>h.out j (by simpa using hj),h.dis,h.own,fun b o g hg=>?_,h.tab.step (S:=gP) (Ext.refl w) (fun _ h=>h.elim) hle (fun i b2 h=>.inl ⟨i,h⟩)⟩
 ·rw [h1] at IG;cases IG;rw [yL hb (by rw [<-J3];exact (List.getElem?_eq_some_iff.1 hg).1)];exact hg
 ·rcases Bl hg with ⟨bg,zD,hg⟩ | ⟨hc,hg⟩
  ·have xR:g.pc=true:=by
    obtain ⟨r,fS,c6⟩:=List.mem_flatten.1 (mem_of_getElem? hg);exact (h4 r fS).2 g c6
   obtain ⟨v,hv,eL⟩:=h3.at hg;obtain ⟨b2,c,rm,_,_,jt⟩:=h2.cells.2 (by intro h0;rw [h0] at hv;simp at hv)
   have eB:b2=b:=by rw [rm] at bg;cases bg;rfl
   subst eB;exact ⟨xR,v,by rw [<-eT];exact jt o v hv,(eL.mono hle (cX.refl β)).pc xR⟩
  ·obtain ⟨h7,v,h8,h9⟩:=h.fz b o g hg;exact ⟨h7,v,h8,h9.mono hle (cX.refl _)⟩
 ·rw [getElem?_set] at hj;split at hj
  ·rename_i fB;split at hj
   ·cases hj;subst fB
    refine ⟨x,xs,h1,h2,h3.mono hle (cX.refl β),h4,fun b hb=>⟨fun o ho=>?_,fun o g ho hg=>?_⟩,Nat.le_refl _⟩
    ·rw [wa (by omega)];exact (h5 b hb).1 o (Nat.le_trans (Nat.mul_le_mul_right k h6) ho)
    ·rw [yL hb ho];exact hg
   ·cases hj
  ·rename_i fB;refine (h.ob j y hj).ext (Ext.refl w) (fun _ _ h=>h) hle (cX.refl β) rfl (fun b o bg kY=>?_) (S:=gP);rw [wa];exact kY;rintro ⟨h7,_⟩;exact fB (h.dis i j b (ef b h7) bg)
 ·rcases Bl hg with ⟨bg,_,_⟩ | ⟨_,hg⟩
  ·exact .inr (h.own i b (ef b bg))
  ·exact h.kn b o g hg
end
end Go.Xg
namespace Go.Xg
open Go.RowKit Go.Xw
mutual
def dp (f:Nat->Nat):GV->GV
 | .v x=>.v x
 | .aaF=>.aaF
 | .agg cs=>.agg (lj f cs)
 | .tup cs=>.tup (lj f cs)
 | .sl k rows=>.sl k rows
 | .box cs o=>.box cs o
 | .loc i o=>.loc (f i) o
 | .vec i n=>.vec (f i) n
 | .vp i n k idx off=>.vp (f i) n k idx off
 | .arr i o n=>.arr (f i) o n
 | .fn g a c=>.fn g (lj f a) (lj f c)
def lj (f:Nat->Nat):List GV->List GV
 | []=>[]
 | g::gs=>dp f g::lj f gs
end
theorem jB (f:Nat->Nat) (gs:List GV):lj f gs=gs.map (dp f):=by
 induction gs with
 | nil=>rfl
 | cons g gs ih=>simp [lj,ih]
theorem Rel.B8 {K:Fz} {β:Bt} {f:Nat->Nat} {x:Value} {g:GV} (h:Rel K (fun j=>β (f j)) x g):Rel K β x (dp f g):=by
 induction h with
 | v x=>exact .v x
 | aaF x=>exact .aaF x
 | agg vs cs hl h ih =>
  rw [dp,jB]
  refine .agg vs _ (by simpa using hl) fun i v g h1 h2=>?_
  rw [getElem?_map] at h2
  cases hc:cs[i]? with
  | none=>rw [hc] at h2;cases h2
  | some c=>rw [hc] at h2;cases h2;exact ih i v c h1 hc
 | tup vs cs hl h ih =>
  rw [dp,jB]
  refine .tup vs _ (by simpa using hl) fun i v g h1 h2=>?_
  rw [getElem?_map] at h2
  cases hc:cs[i]? with
  | none=>rw [hc] at h2;cases h2
  | some c=>rw [hc] at h2;cases h2;exact ih i v c h1 hc
 | sl0 a c k=>exact .sl0 a c k
 | sl b o c k rows h hc=>exact .sl b o c k rows h hc
 | box b o' o cs h=>exact .box b o' o cs h
 | loc i o b h=>exact .loc _ o b h
 | vec i n a c h=>exact .vec _ n a c h
 | vp i n k idx off x h=>exact .vp _ n k idx off x h
 | arr i o n b c h=>exact .arr _ o n b c h
 | fn g xs ys first cap hl iX h h' ih ih' =>
  rw [dp,jB,jB];refine .fn g xs ys _ _ (by simpa using hl) (by simpa using iX) (fun i v g h1 h2=>?_) (fun i v g h1 h2=>?_)
  ·rw [getElem?_map] at h2
   cases hc:first[i]? with
   | none=>rw [hc] at h2;cases h2
   | some c=>rw [hc] at h2;cases h2;exact ih i v c h1 hc
  ·rw [getElem?_map] at h2
   cases hc:cap[i]? with
   | none=>rw [hc] at h2;cases h2
   | some c=>rw [hc] at h2;cases h2;exact ih' i v c h1 hc
theorem Rel.BU {K:Fz} {β:Bt} {f:Nat->Nat} {x:Value} {g:GV} (h:Rel K β x (dp f g)):Rel K (fun j=>β (f j)) x g:=by
 generalize he:dp f g=g' at h
 induction h generalizing g with
 | v x =>
  cases g <;> simp only [dp] at he <;> first | (cases he;done) | skip
  cases he;exact .v x
 | aaF x =>
  cases g <;> simp only [dp] at he <;> first | (cases he;done) | skip
  exact .aaF x
 | agg vs cs hl h ih =>
  cases g <;> simp only [dp] at he <;> first | (cases he;done) | skip
  rename_i ds;rw [jB] at he;cases he
  exact .agg vs ds (by simpa using hl) fun i v g h1 h2=>ih i v (dp f g) h1 (by rw [getElem?_map,h2];rfl) rfl
 | tup vs cs hl h ih =>
  cases g <;> simp only [dp] at he <;> first | (cases he;done) | skip
  rename_i ds;rw [jB] at he;cases he
  exact .tup vs ds (by simpa using hl) fun i v g h1 h2=>ih i v (dp f g) h1 (by rw [getElem?_map,h2];rfl) rfl
 | sl0 a c k =>
  cases g <;> simp only [dp] at he <;> first | (cases he;done) | skip
  cases he;exact .sl0 a c _
 | sl b o c k rows h hc =>
  cases g <;> simp only [dp] at he <;> first | (cases he;done) | skip
  cases he;exact .sl b o c k rows h hc
 | box b o' o cs h =>
  cases g <;> simp only [dp] at he <;> first | (cases he;done) | skip
  cases he;exact .box b o' o cs h
 | loc i o b h =>
  cases g <;> simp only [dp] at he <;> first | (cases he;done) | skip
  cases he;exact .loc _ o b h
 | vec i n a c h =>
  cases g <;> simp only [dp] at he <;> first | (cases he;done) | skip
  cases he;exact .vec _ n a c h
 | vp i n k idx off x h =>
  cases g <;> simp only [dp] at he <;> first | (cases he;done) | skip
  cases he;exact .vp _ n k idx off x h
 | arr i o n b c h =>
  cases g <;> simp only [dp] at he <;> first | (cases he;done) | skip
  cases he;exact .arr _ o n b c h
 | fn g' xs ys first cap hl iX h h' ih ih' =>
  cases g <;> simp only [dp] at he <;> first | (cases he;done) | skip
  rename_i f' ds es;rw [jB,jB] at he;cases he;exact .fn _ xs ys ds es (by simpa using hl) (by simpa using iX) (fun i v g h1 h2=>ih i v (dp f g) h1 (by rw [getElem?_map,h2];rfl) rfl)
   (fun i v g h1 h2=>ih' i v (dp f g) h1 (by rw [getElem?_map,h2];rfl) rfl)
mutual
def GV.ok (p:Nat->Bool):GV->Bool
 | .loc i _=>p i
 | .vec i _=>p i
 | .vp i _ _ _ _=>p i
 | .arr i _ _=>p i
 | .agg cs=>DQ p cs
 | .tup cs=>DQ p cs
 | .fn _ a c=>DQ p a&&DQ p c
 | .v _=>true
 | .aaF=>true
 | .sl _ _=>true
 | .box _ _=>true
def DQ (p:Nat->Bool):List GV->Bool
 | []=>true
 | g::gs=>GV.ok p g&&DQ p gs
end
def below (n:Nat):Nat->Bool:=fun i=>Nat.blt i n
def other (n:Nat):Nat->Bool:=fun i=>!Nat.beq i n
abbrev GV.lt (n:Nat) (g:GV):Bool:=g.ok (below n)
theorem vt {p:Nat->Bool} {gs:List GV} (h:DQ p gs=true) {g:GV} (hg:g∈gs):g.ok p=true:=by
 induction gs with
 | nil=>cases hg
 | cons x gs ih =>
  simp only [DQ,Bool.and_eq_true] at h
  rcases List.mem_cons.1 hg with rfl | hg
  ·exact h.1
  ·exact ih h.2 hg
theorem Rel.res {K:Fz} {β:Bt} {p:Nat->Bool} {x:Value} {g:GV} (h:Rel K β x g) (hl:g.ok p=true):Rel K (eX p β) x g:=by
 induction h with
 | v x=>exact .v x
 | aaF x=>exact .aaF x
 | agg vs cs pB h ih=>simp only [GV.ok] at hl;exact .agg vs cs pB fun i v g h1 h2=>ih i v g h1 h2 (vt hl (mem_of_getElem? h2))
 | tup vs cs pB h ih=>simp only [GV.ok] at hl;exact .tup vs cs pB fun i v g h1 h2=>ih i v g h1 h2 (vt hl (mem_of_getElem? h2))
 | sl0 a c k=>exact .sl0 a c k
 | sl b o c k rows h hc=>exact .sl b o c k rows h hc
 | box b o' o cs h=>exact .box b o' o cs h
 | loc i o b h=>simp only [GV.ok] at hl;exact .loc _ o b (by rw [hY hl,h])
 | vec i m a c h=>simp only [GV.ok] at hl;exact .vec _ m a c (by rw [hY hl];exact h)
 | vp i m k idx off x h=>simp only [GV.ok] at hl;exact .vp _ m k idx off x (by rw [hY hl];exact h)
 | arr i o m b c h=>simp only [GV.ok] at hl;exact .arr _ o m b c (by rw [hY hl,h])
 | fn g' xs ys first cap pB iX h h' ih ih' =>
  simp only [GV.ok,Bool.and_eq_true] at hl
  exact .fn _ xs ys first cap pB iX (fun i v g h1 h2=>ih i v g h1 h2 (vt hl.1 (mem_of_getElem? h2))) (fun i v g h1 h2=>ih' i v g h1 h2 (vt hl.2 (mem_of_getElem? h2)))
def Ob.ok (p:Nat->Bool):Ob->Bool
 | .box _ cs=>DQ p cs
 | _=>true
def Ob.dp (f:Nat->Nat):Ob->Ob
 | .box E cs=>.box E (lj f cs)
 | x=>x
def DP (p:Nat->Bool):List Ob->Bool
 | []=>true
 | x::r=>Ob.ok p x&&DP p r
abbrev zM (n:Nat) (Γ:List Ob):Bool:=DP (below n) Γ
theorem I8 {p:Nat->Bool} {gs:List Ob} (h:DP p gs=true) {g:Ob} (hg:g∈gs):g.ok p=true:=by
 induction gs with
 | nil=>cases hg
 | cons x gs ih =>
  simp only [DP,Bool.and_eq_true] at h
  rcases List.mem_cons.1 hg with rfl | hg
  ·exact h.1
  ·exact ih h.2 hg
def KO (p:Nat->Bool):List GV->List GV
 | []=>[]
 | g::gs=>(match GV.ok p g with | true=>g | false=>.aaF)::KO p gs
abbrev Te (n:Nat) (fr:List GV):List GV:=KO (below n) fr
theorem FR.res {K:Fz} {β:Bt} {p:Nat->Bool} {fr:List GV} {l:List Value} (h:FR K β fr l):FR K (eX p β) (KO p fr) l:=by
 induction h with
 | nil=>exact .nil
 | cons h t ih =>
  rw [KO];split
  ·rename_i hl;exact .cons (h.res hl) ih
  ·exact .cons (.aaF _) ih
theorem jN.res {K:Fz} {β:Bt} {w:World} {p:Nat->Bool} {i:Nat} {x:Ob} (h:jN K β w i x) (hi:p i=true) (hx:x.ok p=true):jN K (eX p β) w i x:=by
 cases x with
 | gone=>simp only [jN] at h |-;rw [hY hi,h]
 | box E cs =>
  obtain ⟨b,vs,h1,h2,h3,h4⟩:=h;exact ⟨b,vs,by rw [hY hi,h1],h2,⟨h3.1,fun i v g h5 h6=>(h3.2 i v g h5 h6).res (vt hx (mem_of_getElem? h6))⟩,h4⟩
 | vec E k fz rows =>
  obtain ⟨h0,xs,h1,h2,h3,h4,h5⟩:=h;refine ⟨h0,xs,by rw [hY hi,h1],h2,⟨h3.1,fun i v g h6 h7=>(h3.2 i v g h6 h7).pc ?_⟩,h4,h5⟩;obtain ⟨r,fS,c6⟩:=List.mem_flatten.1 (mem_of_getElem? h7);exact (h4 r fS).2 g c6
 | vech E k rows x =>
  obtain ⟨xs,h1,h2,h3,h4,h5⟩:=h;refine ⟨xs,by rw [hY hi,h1],h2,⟨h3.1,fun i v g h6 h7=>(h3.2 i v g h6 h7).pc ?_⟩,h4,h5⟩;obtain ⟨r,fS,c6⟩:=List.mem_flatten.1 (mem_of_getElem? h7);exact (h4 r fS).2 g c6
 | lost=>exact fun b hb=>h b (by rw [hY hi] at hb;exact hb)
section
variable {B:Bs} {K:Fz} {β:Bt} {Γ:List Ob} {w:World}
theorem yz {n i:Nat} (h:i < n):below n i=true:=by simpa [below] using h
theorem yy {n i:Nat} (h:n<=i):below n i=false:=by
 cases hb:below n i with
 | false=>rfl
 | true=>simp [below] at hb;omega
theorem Inv.cut {n:Nat} (h:Inv B K β Γ w) (hm:B.m<=n) (hl:zM n (Γ.take n)=true):Inv B K (eX (below n) β) (Γ.take n) w:=by
 have dr:∀ i b,(eX (below n) β i).blk=some b->(β i).blk=some b:=fun i b hi=>by
  simp only [eX] at hi;split at hi
  ·exact hi
  ·cases hi
 refine ⟨h.ext,h.kle,fun i=>?_,h.loc,h.fz,fun i x hi=>?_,fun i hi=>?_,fun i j b hi hj=>h.dis i j b (dr i b hi) (dr j b hj),fun i b hi=>h.own i b (dr i b hi),h.kn,h.tab.step (S:=gP) (Ext.refl w) (fun _ h=>h.elim) (ca.refl K) (fun i b2 h2=>.inl ⟨i,dr i b2 h2⟩)⟩
 ·by_cases gh:i < n
  ·rw [hY (yz gh)];exact h.ble i
  ·rw [h.loc i (by omega)];trivial
 ·have aq:=I8 hl (mem_of_getElem? hi);rw [getElem?_take] at hi;split at hi
  ·rename_i gh;exact (h.ob i x hi).res (yz gh) aq
  ·cases hi
 ·by_cases gh:i < n
  ·rw [hY (yz gh)];exact h.out i (by simp at hi;omega)
  ·exact sc (yy (by omega))
theorem Ja {i:Nat}:other i i=false:=by simp [other]
theorem vu {i j:Nat} (h:j≠i):other i j=true:=by
 cases hb:Nat.beq j i with
 | false=>simp [other,hb]
 | true=>exact absurd (Nat.eq_of_beq_eq_true hb) h
theorem Inv.freeze {i:Nat} {E:TypeId} {cs:List GV} (h:Inv B K β Γ w) (hi:Γ[i]?=some (.box E cs)) (hp:∀ g∈cs,g.pc=true) (bR:DP (other i) (Γ.set i .gone)=true) (hm:B.m<=i) :
  ∃ K',ca K K'/\(∀ b,β i=.fix b->∀ (j:Nat) g,cs[j]?=some g->K' b j=some g)/\Inv B K' (eX (other i) β) (Γ.set i .gone) w:=by
 obtain ⟨b,vs,h1,h2,h3,h4⟩:=h.ob i _ hi
 have ef:(β i).blk=some b:=by rw [h1];rfl
 have hle:ca K (kv K b cs):=fun b' o g hg=>by
  by_cases hb:b'=b
  ·subst hb;rw [h4] at hg;cases hg
  ·simp [kv,hb,hg]
 have dr:∀ j b',(eX (other i) β j).blk=some b'->j≠i/\(β j).blk=some b':=fun j b' hj=>by
  by_cases hji:j=i
  ·subst hji;rw [sc Ja] at hj;cases hj
  ·rw [hY (vu hji)] at hj;exact ⟨hji,hj⟩
 refine ⟨kv K b cs,hle,fun b' bg j g hg=>?_,h.ext,h.kle.trans hle,fun j=>?_,h.loc,fun b' o g hg=>?_,fun j x hj=>?_,fun j hj=>?_,fun j j' b' hj lA=>?_,fun j b' hj=>?_,fun b' o g hg=>?_,h.tab.step (S:=gP) (Ext.refl w) (fun _ h=>h.elim) hle (fun i b2 h2=>.inl ⟨i,(dr i b2 h2).2⟩)⟩
 ·rw [h1] at bg;cases bg;exact uM hg
 ·by_cases hji:j=i
  ·subst hji;rw [h.loc j hm];trivial
  ·rw [hY (vu hji)];exact h.ble j
 ·by_cases hb:b'=b
  ·subst hb;simp [kv] at hg;obtain ⟨v,hv,eL⟩:=h3.at hg;have xR:=hp g (mem_of_getElem? hg);exact ⟨xR,v,vR h2 (by simpa using hv),(eL.mono hle (cX.refl β)).pc xR⟩
  ·have kW:K b' o=some g:=by simpa [kv,hb] using hg
   obtain ⟨h5,v,h6,h7⟩:=h.fz b' o g kW;exact ⟨h5,v,h6,h7.mono hle (cX.refl _)⟩
 ·have eJ:=I8 bR (mem_of_getElem? hj);rw [getElem?_set] at hj;split at hj
  ·rename_i fB;split at hj
   ·cases hj;subst fB;exact sc Ja
   ·cases hj
  ·rename_i fB;refine jN.res ?_ (vu (fun he=>fB he.symm)) eJ;refine (h.ob j x hj).ext (Ext.refl w) (fun _ _ h=>h) hle (cX.refl β) rfl (fun b' o bg hk=>?_) (S:=gP)
   have:b'≠b:=fun he=>by subst he;exact fB (h.dis i j _ ef bg)
   simp [kv,this,hk]
 ·have:i < Γ.length:=(List.getElem?_eq_some_iff.1 hi).1
  have lA:Γ.length<=j:=by simpa using hj
  rw [hY (vu (by omega))];exact h.out j lA
 ·exact h.dis j j' b' (dr j b' hj).2 (dr j' b' lA).2
 ·exact h.own j b' (dr j b' hj).2
 ·by_cases hb:b'=b
  ·subst hb;exact .inr (h.own i _ ef)
  ·exact h.kn b' o g (by simpa [kv,hb] using hg)
end
abbrev dP:=Exit->List GV->List Ob->Prop
def gl (B:Bs) (Q:dP):kV:=fun e l w=>∃ K β fr Γ,Inv B K β Γ w/\FR K β fr l/\Q e fr Γ
def GW (P:Program) (m:Nat) (c:Code) (Q:dP) (fr:List GV) (Γ:List Ob):Prop :=
 ∀ B K β w l,B.m=m->Inv B K β Γ w->FR K β fr l->W P c (gl B Q) l w
def GL (P:Program) (m:Nat) (ops:Array Oper) (Q:dP) (rest:List Oper) (fr:List GV) (Γ:List Ob):Prop :=
 ∀ B K β w l,B.m=m->Inv B K β Γ w->FR K β fr l->WL P ops (gl B Q) rest l w
def aS (next:List GV->List Ob->Prop) (Q:dP):dP
 | .normal,fr,Γ=>next fr Γ
 | e,fr,Γ=>Q e fr Γ
def aW (id:Nat) (Q:dP):dP
 | .exit BI,fr,Γ=>if BI=id then Q .normal fr Γ else Q (.exit BI) fr Γ
 | e,fr,Γ=>Q e fr Γ
def Wk (m:Nat) (fr:List GV) (Γ:List Ob) (bU:List GV) (aH:List Ob):Prop :=
 ∀ B K β w l,B.m=m->Inv B K β Γ w->FR K β fr l->∃ K' bL,Inv B K' bL aH w/\FR K' bL bU l
section
variable {P:Program} {m:Nat} {Q:dP} {fr:List GV} {Γ:List Ob} {ops:Array Oper} {rest:List Oper}
theorem Wk.trans {bU Mj:List GV} {aH D6:List Ob} (h:Wk m fr Γ bU aH) (k:Wk m bU aH Mj D6):Wk m fr Γ Mj D6:=fun B K β w l hm hI hF=>by
 obtain ⟨K',bL,bd,va⟩:=h B K β w l hm hI hF;exact k B K' bL w l hm bd va
theorem GW.wk {c:Code} {bU:List GV} {aH:List Ob} (h:Wk m fr Γ bU aH) (k:GW P m c Q bU aH):GW P m c Q fr Γ:=fun B K β w l hm hI hF=>by
 obtain ⟨K',bL,bd,va⟩:=h B K β w l hm hI hF;exact k B K' bL w l hm bd va
theorem GL.wk {bU:List GV} {aH:List Ob} (h:Wk m fr Γ bU aH) (k:GL P m ops Q rest bU aH):GL P m ops Q rest fr Γ:=fun B K β w l hm hI hF=>by
 obtain ⟨K',bL,bd,va⟩:=h B K β w l hm hI hF;exact k B K' bL w l hm bd va
theorem Wk.cut {n:Nat} (hm:m<=n) (hl:zM n (Γ.take n)=true):Wk m fr Γ (Te n fr) (Γ.take n):=fun B K β w l hB hI hF =>
 ⟨K,eX (below n) β,hI.cut (by omega) hl,hF.res⟩
inductive sq:List GV->List GV->Prop
 | nil:sq [] []
 | aaF {f:GV} {fs gs:List GV} (h:sq fs gs):sq (f::fs) (.aaF::gs)
 | eq {f g:GV} {fs gs:List GV} (he:f=g) (h:sq fs gs):sq (f::fs) (g::gs)
theorem FR.Yx {K:Fz} {β:Bt} {l:List Value} {fr bU:List GV} (h:sq fr bU) (k:FR K β fr l):FR K β bU l:=by
 induction h generalizing l with
 | nil=>exact k
 | aaF h ih=>cases k with | cons k1 k2=>exact .cons (.aaF _) (ih k2)
 | eq he h ih=>subst he;cases k with | cons k1 k2=>exact .cons k1 (ih k2)
theorem Wk.aw {bU:List GV} (h:sq fr bU):Wk m fr Γ bU Γ:=fun B K β w l _ hI hF=>⟨K,β,hI,hF.Yx h⟩
theorem GW.seq {x y:Code} (h:GW P m x (aS (GW P m y Q) Q) fr Γ):GW P m (.seq x y) Q fr Γ:=fun B K β w l hm hI hF=>by
 refine W.seq (W.mono (h B K β w l hm hI hF) ?_);rintro e l w ⟨K,β,fr,Γ,hI,hF,hq⟩
 cases e with
 | normal=>exact hq B K β w l hm hI hF
 | _=>exact ⟨K,β,fr,Γ,hI,hF,hq⟩
theorem GW.skip (h:Q .normal fr Γ):GW P m .skip Q fr Γ:=fun B K β w l hm hI hF=>W.skip ⟨K,β,fr,Γ,hI,hF,h⟩
theorem GW.exit {n:Nat} (h:Q (.exit n) fr Γ):GW P m (.exit n) Q fr Γ:=fun B K β w l hm hI hF=>W.exit ⟨K,β,fr,Γ,hI,hF,h⟩
theorem GW.ret (h:Q .ret fr Γ):GW P m .ret Q fr Γ:=fun B K β w l hm hI hF=>W.ret ⟨K,β,fr,Γ,hI,hF,h⟩
theorem GW.block {id:Nat} {c:Code} (h:GW P m c (aW id Q) fr Γ):GW P m (.block id c) Q fr Γ:=fun B K β w l hm hI hF=>by
 refine W.block (W.mono (h B K β w l hm hI hF) ?_);rintro e l w ⟨K,β,fr,Γ,hI,hF,hq⟩
 cases e with
 | exit BI =>
  simp only [aW] at hq;simp only [UA];split <;> rename_i hh
  ·rw [if_pos hh] at hq;exact ⟨K,β,fr,Γ,hI,hF,hq⟩
  ·rw [if_neg hh] at hq;exact ⟨K,β,fr,Γ,hI,hF,hq⟩
 | _=>exact ⟨K,β,fr,Γ,hI,hF,hq⟩
theorem Rel.dR {K:Fz} {β:Bt} {x a:Value} (h:Rel K β x (.v a)):x=a:=by cases h;rfl
theorem FR.gE {K:Fz} {β:Bt} {l:List Value} {x:Operand} {a:Value} (h:FR K β fr l) (hx:aP fr x=.v a):Xw.ev l x=a:=Rel.dR (by rw [<-hx];exact h.ev x)
theorem GW.cond {c:Operand} {x y:Code} {t:Bool} (hc:aP fr c=.v (.bool t)) (ht:t=true->GW P m x Q fr Γ) (hf:t=false->GW P m y Q fr Γ):GW P m (.cond c x y) Q fr Γ:=fun B K β w l hm hI hF =>
 W.cond (hF.gE hc) (fun h=>ht h B K β w l hm hI hF) (fun h=>hf h B K β w l hm hI hF)
theorem Qo {c:Operand} {x y:Code} {t:Bool} (hc:aP fr c=.v (.bool t)) (ht:t=true) (h:GW P m x Q fr Γ):GW P m (.cond c x y) Q fr Γ:=GW.cond hc (fun _=>h) (fun h2=>by rw [ht] at h2;cases h2)
theorem Qn {c:Operand} {x y:Code} {t:Bool} (hc:aP fr c=.v (.bool t)) (ht:t=false) (h:GW P m y Q fr Γ):GW P m (.cond c x y) Q fr Γ:=GW.cond hc (fun h2=>by rw [ht] at h2;cases h2) (fun _=>h)
theorem GW.mono {c:Code} {Q':dP} (h:GW P m c Q fr Γ) (hq:∀ e fr Γ,Q e fr Γ->Q' e fr Γ):GW P m c Q' fr Γ:=fun B K β w l hm hI hF =>
 W.mono (h B K β w l hm hI hF) fun e l w ⟨K,β,fr,Γ,hI,hF,q⟩=>⟨K,β,fr,Γ,hI,hF,hq _ _ _ q⟩
def zh (m:Nat) (K:List GV->List Ob->Prop) (fr:List GV) (Γ:List Ob):Prop:=∃ bU aH,Wk m fr Γ bU aH/\K bU aH
theorem GW.loop {c:Code} {α:Type} (μ:α->Nat) (I:α->List GV->List Ob->Prop) (x:α) (h0:zh m (I x) fr Γ)
  (round:∀ x fr Γ,I x fr Γ->GW P m c (aS (fun bU aH=>∃ y,zh m (I y) bU aH/\μ y < μ x) Q) fr Γ):GW P m (.loop c) Q fr Γ:=fun B K β w l hm hI hF=>by
 obtain ⟨bU,aH,hw,h0⟩:=h0;obtain ⟨K',bL,bd,va⟩:=hw B K β w l hm hI hF;refine W.loop μ (fun x l w=>∃ K β fr Γ,Inv B K β Γ w/\FR K β fr l/\I x fr Γ) x ⟨K',bL,bU,aH,bd,va,h0⟩ ?_;rintro x l w ⟨K,β,fr,Γ,hI,hF,hi⟩;refine W.mono (round x fr Γ hi B K β w l hm hI hF) ?_;rintro e l w ⟨K,β,fr,Γ,hI,hF,hq⟩
 cases e with
 | normal =>
  obtain ⟨y,⟨bU,aH,hw,hy⟩,aq⟩:=hq;obtain ⟨K',bL,bd,va⟩:=hw B K β w l hm hI hF;exact ⟨y,⟨K',bL,bU,aH,bd,va,hy⟩,aq⟩
 | _=>exact ⟨K,β,fr,Γ,hI,hF,hq⟩
theorem GW.region {id:Nat} {ol:List Oper} (h:GL P m ol.toArray Q ol fr Γ):GW P m (.region id ol.toArray false) Q fr Γ:=fun B K β w l hm hI hF=>W.region (h B K β w l hm hI hF)
theorem GL.nil (h:Q .normal fr Γ):GL P m ops Q [] fr Γ:=fun B K β w l hm hI hF=>WL.nil ⟨K,β,fr,Γ,hI,hF,h⟩
end
section
variable {next:List GV->List Ob->Prop} {Q:dP} {fr:List GV} {Γ:List Ob} {id BI:Nat}
theorem aD (h:next fr Γ):aS next Q .normal fr Γ:=h
theorem Fl (h:Q (.exit id) fr Γ):aS next Q (.exit id) fr Γ:=h
theorem cr (h:Q .ret fr Γ):aS next Q .ret fr Γ:=h
theorem bQ (h:Q .normal fr Γ):aW id Q .normal fr Γ:=h
theorem cn (h:Q .ret fr Γ):aW id Q .ret fr Γ:=h
theorem Iv (h:Q .normal fr Γ):aW id Q (.exit id) fr Γ:=by simpa [aW] using h
end
def GC (P:Program) (f:FuncId) (gs:List GV) (Γ:List Ob) (R:GV->List Ob->Prop):Prop :=
 ∀ B K β w vs,B.m=Γ.length->Inv B K β Γ w->aV K β vs gs->lT P f vs w fun v w'=>∃ K' bL g aH,Inv B K' bL aH w'/\Rel K' bL v g/\R g aH
abbrev GF (P:Program) (f:FuncId) (gs:List GV) (Γ:List Ob) (g:GV) (aH:List Ob):Prop:=GC P f gs Γ fun x Δ=>x=g/\Δ=aH
theorem GC.mono {P:Program} {f:FuncId} {gs:List GV} {Γ:List Ob} {R R':GV->List Ob->Prop} (h:GC P f gs Γ R) (hr:∀ g Γ,R g Γ->R' g Γ):GC P f gs Γ R':=fun B K β w vs hm hI hF =>
 (h B K β w vs hm hI hF).mono fun v w' ⟨K',bL,g,aH,h1,h2,h3⟩=>⟨K',bL,g,aH,h1,h2,hr _ _ h3⟩
def Fk:Nat->List GV
 | 0=>[]
 | n+1=>.v undef::Fk n
def xy:List GV->Nat->List GV
 | [],n=>Fk n
 | a::r,n=>a::xy r (n - 1)
theorem FR.Gn {K:Fz} {β:Bt} (n:Nat):FR K β (Fk n) (Gn n):=by
 induction n with
 | zero=>exact .nil
 | succ n ih=>exact .cons (.v _) ih
theorem FR.frame {K:Fz} {β:Bt} {vs:List Value} {gs:List GV} (h:aV K β vs gs) (n:Nat):FR K β (xy gs n) (frame vs n):=by
 induction gs generalizing vs n with
 | nil =>
  have:vs=[]:=eq_nil_of_length_eq_zero h.1;subst this;exact FR.Gn n
 | cons g gs ih =>
  cases vs with
  | nil=>have:=h.1;simp at this
  | cons v vs=>obtain ⟨h1,h2⟩:=h.nf;exact .cons h1 (ih h2 _)
def sG (P:Program) (fn:Func) (m:Nat) (R:GV->List Ob->Prop):dP:=fun e fr Γ =>
 (e=.normal\/e=.ret)/\∀ B K β w l,B.m=m->Inv B K β Γ w->FR K β fr l->∃ v K' bL g aH,(results fn l.toArray).run P w=.ok v w/\Inv B K' bL aH w/\Rel K' bL v g/\R g aH
theorem GC.enter {P:Program} {f:FuncId} {fn:Func} {c:Code} {gs:List GV} {Γ:List Ob} {R:GV->List Ob->Prop} {n:Nat} {fr:List GV}
  (hf:P.funcs[f]?=some fn) (hn:fn.ntmps=n) (hb:fn.body=some c) (hl:xy gs n=fr) (h:GW P Γ.length c (sG P fn Γ.length R) fr Γ):GC P f gs Γ R:=fun B K β w vs hm hI hF=>by
 subst hl;refine lT.enter hf hn hb rfl (W.mono (h B K β w _ hm hI (FR.frame hF n)) ?_);rintro e l w ⟨K,β,fr,Γ,hI,hF,he,hq⟩;obtain ⟨v,K',bL,g,aH,h1,h2,h3,h4⟩:=hq B K β w l hm hI hF
 rcases he with rfl | rfl
 ·exact ⟨v,h1,K',bL,g,aH,h2,h3,h4⟩
 ·exact ⟨v,h1,K',bL,g,aH,h2,h3,h4⟩
section
variable {P:Program} {fn:Func} {m:Nat} {R:GV->List Ob->Prop} {fr:List GV} {Γ:List Ob} {e:Exit}
theorem Tr {n:Nat} (hr:fn.results=#[]) (he:e=.normal\/e=.ret) (hm:m<=n) (hl:zM n (Γ.take n)=true) (h:R (.tup []) (Γ.take n)):sG P fn m R e fr Γ :=
 ⟨he,fun B K β w l hB hI hF=>⟨.tuple #[],K,eX (below n) β,.tup [],Γ.take n,by rw [results_none hr],hI.cut (by omega) hl,.tup [] [] rfl (fun i v g h=>by simp at h),h⟩⟩
theorem po {n:Nat} {t:Tmp} {g:GV} (hr:fn.results=#[.tmp t]) (he:e=.normal\/e=.ret) (hg:cq fr t=g) (hm:m<=n) (hl:zM n (Γ.take n)=true) (ju:g.lt n=true) (h:R g (Γ.take n)):sG P fn m R e fr Γ :=
 ⟨he,fun B K β w l hB hI hF=>⟨nth l t,K,eX (below n) β,g,Γ.take n,by rw [results_tmp hr,jz],hI.cut (by omega) hl,by rw [<-hg] at ju |-;exact (hF.nth t).res ju,h⟩⟩
theorem Ts {n:Nat} {t u:Tmp} {g g':GV} (hr:fn.results=#[.tmp t,.tmp u]) (he:e=.normal\/e=.ret) (hg:cq fr t=g) (kW:cq fr u=g') (hm:m<=n) (hl:zM n (Γ.take n)=true) (ju:(GV.tup [g,g']).lt n=true) (h:R (.tup [g,g']) (Γ.take n)):sG P fn m R e fr Γ :=
 ⟨he,fun B K β w l hB hI hF=>⟨.tuple #[nth l t,nth l u],K,eX (below n) β,.tup [g,g'],Γ.take n,by rw [results_tmp2 hr,jz,jz],hI.cut (by omega) hl,by
  refine Rel.res ?_ ju;subst hg kW;have hc:aV K β [nth l t,nth l u] [cq fr t,cq fr u]:=.cons (hF.nth t) (.cons (hF.nth u) .nil)
  exact .tup [nth l t,nth l u] _ hc.1 hc.2,h⟩⟩
theorem Tt {n:Nat} {t u s:Tmp} {g g' g2:GV} (hr:fn.results=#[.tmp t,.tmp u,.tmp s]) (he:e=.normal\/e=.ret) (hg:cq fr t=g) (kW:cq fr u=g') (fR:cq fr s=g2) (hm:m<=n) (hl:zM n (Γ.take n)=true) (ju:(GV.tup [g,g',g2]).lt n=true)
  (h:R (.tup [g,g',g2]) (Γ.take n)):sG P fn m R e fr Γ :=
 ⟨he,fun B K β w l hB hI hF=>⟨.tuple #[nth l t,nth l u,nth l s],K,eX (below n) β,.tup [g,g',g2],Γ.take n,by
   rw [<-jz l t,<-jz l u,<-jz l s];simp [results,hr],hI.cut (by omega) hl,by
  refine Rel.res ?_ ju;subst hg kW fR;have hc:aV K β [nth l t,nth l u,nth l s] [cq fr t,cq fr u,cq fr s]:=.cons (hF.nth t) (.cons (hF.nth u) (.cons (hF.nth s) .nil))
  exact .tup [nth l t,nth l u,nth l s] _ hc.1 hc.2,h⟩⟩
theorem Tu {n:Nat} {t:Tmp} {T:TypeId} {k:Nat} [hT:Ty P T true k] {i:Nat} {E:TypeId} {cs:List GV} (hr:fn.results=#[.cell t T]) (he:e=.normal\/e=.ret) (hg:cq fr t=.loc i 0) (br:Γ[i]?=some (.box E cs)) (hk:cs.length=k)
  (hm:m<=n) (hl:zM n (Γ.take n)=true) (ju:(GV.agg cs).lt n=true) (h:R (.agg cs) (Γ.take n)):sG P fn m R e fr Γ :=
 ⟨he,fun B K β w l hB hI hF=>by
  obtain ⟨b,vs,h1,h2,h3,h4⟩:=hI.ob i _ br
  have hp:nth l t=.pointer (some ⟨b,0,none⟩):=by
   have:=hF.nth t;rw [hg] at this;generalize nth l t=v at this
   cases this with
   | loc _ _ b' bg=>rw [h1] at bg;cases bg;rfl
  have kO:l.toArray.getD t undef=.pointer (some ⟨b,0,none⟩):=by rw [jz,hp]
  have FB:=mW (P:=P) (w:=w) (t:=T) (b:=b) (o:=0) (vs:=vs) (k:=k) (by rw [h3.1,hk]) (fun j v hj=>by
   rw [Nat.zero_add,cell_of_row w b j _ E (0,0) h2];simpa using hj)
  have AL:l[t]?.getD undef=.pointer (some ⟨b,0,none⟩):=by simpa using kO
  exact ⟨.agg vs.toArray,K,eX (below n) β,.agg cs,Γ.take n,by simp [results,hr,AL,asAddr,FB],hI.cut (by omega) hl,Rel.res (.agg vs cs h3.1 h3.2) ju,h⟩⟩
end
end Go.Xg
namespace Go.Xg
open Go.RowKit Go.Xw
def YG (P:Program) (op:Op) (fr:List GV) (Γ:List Ob) (g:GV):Prop :=
 ∀ B K β w l,Inv B K β Γ w->FR K β fr l->∃ v,eg P l w op v/\Rel K β v g
section
variable {P:Program} {m:Nat} {Q:dP} {fr:List GV} {Γ:List Ob} {ops:Array Oper} {rest:List Oper} {d:Option Tmp} {op:Op} {ty:TypeId} {pos:String} {af:Array Edge}
theorem GL.q {g:GV} (hy:YG P op fr Γ g) (h:GL P m ops Q rest (bh fr d g) Γ):GL P m ops Q (⟨d,op,ty,pos,af,none⟩::rest) fr Γ:=fun B K β w l hm hI hF=>by
 obtain ⟨v,hr,hv⟩:=hy B K β w l hI hF;exact WL.v hr (h B K β w _ hm hI (hF.put d hv))
theorem tJ {bU:List GV} {aH:List Ob} (h1:fr=bU) (h2:Γ=aH) (h:GL P m ops Q rest bU aH):GL P m ops Q rest fr Γ:=by subst h1;subst h2;exact h
theorem GN {bU:List GV} (h1:fr=bU) (h:GL P m ops Q rest bU Γ):GL P m ops Q rest fr Γ:=by subst h1;exact h
theorem YG.v1 {x:Operand} {a v:Value} (hx:aP fr x=.v a) (h:∀ l w,ev l x=a->eg P l w op v):YG P op fr Γ (.v v):=fun B K β w l hI hF=>⟨v,h l w (hF.gE hx),.v v⟩
theorem YG.v2 {x y:Operand} {a b v:Value} (hx:aP fr x=.v a) (hy:aP fr y=.v b) (h:∀ l w,ev l x=a->ev l y=b->eg P l w op v):YG P op fr Γ (.v v):=fun B K β w l hI hF=>⟨v,h l w (hF.gE hx) (hF.gE hy),.v v⟩
theorem YG.mv {x:Operand}:YG P (.move x) fr Γ (aP fr x):=fun B K β w l hI hF=>⟨_,R.mv,hF.ev x⟩
theorem YG.tN {x:Operand}:YG P (.assign x) fr Γ (aP fr x):=fun B K β w l hI hF=>⟨_,R.tN,hF.ev x⟩
theorem YG.jc {fn:Fn} {first cap:List Operand}:YG P (.makeFunc fn first.toArray cap.toArray) fr Γ (.fn fn (first.map (aP fr)) (cap.map (aP fr))):=fun B K β w l hI hF =>
 ⟨_,R.jc,by
  have h1:=hF.args first
  have h2:=hF.args cap
  simpa using Rel.fn fn _ _ _ _ h1.1 h2.1 h1.2 h2.2⟩
def CB:GV->Value
 | .v x=>x
 | _=>.nilFunc
def Tw (ρ:Operand->Value) (op:Op):Option Value :=
 match op with
 | .binOp _ _ _ _ _=>go ρ op
 | .unOp _ _ _=>go ρ op
 | _=>none
theorem R6 {K:Fz} {β:Bt} {x:Value} {g:GV} (h:Rel K β x g):CB g=x\/CB g=.nilFunc:=by
 cases h <;> first | exact .inl rfl | exact .inr rfl
theorem YG.go {v:Value} (h:Tw (fun x=>CB (aP fr x)) op=some v):YG P op fr Γ (.v v):=fun B K β w l hI hF=>by
 refine ⟨v,R5 ?_,.v v⟩
 have key:∀ x,CB (aP fr x)=ev l x\/CB (aP fr x)=.nilFunc:=fun x=>R6 (hF.ev x)
 unfold Tw at h;split at h
 ·rename_i o t x y t';simp only [Xw.go] at h |-
  rcases key x with hx | hx <;> rcases key y with hy | hy <;> rw [hx,hy] at h
  ·exact h
  ·cases hv:ev l x <;> rw [hv] at h <;> cases h
  ·cases h
  ·cases h
 ·rename_i o t x;simp only [Xw.go,v8] at h |-
  rcases key x with hx | hx <;> rw [hx] at h
  ·exact h
  ·cases o <;> simp only at h <;> cases h
 ·cases h
theorem YG.vz {c a b:Operand} {t:Bool} (hc:aP fr c=.v (.bool t)) (ht:t=true):YG P (.pick c a b) fr Γ (aP fr a):=fun B K β w l hI hF=>⟨_,R.vz (hF.gE hc) ht,hF.ev a⟩
theorem YG.vy {c a b:Operand} {t:Bool} (hc:aP fr c=.v (.bool t)) (ht:t=false):YG P (.pick c a b) fr Γ (aP fr b):=fun B K β w l hI hF=>⟨_,R.vy (hF.gE hc) ht,hF.ev b⟩
theorem YG.tg {x:Operand} {i o:Nat} (hx:aP fr x=.loc i o):YG P (.nilCheck x) fr Γ (.loc i o):=fun B K β w l hI hF=>by
 have h:=hF.ev x;rw [hx] at h;generalize hv:ev l x=v at h
 cases h with | loc _ _ b hb=>exact ⟨_,R.KC hv,.loc i o b hb⟩
theorem YG.tf {x:Operand} {cs:List GV} {o:Nat} (hx:aP fr x=.box cs o):YG P (.nilCheck x) fr Γ (.box cs o):=fun B K β w l hI hF=>by
 have h:=hF.ev x;rw [hx] at h;generalize hv:ev l x=v at h
 cases h with | box b o' _ _ hb=>exact ⟨_,R.KC hv,.box b o' o cs hb⟩
theorem YG.qu {x:Operand} {t:TypeId} [hT:pd P t] {s:ah} (hx:aP fr x=.v (sv s)):YG P (.call ⟨.builtin .len,#[x],#[t]⟩) fr Γ (.v (ii s.length)):=YG.v1 hx fun l w h=>R.qu h
theorem YG.pI {x:Operand} {t e:TypeId} {k:Nat} [hT:mq P t e k] {k':Nat} {rows:List (List GV)} (hx:aP fr x=.sl k' rows):YG P (.call ⟨.builtin .len,#[x],#[t]⟩) fr Γ (.v (ii rows.length)):=fun B K β w l hI hF=>by
 have h:=hF.ev x;rw [hx] at h;generalize hv:ev l x=v at h
 cases h with
 | sl0 a c=>exact ⟨_,R.Ks hv,.v _⟩
 | sl b o c _ _ h _=>exact ⟨_,R.Ks hv,.v _⟩
theorem YG.sY {x:Operand} {t e:TypeId} {k:Nat} [hT:mq P t e k] {i n:Nat} (hx:aP fr x=.vec i n):YG P (.call ⟨.builtin .len,#[x],#[t]⟩) fr Γ (.v (ii n)):=fun B K β w l hI hF=>by
 have h:=hF.ev x;rw [hx] at h;generalize hv:ev l x=v at h
 cases h with | vec _ _ a c h=>exact ⟨_,R.Ks hv,.v _⟩
theorem YG.sX {x:Operand} {t e:TypeId} {k:Nat} [hT:mq P t e k] {a:Option Addr} {n c:Nat} (hx:aP fr x=.v (.slice a n c)):YG P (.call ⟨.builtin .len,#[x],#[t]⟩) fr Γ (.v (ii n)):=YG.v1 hx fun l w h=>R.Ks h
theorem YG.uY {x y:Operand} {t t':TypeId} {a b:ah} (hx:aP fr x=.v (sv a)) (hy:aP fr y=.v (sv b)):YG P (.binOp .eql t x y t') fr Γ (.v (.bool (a==b))):=YG.v2 hx hy fun l w h k=>R.uY h k
theorem YG.vq {x y:Operand} {t t':TypeId} {a b:ah} (hx:aP fr x=.v (sv a)) (hy:aP fr y=.v (sv b)):YG P (.binOp .neq t x y t') fr Γ (.v (.bool (!(a==b)))):=YG.v2 hx hy fun l w h k=>R.vq h k
theorem YG.qs {x y:Operand} {t:TypeId} [hT:pd P t] {s:ah} {k:IntKind} {i:Nat} {c:UInt8} (hx:aP fr x=.v (sv s)) (hy:aP fr y=.v (.int k i)) (hc:s[i]?=some c):YG P (.index t x y) fr Γ (.v (.int .u8 c.toNat)):=YG.v2 hx hy fun l w h k=>R.qs h k hc
theorem YG.add {x y:Operand} {t t':TypeId} {a b:Int} (hx:aP fr x=.v (ii a)) (hy:aP fr y=.v (ii b)) (hb : -9223372036854775808<=a+b/\a+b<=9223372036854775807):YG P (.binOp .add t x y t') fr Γ (.v (ii (a+b))):=YG.v2 hx hy fun l w h k=>R.add h k hb.1 hb.2
theorem YG.dk {x y:Operand} {t t':TypeId} {a b:Nat} (hx:aP fr x=.v (ii a)) (hy:aP fr y=.v (ii b)) (hb:a+b<=9223372036854775807):YG P (.binOp .add t x y t') fr Γ (.v (ii ((a+b:Nat):Int))):=YG.v2 hx hy fun l w h k=>R.dk h k hb
theorem YG.pe {x y:Operand} {t t':TypeId} {a:Nat} (hx:aP fr x=.v (ii a)) (hy:aP fr y=.v (ii 1)) (hb:a+1<=9223372036854775807):YG P (.binOp .add t x y t') fr Γ (.v (ii ((a+1:Nat):Int))):=YG.v2 hx hy fun l w h k=>R.pe h k hb
theorem YG.sub {x y:Operand} {t t':TypeId} {a b:Int} (hx:aP fr x=.v (ii a)) (hy:aP fr y=.v (ii b)) (hb : -9223372036854775808<=a - b/\a - b<=9223372036854775807):YG P (.binOp .sub t x y t') fr Γ (.v (ii (a - b))):=YG.v2 hx hy fun l w h k=>R.sub h k hb.1 hb.2
theorem YG.mul {x y:Operand} {t t':TypeId} {a b:Int} (hx:aP fr x=.v (ii a)) (hy:aP fr y=.v (ii b)) (hb : -9223372036854775808<=a * b/\a * b<=9223372036854775807):YG P (.binOp .mul t x y t') fr Γ (.v (ii (a * b))):=YG.v2 hx hy fun l w h k=>R.mul h k hb.1 hb.2
theorem YG.cat {x y:Operand} {t t':TypeId} {a b:ah} (hx:aP fr x=.v (sv a)) (hy:aP fr y=.v (sv b)) (hb:a.length+b.length<=9223372036854775807):YG P (.binOp .add t x y t') fr Γ (.v (sv (a++b))):=YG.v2 hx hy fun l w h k=>R.cat h k hb
theorem YG.tz {x:Operand} {t:TypeId} [hT:pd P t] {s:ah} {lo hi:Operand} {k k':IntKind} {i j:Nat} (hx:aP fr x=.v (sv s)) (gS:aP fr lo=.v (.int k i)) (Bx:aP fr hi=.v (.int k' j)) (hb:i<=j/\j<=s.length):YG P (.slice t x (some lo) (some hi) none) fr Γ (.v (sv ((s.take j).drop i))) :=
 fun B K β w l hI hF=>⟨_,R.P1 (hF.gE hx) ⟨k,hF.gE gS⟩ ⟨k',hF.gE Bx⟩ hb.1 hb.2,.v _⟩
theorem YG.tw {x:Operand} {t:TypeId} [hT:pd P t] {s:ah} {lo:Operand} {k:IntKind} {i:Nat} (hx:aP fr x=.v (sv s)) (gS:aP fr lo=.v (.int k i)) (hb:i<=s.length):YG P (.slice t x (some lo) none none) fr Γ (.v (sv (s.drop i))) :=
 fun B K β w l hI hF=>⟨_,by
  have:=R.P1 (P:=P) (w:=w) (l:=l) (t:=t) (lo:=some lo) (hi:=none) (i:=i) (j:=s.length) (hF.gE hx) ⟨k,hF.gE gS⟩ rfl hb (Nat.le_refl _);rw [List.take_length] at this
  exact this,.v _⟩
theorem YG.tu {x:Operand} {t:TypeId} [hT:pd P t] {s:ah} {hi:Operand} {k:IntKind} {j:Nat} (hx:aP fr x=.v (sv s)) (Bx:aP fr hi=.v (.int k j)) (hb:j<=s.length):YG P (.slice t x none (some hi) none) fr Γ (.v (sv (s.take j))) :=
 fun B K β w l hI hF=>⟨_,R.P1 (P:=P) (w:=w) (l:=l) (t:=t) (lo:=none) (hi:=some hi) (i:=0) (j:=j) (hF.gE hx) rfl ⟨k,hF.gE Bx⟩ (Nat.zero_le _) hb,.v _⟩
theorem YG.ext {x:Operand} {i:Nat} {cs:List GV} {g:GV} (hx:aP fr x=.tup cs) (hg:cs[i]?=some g):YG P (.extract x i) fr Γ g:=fun B K β w l hI hF=>by
 have h:=hF.ev x;rw [hx] at h;generalize hv:ev l x=v at h
 cases h with
 | tup vs _ hl h =>
  have hi:i < vs.length:=by rw [hl];exact (List.getElem?_eq_some_iff.1 hg).1
  exact ⟨vs[i],R.extract hv (by simp [hi]),h i _ g (by simp [hi]) hg⟩
theorem YG.ou {x y:Operand} {t e:TypeId} {k:Nat} [hT:mq P t e k] {rows:List (List GV)} {kk:IntKind} {i:Nat} {r:List GV} (hx:aP fr x=.sl k rows) (hy:aP fr y=.v (.int kk i)) (hr:rows[i]?=some r):YG P (.indexAddr t x y) fr Γ (.box r 0):=fun B K β w l hI hF=>by
 have h:=hF.ev x;rw [hx] at h;have hi:=(List.getElem?_eq_some_iff.1 hr).1;generalize hv:ev l x=v at h
 cases h with
 | sl0 a c=>simp at hi
 | sl b o c _ _ h _=>exact ⟨_,R.qp hv (hF.gE hy) hi,.box b (o+i * k) 0 r (h i r hr).2⟩
theorem YG.sF {x:Operand} {s:TypeId} {f off k:Nat} {agg:Bool} [hT:de P s f off k agg] {i o:Nat} (hx:aP fr x=.loc i o):YG P (.fieldAddr s x f) fr Γ (.loc i (o+off)):=fun B K β w l hI hF=>by
 have h:=hF.ev x;rw [hx] at h;generalize hv:ev l x=v at h
 cases h with | loc _ _ b hb=>exact ⟨_,R.OS hv,.loc i _ b hb⟩
theorem YG.sD {x:Operand} {s:TypeId} {f off k:Nat} {agg:Bool} [hT:de P s f off k agg] {cs:List GV} {o:Nat} (hx:aP fr x=.box cs o):YG P (.fieldAddr s x f) fr Γ (.box cs (o+off)):=fun B K β w l hI hF=>by
 have h:=hF.ev x;rw [hx] at h;generalize hv:ev l x=v at h
 cases h with | box b o' _ _ hb=>exact ⟨_,R.OS hv,by rw [Nat.add_assoc];exact .box b o' _ cs hb⟩
theorem YG.x9 {x:Operand} {t:TypeId} [hT:Ty P t false 1] {i o:Nat} {E:TypeId} {cs:List GV} {g:GV} (hx:aP fr x=.loc i o) (br:Γ[i]?=some (.box E cs)) (hg:cs[o]?=some g):YG P (.load t x) fr Γ g:=fun B K β w l hI hF=>by
 have h:=hF.ev x;rw [hx] at h;generalize hv:ev l x=v at h
 cases h with
 | loc _ _ b hb =>
  obtain ⟨b',vs,h1,h2,h3,h4⟩:=hI.ob i _ br;rw [hb] at h1;cases h1;obtain ⟨u,hu,hr⟩:=h3.at hg;exact ⟨u,R.ld hv (vR h2 (by simpa using hu)),hr⟩
theorem YG.x7 {x:Operand} {t:TypeId} [hT:Ty P t false 1] {cs:List GV} {o:Nat} {g:GV} (hx:aP fr x=.box cs o) (hg:cs[o]?=some g):YG P (.load t x) fr Γ g:=fun B K β w l hI hF=>by
 have h:=hF.ev x;rw [hx] at h;generalize hv:ev l x=v at h
 cases h with
 | box b o' _ _ hb =>
  obtain ⟨hp,u,hu,hr⟩:=hI.fz _ _ _ (hb o g hg);exact ⟨u,R.ld hv hu,hr.pc hp⟩
theorem th {k:Nat} {rows:List (List GV)} (hk:fq k rows) {i j:Nat} {r:List GV} {g:GV} (hr:rows[i]?=some r) (hg:r[j]?=some g):rows.flatten[i * k+j]?=some g:=by
 induction rows generalizing i with
 | nil=>simp at hr
 | cons a rows ih =>
  have ha:a.length=k:=(hk a (mem_cons_self)).1
  cases i with
  | zero =>
   cases hr;have hj:=(List.getElem?_eq_some_iff.1 hg).1;rw [Nat.zero_mul,Nat.zero_add,flatten_cons,getElem?_append_left hj];exact hg
  | succ i =>
   rw [flatten_cons,List.getElem?_append_right (by rw [ha,Nat.succ_mul];omega),ha];rw [show (i+1) * k+j - k=i * k+j by rw [Nat.succ_mul];omega];exact ih (fun r hr=>hk r (mem_cons_of_mem _ hr)) (by simpa using hr)
theorem YG.sW {x:Operand} {t:TypeId} {k:Nat} [hT:Ty P t true k] {i o:Nat} {E:TypeId} {cs gs:List GV} (hx:aP fr x=.loc i o) (br:Γ[i]?=some (.box E cs)) (hg:(cs.drop o).take k=gs) (hk:gs.length=k):YG P (.load t x) fr Γ (.agg gs):=fun B K β w l hI hF=>by
 have h:=hF.ev x;rw [hx] at h;generalize hv:ev l x=v at h
 cases h with
 | loc _ _ b hb =>
  obtain ⟨b',vs,h1,h2,h3,h4⟩:=hI.ob i _ br;rw [hb] at h1;cases h1;have h5:=(h3.drop o).take k;rw [hg] at h5;refine ⟨.agg ((vs.drop o).take k).toArray,R.Xl hv (by rw [h5.1,hk]) (fun j v hj=>?_),.agg _ _ h5.1 h5.2⟩;rw [getElem?_take] at hj;split at hj
  ·rw [getElem?_drop] at hj;exact vR h2 (by simpa using hj)
  ·cases hj
theorem vV {K:Fz} {β:Bt} {H:Array Obj} {b:Nat}:∀ (gs:List GV) (o:Nat),(∀ (j:Nat) g,gs[j]?=some g->∃ v,fy H b (o+j)=some v/\Rel K β v g)->∃ vs:List Value,aV K β vs gs/\∀ (j:Nat) v,vs[j]?=some v->fy H b (o+j)=some v
 | [],o,_=>⟨[],.nil,fun j v h=>by simp at h⟩
 | g::gs,o,h=>by
  obtain ⟨v,hv,hr⟩:=h 0 g rfl;obtain ⟨vs,h1,h2⟩:=vV gs (o+1) (fun j g' hg=>by rw [show o+1+j=o+(j+1) by omega];exact h (j+1) g' hg);refine ⟨v::vs,.cons hr h1,fun j u hj=>?_⟩
  cases j with
  | zero=>cases hj;exact hv
  | succ j=>rw [show o+(j+1)=o+1+j by omega];exact h2 j u hj
theorem YG.sV {x:Operand} {t:TypeId} {k:Nat} [hT:Ty P t true k] {cs gs:List GV} {o:Nat} (hx:aP fr x=.box cs o) (hg:(cs.drop o).take k=gs) (hk:gs.length=k):YG P (.load t x) fr Γ (.agg gs):=fun B K β w l hI hF=>by
 have h:=hF.ev x;rw [hx] at h;generalize hv:ev l x=v at h
 cases h with
 | box b o' _ _ hb =>
  obtain ⟨vs,h1,h2⟩:=vV (K:=K) (β:=β) (H:=w.heap) (b:=b) gs (o'+o) (fun j g hj=>by
   have lA:cs[o+j]?=some g:=by
    rw [<-hg,getElem?_take] at hj;split at hj
    ·rw [getElem?_drop] at hj;exact hj
    ·cases hj
   obtain ⟨hp,u,hu,hr⟩:=hI.fz _ _ _ (hb (o+j) g lA)
   exact ⟨u,by rw [Nat.add_assoc];exact hu,hr.pc hp⟩)
  exact ⟨.agg vs.toArray,R.Xl hv (by rw [h1.1,hk]) h2,.agg _ _ h1.1 h1.2⟩
def lV:GV->Option (List GV)
 | .v x=>match KH x with
  | true=>some [.v x]
  | false=>none
 | .agg cs=>some cs
 | .aaF=>none
 | .tup _=>none
 | .vp _ _ _ _ _=>none
 | .sl k rows=>some [.sl k rows]
 | .box cs o=>some [.box cs o]
 | .loc i o=>some [.loc i o]
 | .vec i n=>some [.vec i n]
 | .arr i o n=>some [.arr i o n]
 | .fn f a c=>some [.fn f a c]
def nu:List GV->Nat->List GV->List GV
 | cs,_,[]=>cs
 | cs,o,v::r=>nu (bj cs o v) (o+1) r
def yJ (pl:Nat->Option (Nat × Nat)):List GV->List (Nat × GV)->Option (List GV)
 | cs,[]=>some cs
 | cs,(i,g)::r=>match pl i with
  | none=>none
  | some (o,k)=>match lV g with
   | none=>none
   | some gs=>if gs.length≠k || decide (o+gs.length > cs.length) then none else yJ pl (nu cs o gs) r
theorem Rel.cells {K:Fz} {β:Bt} {x:Value} {g:GV} {gs:List GV} (h:Rel K β x g) (hg:lV g=some gs):∃ vs:List Value,x.cells=vs.toArray/\aV K β vs gs:=by
 have one:∀ {x:Value} {g:GV},Rel K β x g->x.cells=#[x]->∃ vs:List Value,x.cells=vs.toArray/\aV K β vs [g]:=fun hr hc=>⟨[_],hc,.cons hr .nil⟩
 cases h with
 | v x =>
  simp only [lV] at hg;split at hg
  ·rename_i ho;cases hg;exact one (.v _) (wD ho).1
  ·cases hg
 | aaF x=>cases hg
 | agg vs cs hl h=>cases hg;exact ⟨vs,rfl,hl,h⟩
 | tup vs cs hl h=>cases hg
 | sl0 a c k=>cases hg;exact one (.sl0 a c k) rfl
 | sl b o c k rows h hc=>cases hg;exact one (.sl b o c k rows h hc) rfl
 | box b o' o cs h=>cases hg;exact one (.box b o' o cs h) rfl
 | loc i o b h=>cases hg;exact one (.loc i o b h) rfl
 | vec i n a c h=>cases hg;exact one (.vec i n a c h) rfl
 | vp i n k idx off x h=>cases hg
 | arr i o n b c h=>cases hg;exact one (.arr i o n b c h) rfl
 | fn f xs ys first cap hl iX h h'=>cases hg;exact one (.fn f xs ys first cap hl iX h h') rfl
def lM:List GV->Bool
 | []=>true
 | g::gs=>g.one&&lM gs
def ru:List GV->Bool
 | []=>true
 | g::gs=>g.pc&&ru gs
theorem me {gs:List GV} (h:ru gs=true):∀ g∈gs,g.pc=true:=by
 induction gs with
 | nil=>intro g hg;cases hg
 | cons x gs ih =>
  simp only [ru,Bool.and_eq_true] at h;intro g hg
  rcases List.mem_cons.1 hg with rfl | hg
  ·exact h.1
  ·exact ih h.2 g hg
theorem aV.lf {K:Fz} {β:Bt} {vs:List Value} {gs:List GV} (h:aV K β vs gs) (ho:lM gs=true):lf vs=true:=by
 induction gs generalizing vs with
 | nil=>have:vs=[]:=eq_nil_of_length_eq_zero h.1;subst this;rfl
 | cons g gs ih =>
  cases vs with
  | nil=>have:=h.1;simp at this
  | cons v vs =>
   simp only [lM,Bool.and_eq_true] at ho;obtain ⟨h1,h2⟩:=h.nf;have h3:=(wD (h1.one ho.1)).2;have h4:=ih h2 ho.2;simp only [Xw.lf,all_cons,Bool.and_eq_true] at h4 |-;exact ⟨h3,h4⟩
end
end Go.Xg
namespace Go.Xg
open Go.RowKit Go.Xw
theorem aV.gw {K:Fz} {β:Bt} {us:List Value} {hs:List GV} (k:aV K β us hs):∀ {vs:List Value} {gs:List GV} (o:Nat),aV K β vs gs->aV K β (gw vs o us) (nu gs o hs):=by
 have hu:∀ {vs:List Value} {gs:List GV} (o:Nat) {v:Value} {g:GV},Rel K β v g->aV K β vs gs->aV K β (eK vs o v) (bj gs o g):=by
  intro vs
  induction vs with
  | nil =>
   intro gs o v g hv h;have:gs=[]:=eq_nil_of_length_eq_zero h.1.symm;subst this;exact .nil
  | cons x vs ih =>
   intro gs o v g hv h
   cases gs with
   | nil=>have:=h.1;simp at this
   | cons y gs =>
    obtain ⟨h1,h2⟩:=h.nf
    cases o with
    | zero=>exact .cons hv h2
    | succ o=>exact .cons h1 (ih o hv h2)
 induction us generalizing hs with
 | nil =>
  intro vs gs o h;have:hs=[]:=eq_nil_of_length_eq_zero k.1.symm;subst this;exact h
 | cons u us ih =>
  intro vs gs o h
  cases hs with
  | nil=>have:=k.1;simp at this
  | cons g hs =>
   obtain ⟨h1,h2⟩:=k.nf;exact ih h2 (o+1) (hu o h1 h)
theorem vZ {K:Fz} {β:Bt} {pl:Nat->Option (Nat × Nat)} {l:List Value} {fr:List GV} (hF:FR K β fr l):∀ (parts:List (Nat × Operand)) (vs:List Value) (gs cs:List GV),aV K β vs gs ->
  yJ pl gs (parts.map fun x=>(x.1,aP fr x.2))=some cs->∃ us,pk pl vs (parts.map fun x=>(x.1,ev l x.2))=some us/\aV K β us cs
 | [],vs,gs,cs,h,hf=>by cases hf;exact ⟨vs,rfl,h⟩
 | (i,x)::r,vs,gs,cs,h,hf=>by
  simp only [List.map_cons,yJ] at hf;simp only [List.map_cons,pk]
  cases hp:pl i with
  | none=>rw [hp] at hf;cases hf
  | some y =>
   obtain ⟨o,k⟩:=y;rw [hp] at hf;simp only at hf |-
   cases hg:lV (aP fr x) with
   | none=>rw [hg] at hf;cases hf
   | some hs =>
    rw [hg] at hf;simp only at hf;obtain ⟨us,jK,kj⟩:=(hF.ev x).cells hg
    have cI:(ev l x).cells.size=hs.length:=by rw [jK];simpa using kj.1
    rw [cI,h.1];split at hf
    ·cases hf
    ·rename_i hc;rw [if_neg hc]
     have jh:(ev l x).cells.toList=us:=by rw [jK]
     rw [jh];exact vZ hF r _ _ cs (kj.gw o h) hf
section
variable {P:Program} {m:Nat} {Q:dP} {fr:List GV} {Γ:List Ob} {ops:Array Oper} {rest:List Oper} {d:Option Tmp} {op:Op} {ty:TypeId} {pos:String} {af:Array Edge}
def jM (z:List Value):List GV:=z.map .v
theorem YG.build {t:TypeId} {pl:List (Nat × Nat)} {z:List Value} [hT:tK P t pl z] {parts:List (Nat × Operand)} {cs:List GV} (hf:yJ (fun i=>pl[i]?) (jM z) (parts.map fun x=>(x.1,aP fr x.2))=some cs) :
  YG P (.build t parts.toArray) fr Γ (.agg cs):=fun B K β w l hI hF=>by
 obtain ⟨us,h1,h2⟩:=vZ hF parts z _ cs aV.self hf;exact ⟨_,R.build h1,.agg us cs h2.1 h2.2⟩
theorem lY {K:Fz} {β:Bt} {l:List Value} {t:Nat} (h:FR K β fr l) (ht:jj fr t=true):jj l t=true:=by
 induction h generalizing t with
 | nil=>cases ht
 | cons _ _ ih=>cases t with | zero=>rfl | succ t=>exact ih ht
theorem r9 {l:List Value} {t:Nat} (h:jj l t=true) (u:Value):nth (eK l t u) t=u:=by
 induction l generalizing t with
 | nil=>cases h
 | cons x l ih=>cases t with | zero=>rfl | succ t=>exact ih h
theorem nz {l:List Value} {t t':Nat} (h:t'≠t) (u:Value):nth (eK l t u) t'=nth l t':=by
 induction l generalizing t t' with
 | nil=>rfl
 | cons x l ih=>cases t with
  | zero=>cases t' with | zero=>exact absurd rfl h | succ t'=>rfl
  | succ t=>cases t' with | zero=>rfl | succ t'=>exact ih (fun e=>h (by rw [e]))
theorem GL.alloc {t:TypeId} {z:Value} {cs:List GV} [hT:pV P t z] (hz:jM z.cells.toList=cs) (h:GL P m ops Q rest (bh fr d (.loc Γ.length 0)) (Γ++[.box t cs])):GL P m ops Q (⟨d,.alloc t,ty,pos,af,none⟩::rest) fr Γ:=fun B K β w l hm hI hF=>by
 refine WL.alloc (z:=z) fun b w' hn=>?_
 have bd:=hI.add (vs:=z.cells.toList) (cs:=cs) (E:=t) (by simpa using hn) (by rw [<-hz];exact aV.self);exact h B K _ w' _ hm bd ((hF.mono (ca.refl K) (fM (by rw [hI.out _ (Nat.le_refl _)];trivial))).put d (.loc _ 0 b ba))
theorem GL.box {t:TypeId} {x:Operand} {cs:List GV} (hx:lV (aP fr x)=some cs) (h:GL P m ops Q rest (bh fr d (.loc Γ.length 0)) (Γ++[.box t cs])):GL P m ops Q (⟨d,.box t x,ty,pos,af,none⟩::rest) fr Γ:=fun B K β w l hm hI hF=>by
 obtain ⟨vs,h1,h2⟩:=(hF.ev x).cells hx
 refine WL.box rfl fun b w' hn=>?_
 rw [h1] at hn;have bd:=hI.add hn h2;exact h B K _ w' _ hm bd ((hF.mono (ca.refl K) (fM (by rw [hI.out _ (Nat.le_refl _)];trivial))).put d (.loc _ 0 b ba))
def oset:List Ob->Nat->Ob->List Ob
 | [],_,_=>[]
 | _::l,0,x=>x::l
 | y::l,n+1,x=>y::oset l n x
theorem aY (l:List Ob) (i:Nat) (x:Ob):oset l i x=l.set i x:=by
 induction l generalizing i with
 | nil=>rfl
 | cons y l ih=>cases i with | zero=>rfl | succ i=>simp [oset,ih]
theorem uj:∀ (us:List Value) (vs:List Value) (o:Nat),uF vs.toArray o us=(gw vs o us).toArray
 | [],vs,o=>rfl
 | u::us,vs,o=>by rw [uF,gw,yu];exact uj us _ _
theorem GL.st {x y:Operand} {t:TypeId} {agg:Bool} {k:Nat} [hT:Ty P t agg k] {i o:Nat} {E:TypeId} {cs gs:List GV} (hx:aP fr x=.loc i o) (br:Γ[i]?=some (.box E cs)) (hy:lV (aP fr y)=some gs) (hk:gs.length=k) (h1:lM gs=true)
  (hl:Nat.ble (o+k) cs.length=true) (h:GL P m ops Q rest (bh fr d (.v undef)) (oset Γ i (.box E (nu cs o gs)))):GL P m ops Q (⟨d,.store t x y,ty,pos,af,none⟩::rest) fr Γ:=fun B K β w l hm hI hF=>by
 have hr:=hF.ev x;rw [hx] at hr;generalize hv:ev l x=v at hr
 cases hr with
 | loc _ _ b hb =>
  obtain ⟨b',vs,h2,h3,h4,h5⟩:=hI.ob i _ br;rw [hb] at h2;cases h2;obtain ⟨us,jK,kj⟩:=(hF.ev y).cells hy
  have iX:o+k<=cs.length:=by simpa using hl
  refine WL.st (t:=t) hv rfl h3 (by rw [jK];simpa [hk] using kj.1) (by rw [size_toArray,h4.1];exact iX) (by rw [jK];simpa using kj.lf h1) fun w' hs=>?_
  rw [jK,List.toList_toArray,uj] at hs;have bd:=hI.store br hb hs (kj.gw o h4);rw [<-aY] at bd;exact h B K β w' _ hm bd (hF.put d (.v _))
def chunk:Nat->Nat->List GV->List (List GV)
 | 0,_,_=>[]
 | n+1,k,gs=>gs.take k::chunk n k (gs.drop k)
theorem vW {k:Nat}:∀ (n:Nat) (gs:List GV),gs.length=n * k->(chunk n k gs).flatten=gs/\(chunk n k gs).length=n/\∀ r∈chunk n k gs,r.length=k/\∀ g∈r,g∈gs
 | 0,gs,h=>by
  have:gs=[]:=eq_nil_of_length_eq_zero (by simpa using h);subst this;exact ⟨rfl,rfl,fun r hr=>by cases hr⟩
 | n+1,gs,h=>by
  have hk:k<=gs.length:=by rw [h,Nat.succ_mul];omega
  obtain ⟨h1,h2,h3⟩:=vW (k:=k) n (gs.drop k) (by rw [List.length_drop,h,Nat.succ_mul];omega);refine ⟨by rw [chunk,flatten_cons,h1,List.take_append_drop],by rw [chunk,length_cons,h2],fun r hr=>?_⟩;rw [chunk] at hr
  rcases List.mem_cons.1 hr with rfl | hr
  ·exact ⟨by simp [hk],fun g hg=>List.mem_of_mem_take hg⟩
  ·obtain ⟨h4,h5⟩:=h3 r hr;exact ⟨h4,fun g hg=>List.mem_of_mem_drop (h5 g hg)⟩
def zs:Nat->List Value->List GV
 | 0,_=>[]
 | n+1,z=>jM z++zs n z
theorem Ha {K:Fz} {β:Bt} {n k:Nat} {z:List Value} (hz:z.length=k) (hk:0 < k):aV K β ((List.range (n * k)).map fun j=>z.getD (j % k) undef) (zs n z):=by
 induction n with
 | zero=>simpa [zs] using aV.nil
 | succ n ih =>
  have he:(List.range ((n+1) * k)).map (fun j=>z.getD (j % k) undef)=(List.range k).map (fun j=>z.getD (j % k) undef)++(List.range (n * k)).map fun j=>z.getD (j % k) undef:=by
   rw [Nat.succ_mul,Nat.add_comm,List.range_add,List.map_append,List.map_map]
   congr 1
   apply List.map_congr_left;intro j _;simp
  rw [he,zs];refine aV.app ?_ ih
  have:(List.range k).map (fun j=>z.getD (j % k) undef)=z:=by
   apply List.ext_getElem
   ·simp [hz]
   ·intro j h1 h2;simp at h1;simp [Nat.mod_eq_of_lt h1,List.getElem?_eq_getElem h2]
  rw [this];exact aV.self
theorem GL.Xm {t e:TypeId} {k:Nat} {z:List Value} [hT:pb P t e k z] {n:Nat} {parts:List (Nat × Operand)} {cs:List GV} (hn:Nat.ble (n * k) 16777216=true) (hf:yJ (fun i=>some (i * k,k)) (zs n z) (parts.map fun x=>(x.1,aP fr x.2))=some cs)
  (hl:Nat.beq cs.length (n * k)=true) (hp:ru cs=true) (h:GL P m ops Q rest (bh fr d (.sl k (chunk n k cs))) Γ):GL P m ops Q (⟨d,.buildSlice t n parts.toArray,ty,pos,af,none⟩::rest) fr Γ:=fun B K β w l hm hI hF=>by
 obtain ⟨us,h1,h2⟩:=vZ hF parts _ _ cs (Ha (n:=n) hT.zl hT.pos) hf
 have iX:cs.length=n * k:=by simpa using hl
 refine WL.CL (by simpa using hn) h1 fun b w' rJ=>?_
 obtain ⟨hle,bd⟩:=hI.tR rJ h2 (me hp);obtain ⟨c1,c2,c3⟩:=vW n cs iX;refine h B _ β w' _ hm bd ((hF.mono hle (cX.refl β)).put d ?_)
 have jF:fq k (chunk n k cs):=fun r hr=>⟨(c3 r hr).1,fun g hg=>me hp g ((c3 r hr).2 g hg)⟩
 have:=Rel.sl (K:=kv K b cs) (β:=β) b 0 n k (chunk n k cs) (fun i r hr=>⟨(jF r (mem_of_getElem? hr)).1,fun j g hg=>by
  rw [Nat.zero_add];exact uM (by have:=th jF hr hg;rw [c1] at this;exact this)⟩) (by rw [c2];exact Nat.le_refl _)
 rw [c2] at this;exact this
theorem GL.Ra {t e:TypeId} {k:Nat} {z:List Value} [hT:pb P t e k z] {n:Nat} {parts:List (Nat × Operand)} {cs:List GV} (hn:Nat.ble (n * k) 16777216=true) (hf:yJ (fun i=>some (i * k,k)) (zs n z) (parts.map fun x=>(x.1,aP fr x.2))=some cs)
  (hl:Nat.beq cs.length (n * k)=true) (hp:ru cs=true) (h:GL P m ops Q rest (bh fr d (.vec Γ.length n)) (Γ++[.vec e k 0 (chunk n k cs)])):GL P m ops Q (⟨d,.buildSlice t n parts.toArray,ty,pos,af,none⟩::rest) fr Γ:=fun B K β w l hm hI hF=>by
 obtain ⟨us,h1,h2⟩:=vZ hF parts _ _ cs (Ha (n:=n) hT.zl hT.pos) hf
 have iX:cs.length=n * k:=by simpa using hl
 have BB:n * k<=16777216:=by simpa using hn
 have bH:n<=16777216:=Nat.le_trans (Nat.le_mul_of_pos_right n hT.pos) BB
 refine WL.CL BB h1 fun b w' rJ=>?_
 obtain ⟨c1,c2,c3⟩:=vW n cs iX
 have jF:fq k (chunk n k cs):=fun r hr=>⟨(c3 r hr).1,fun g hg=>me hp g ((c3 r hr).2 g hg)⟩
 have how:=gk.UP rJ (n:=n) (k:=k) (by rw [h2.1,iX]) (by simp only [maxLen];omega);have bd:=hI.Ci (x:=.slice (some ⟨b,0,none⟩) n n) (xs:=us) (rows:=chunk n k cs) rJ.ext (by rw [c2];exact how.base (Nat.zero_le _)) (fun b' bg=>by cases bg;rw [rJ.fresh];exact Nat.le_refl _) (by rw [c1];exact h2) jF;refine h B K _ w' _ hm bd ((hF.mono (ca.refl K) (fM (by rw [hI.out _ (Nat.le_refl _)];trivial))).put d ?_);exact .vec _ n _ n ⟨_,_,ba,by rw [c2];exact Nat.le_refl _,fun _=>rfl⟩
def PR (x:Operand) (t:Tmp):Bool :=
 match x with
 | .tmp t'=>!Nat.beq t' t
 | _=>true
theorem Tj {l:List Value} {x:Operand} {t:Tmp} (h:PR x t=true) (u:Value):ev (put l (some t) u) x=ev l x:=by
 cases x with
 | tmp t'=>exact nz (fun e=>by subst e;simp [PR] at h) u
 | _=>rfl
theorem GL.push {x s:Operand} {t e k gD:Nat} {z:List Value} [hT:nT P t e k gD] [hZ:pb P t e k z] {d1:Tmp} {N4:TypeId} {Gk:String} {Lu:Array Edge} {i n fz:Nat} {rows:List (List GV)} {gs:List GV}
  (hx:lV (aP fr x)=some gs) (hk:Nat.beq gs.length k=true) (h1:lM gs=true) (hp:ru gs=true) (hs:aP fr s=.vec i n) (Uj:PR s d1=true) (hd:jj fr d1=true) (br:Γ[i]?=some (.vec e k fz rows)) (hn:rows.length=n)
  (hb:(n+1<=9223372036854775807/\(n+1) * gD<=140737488355328)/\k<=16777216)
  (h:GL P m ops Q rest (bh (bh fr (some d1) .aaF) d (.vec i (n+1))) (oset Γ i (.vec e k fz (rows++[gs])))) :
  GL P m ops Q (⟨some d1,.buildSlice t 1 #[(0,x)],N4,Gk,Lu,none⟩::⟨d,.call ⟨.builtin .append,#[s,.tmp d1],#[t,t]⟩,ty,pos,af,none⟩::rest) fr Γ:=fun B K β w l hm hI hF=>by
 subst hn;obtain ⟨us,jK,kj⟩:=(hF.ev x).cells hx;obtain ⟨h0,xs,o1,o2,o3,o4,o5,o6⟩:=hI.ob i _ br;have sQ:=hF.ev s;rw [hs] at sQ
 have qd:ev l s=h0:=by
  generalize hv:ev l s=v at sQ
  cases sQ with
  | vec _ _ a c hh =>
   obtain ⟨h',m',e1,e2,e3⟩:=hh;rw [o1] at e1;cases e1;exact e3 rfl
 have MG:=lY hF hd
 have kY:gs.length=k:=by simpa using hk
 refine WL.push (base:=0) (v:=h0) (vs:=us) (val:=ev l x) (xs:=xs) (n:=rows.length) rfl (fun u=>by rw [Tj Uj];exact qd) (fun u=>r9 MG u) jK (by rw [kj.1,kY]) (kj.lf h1) o2 hb.1.1 hb.1.2 hb.2 (Nat.zero_le _) ?_;intro u v' w' how gq tV vf
 obtain ⟨K',hK,qe,bd⟩:=hI.grow br o1 ⟨o2,o3⟩ (news:=[gs]) (ns:=us) how gq tV (by simpa using kj) (fun r hr=>by simp at hr;subst hr;exact ⟨kY,me hp⟩) (by simp) (fun b bg o v ho hv=>by
  rcases vf with h7 | h7
  ·exact h7.c hv (fun h=>h)
  ·have gS:o < xs.length:=by rw [o2.1];exact Nat.lt_of_lt_of_le ho (Nat.mul_le_mul_right k o6)
   obtain ⟨b2,c2,oP,_,_,jt⟩:=o2.cells.2 (by intro h0;rw [h0] at gS;simp at gS)
   have eB:b2=b:=by rw [oP] at bg;cases bg;rfl
   subst eB;have DD:=jt o xs[o] (by simp [gS]);rw [eT,hv] at DD;cases DD;obtain ⟨b3,c3,MI,_,_,ME⟩:=how.cells.2 (by intro h0;have:xs=[]:=(List.append_eq_nil_iff.1 h0).1;rw [this] at gS;simp at gS)
   have xE:b3=b2:=by rw [MI,bg] at h7;cases h7;rfl
   subst xE
   rw [<-eT];exact ME o _ (by rw [getElem?_append_left gS];simp [gS]))
 rw [<-aY] at bd;refine h B K' _ w' _ hm bd (((hF.mono hK qe).put (some d1) (.aaF u)).put d ?_);obtain ⟨a,c,rfl⟩:=how.shape;exact .vec i _ a c ⟨_,_,ba,by simp,fun _=>rfl⟩
theorem Wk.CN {t:Nat} {a:Option Addr} {c:Nat} (E k:Nat) (ht:cq fr t=.v (.slice none 0 0)):Wk m fr Γ (bj fr t (.vec Γ.length 0)) (Γ++[.vec E k 0 []]):=fun B K β w l hm hI hF=>by
 have bR:β Γ.length=.no:=hI.out _ (Nat.le_refl _);have bd:=hI.Ci (w':=w) (E:=E) (k:=k) (x:=.slice none 0 0) (xs:=[]) (rows:=[]) (Ext.refl w) (gk.nil w 0 E k) (fun b hb=>by cases hb) aV.nil (fun r hr=>by cases hr);refine ⟨K,_,bd,?_⟩;have va:=hF.mono (ca.refl K) (fM (i:=Γ.length) (x:=.gr (.slice none 0 0) ([]:List (List GV)).length) (by rw [bR];trivial));have hv:nth l t=.slice none 0 0:=Rel.dR (by rw [<-ht];exact hF.nth t)
 have hu:∀ (l:List Value) (t:Nat) (v:Value),nth l t=v->(∃ a n c,v=.slice a n c)->eK l t v=l:=by
  intro l
  induction l with
  | nil=>intro t v _ _;rfl
  | cons x l ih =>
   intro t v h1 h2
   cases t with
   | zero=>simp only [nth] at h1;subst h1;rfl
   | succ t=>simp only [nth] at h1;simp only [eK];rw [ih t v h1 h2]
 have:=va.eK t (v:=.slice none 0 0) (g:=.vec Γ.length 0) (.vec _ 0 none 0 ⟨_,_,ba,Nat.le_refl _,fun _=>rfl⟩);rw [hu l t _ hv ⟨_,_,_,rfl⟩] at this;exact this
theorem A6 {l:List Value} {t:Nat} (h:jj l t=true):eK l t (nth l t)=l:=by
 induction l generalizing t with
 | nil=>cases h
 | cons x l ih=>cases t with | zero=>rfl | succ t=>simp only [eK,nth];rw [ih h]
theorem Wk.iv {t i n E k fz:Nat} {rows:List (List GV)} (ht:cq fr t=.vec i n) (gh:jj fr t=true) (br:Γ[i]?=some (.vec E k fz rows)) (hn:rows.length=n):Wk m fr Γ (bj fr t (.sl k rows)) (oset Γ i (.vec E k n rows)):=fun B K β w l hm hI hF=>by
 subst hn;obtain ⟨h0,xs,o1,o2,o3,o4,o5,o6⟩:=hI.ob i _ br;obtain ⟨K',hK,xK,bd⟩:=hI.iv br;rw [<-aY] at bd;refine ⟨K',β,bd,?_⟩;have hr:=hF.nth t;rw [ht] at hr
 have eL:Rel K' β (nth l t) (.sl k rows):=by
  generalize nth l t=v at hr
  cases hr with
  | vec _ _ a c hh =>
   obtain ⟨h',m',e1,e2,e3⟩:=hh;rw [o1] at e1;cases e1;have e4:=e3 rfl
   rcases o2.2 with ⟨e5,e6⟩ | ⟨g,cap,cu,e5,_,_,n9,_⟩
   ·have:rows=[]:=eq_nil_of_length_eq_zero e6;subst this;exact .sl0 _ _ _
   ·rw [e5] at e4;cases e4;refine .sl g 0 _ k rows (fun j r hr=>⟨(o4 r (mem_of_getElem? hr)).1,fun q g' kW=>?_⟩) n9;rw [Nat.zero_add];exact xK _ g o1 (by rw [e5];rfl) _ g' (th o4 hr kW)
 have:=(hF.mono hK (cX.refl β)).eK t eL;rw [A6 (lY hF gh)] at this;exact this
def mM (i:Nat) (cs:List GV):GV->GV
 | .loc j o=>match Nat.beq j i with
  | true=>.box cs o
  | false=>.loc j o
 | g=>match g.ok (other i) with
  | true=>g
  | false=>.aaF
theorem Rel.YU {K K':Fz} {β:Bt} {i b:Nat} {cs:List GV} {x:Value} {g:GV} (h:Rel K β x g) (hk:ca K K') (hb:β i=.fix b) (hc:∀ (j:Nat) g,cs[j]?=some g->K' b j=some g):Rel K' (eX (other i) β) x (mM i cs g):=by
 have gen:∀ {g:GV},Rel K β x g->Rel K' (eX (other i) β) x (match g.ok (other i) with | true=>g | false=>.aaF):=by
  intro g h;split
  ·rename_i ho;exact (h.mono hk (cX.refl β)).res ho
  ·exact .aaF _
 cases g with
 | loc j o =>
  simp only [mM];split
  ·rename_i hj
   have hj:j=i:=by simpa using hj
   subst hj
   cases h with
   | loc _ _ b' bg =>
    rw [hb] at bg;cases bg;have:=Rel.box (K:=K') (β:=eX (other j) β) b 0 o cs (fun q g hg=>by rw [Nat.zero_add];exact hc q g hg);rw [Nat.zero_add] at this;exact this
  ·rename_i hj
   have hj:j≠i:=by intro e;subst e;simp at hj
   exact (h.mono hk (cX.refl β)).res (vu hj)
 | _=>exact gen h
def nP (i:Nat) (cs:List GV):List GV->List GV
 | []=>[]
 | g::gs=>mM i cs g::nP i cs gs
theorem Wk.freeze {i:Nat} {E:TypeId} {cs:List GV} (br:Γ[i]?=some (.box E cs)) (hp:ru cs=true) (bR:DP (other i) (oset Γ i .gone)=true) (hm:m<=i):Wk m fr Γ (nP i cs fr) (oset Γ i .gone):=fun B K β w l hB hI hF=>by
 rw [aY] at bR |-;obtain ⟨b,vs,h1,h2,h3,h4⟩:=hI.ob i _ br;obtain ⟨K',hK,xK,bd⟩:=hI.freeze br (me hp) bR (by omega);refine ⟨K',_,bd,?_⟩;clear hI bd bR br
 induction hF with
 | nil=>exact .nil
 | cons h t ih=>exact .cons (h.YU hK h1 (xK b h1)) ih
end
end Go.Xg
namespace Go.Xg
open Go.RowKit Go.Xw
def bM:List Nat->Nat->Nat->Nat
 | [],n,j=>n+j
 | i::_,_,0=>i
 | _::r,n,j+1=>bM r n j
def dJ:List Ob->List Nat->List Ob->List Ob
 | Γ,[],xs=>Γ++xs
 | Γ,_::_,[]=>Γ
 | Γ,i::r,x::xs=>dJ (oset Γ i x) r xs
def gQ:List Nat->Nat->Bool
 | [],_=>true
 | i::r,n=>Nat.blt i n&&!(r.contains i)&&gQ r n
theorem CV {aJ:List Nat} {n j:Nat} (h:aJ.length<=j):bM aJ n j=n+(j - aJ.length):=by
 induction aJ generalizing j with
 | nil=>simp [bM]
 | cons i r ih =>
  cases j with
  | zero=>simp at h
  | succ j=>rw [bM,ih (by simpa using h)];simp
theorem SD {aJ:List Nat} {n j:Nat} (h:j < aJ.length):∃ i∈aJ,bM aJ n j=i:=by
 induction aJ generalizing j with
 | nil=>simp at h
 | cons i r ih =>
  cases j with
  | zero=>exact ⟨i,by simp,rfl⟩
  | succ j=>obtain ⟨x,h1,h2⟩:=ih (j:=j) (by simpa using h);exact ⟨x,by simp [h1],h2⟩
theorem Gf {aJ:List Nat} {n:Nat} (h:gQ aJ n=true):∀ i∈aJ,i < n:=by
 induction aJ with
 | nil=>intro i hi;cases hi
 | cons x r ih =>
  simp only [gQ,Bool.and_eq_true] at h;intro i hi
  rcases List.mem_cons.1 hi with rfl | hi
  ·simpa using h.1.1
  ·exact ih h.2 i hi
theorem A2 {aJ:List Nat} {n:Nat} (h:gQ aJ n=true):∀ {j j':Nat},bM aJ n j=bM aJ n j'->j=j':=by
 induction aJ with
 | nil=>intro j j' he;simp only [bM] at he;omega
 | cons x r ih =>
  have aq:=Gf h;simp only [gQ,Bool.and_eq_true,Bool.not_eq_true'] at h
  have hx:∀ j,bM r n j≠x:=fun j he=>by
   by_cases hj:j < r.length
   ·obtain ⟨i,hi,h2⟩:=SD (n:=n) hj;rw [he] at h2;subst h2;have:=h.1.2;rw [List.contains_iff_mem.2 hi] at this;cases this
   ·have:=CV (n:=n) (Nat.le_of_not_lt hj);have:=aq x (by simp);omega
  intro j j' he
  cases j with
  | zero=>cases j' with
   | zero=>rfl
   | succ j'=>exact absurd he.symm (hx j')
  | succ j=>cases j' with
   | zero=>exact absurd he (hx j)
   | succ j'=>rw [ih h.2 he]
theorem HL {aJ:List Nat} {n:Nat}:∀ {Γ xs:List Ob},Γ.length=n->gQ aJ n=true->aJ.length<=xs.length ->
  (∀ j,(dJ Γ aJ xs)[bM aJ n j]?=xs[j]?)/\(∀ i,(∀ j,bM aJ n j≠i)->(dJ Γ aJ xs)[i]?=Γ[i]?)/\(dJ Γ aJ xs).length=n+(xs.length - aJ.length):=by
 induction aJ with
 | nil =>
  intro Γ xs hn _ _;refine ⟨fun j=>?_,fun i hi=>?_,by simp [dJ,hn]⟩
  ·simp only [dJ,bM];rw [List.getElem?_append_right (by omega)];congr 1;omega
  ·simp only [dJ,bM] at hi |-
   by_cases aq:i < n
   ·rw [getElem?_append_left (by omega)]
   ·exact absurd (by omega) (hi (i - n))
 | cons x r ih =>
  intro Γ xs hn eJ hl;have FA:=@A2 (x::r) n eJ;have aq:=Gf eJ x (by simp)
  cases xs with
  | nil=>simp at hl
  | cons y ys =>
   simp only [gQ,Bool.and_eq_true,Bool.not_eq_true'] at eJ;obtain ⟨h1,h2,h3⟩:=ih (Γ:=oset Γ x y) (xs:=ys) (by rw [aY];simpa using hn) eJ.2 (by simpa using hl)
   have hx:∀ j,bM r n j≠x:=fun j he=>by
    have:=@FA (j+1) 0 he;omega
   refine ⟨fun j=>?_,fun i hi=>?_,by simp only [dJ,h3,length_cons];omega⟩
   ·cases j with
    | zero =>
     simp only [dJ,bM];rw [h2 x hx,aY,getElem?_set];simp [hn,aq]
    | succ j=>simp only [dJ,bM];exact h1 j
   ·simp only [dJ];rw [h2 i (fun j=>hi (j+1)),aY,getElem?_set];rw [if_neg (by intro e;exact hi 0 e)]
theorem jN.BU {K:Fz} {β:Bt} {w:World} {f:Nat->Nat} {j:Nat} {x:Ob} (h:jN K β w (f j) (x.dp f)):jN K (fun j=>β (f j)) w j x:=by
 cases x with
 | gone=>exact h
 | box E cs =>
  obtain ⟨b,vs,h1,h2,h3,h4⟩:=h;rw [jB] at h3;exact ⟨b,vs,h1,h2,⟨by simpa using h3.1,fun i v g h5 h6=>(h3.2 i v (dp f g) h5 (by rw [getElem?_map,h6];rfl)).BU⟩,h4⟩
 | vec E k fz rows =>
  obtain ⟨h0,xs,h1,h2,h3,h4,h5⟩:=h;refine ⟨h0,xs,h1,h2,⟨h3.1,fun i v g h6 h7=>(h3.2 i v g h6 h7).pc ?_⟩,h4,h5⟩;obtain ⟨r,fS,c6⟩:=List.mem_flatten.1 (mem_of_getElem? h7);exact (h4 r fS).2 g c6
 | vech E k rows x =>
  obtain ⟨xs,h1,h2,h3,h4,h5⟩:=h;refine ⟨xs,h1,h2,⟨h3.1,fun i v g h6 h7=>(h3.2 i v g h6 h7).pc ?_⟩,h4,h5⟩;obtain ⟨r,fS,c6⟩:=List.mem_flatten.1 (mem_of_getElem? h7);exact (h4 r fS).2 g c6
 | lost=>exact h
theorem jN.B8 {K:Fz} {β:Bt} {w:World} {f:Nat->Nat} {j:Nat} {x:Ob} (h:jN K (fun j=>β (f j)) w j x):jN K β w (f j) (x.dp f):=by
 cases x with
 | gone=>exact h
 | box E cs =>
  obtain ⟨b,vs,h1,h2,h3,h4⟩:=h;refine ⟨b,vs,h1,h2,?_,h4⟩;rw [jB];refine ⟨by simpa using h3.1,fun i v g h5 h6=>?_⟩;rw [getElem?_map] at h6
  cases hc:cs[i]? with
  | none=>rw [hc] at h6;cases h6
  | some c=>rw [hc] at h6;cases h6;exact (h3.2 i v c h5 hc).B8
 | vec E k fz rows =>
  obtain ⟨h0,xs,h1,h2,h3,h4,h5⟩:=h;refine ⟨h0,xs,h1,h2,⟨h3.1,fun i v g h6 h7=>(h3.2 i v g h6 h7).pc ?_⟩,h4,h5⟩;obtain ⟨r,fS,c6⟩:=List.mem_flatten.1 (mem_of_getElem? h7);exact (h4 r fS).2 g c6
 | vech E k rows x =>
  obtain ⟨xs,h1,h2,h3,h4,h5⟩:=h;refine ⟨xs,h1,h2,⟨h3.1,fun i v g h6 h7=>(h3.2 i v g h6 h7).pc ?_⟩,h4,h5⟩;obtain ⟨r,fS,c6⟩:=List.mem_flatten.1 (mem_of_getElem? h7);exact (h4 r fS).2 g c6
 | lost=>exact h
section
variable {K:Fz} {β:Bt} {Γ:List Ob} {w:World} {B:Bs}
theorem Inv.enter {aJ:List Nat} {gz:List Ob} (h:Inv B K β Γ w) (eJ:gQ aJ Γ.length=true) (hl:gz.length=aJ.length) (br:∀ j x,gz[j]?=some x->Γ[bM aJ Γ.length j]?=some (x.dp (bM aJ Γ.length))) :
  Inv (cur K (fun j=>β (bM aJ Γ.length j)) gz w) K (fun j=>β (bM aJ Γ.length j)) gz w:=by
 have bR:∀ i,gz.length<=i->β (bM aJ Γ.length i)=.no:=fun i hi=>by
  rw [CV (by omega)];exact h.out _ (by omega)
 exact ⟨Ext.refl w,ca.refl K,cX.refl _,bR,h.fz,fun i x hi=>(h.ob _ _ (br i x hi)).BU,bR,fun i j b hi hj=>A2 eJ (h.dis _ _ b hi hj),fun i b hb=>.inl ⟨i,hb⟩,fun _ _ _ h=>.inl h,h.tab.step (S:=gP) (Ext.refl w) (fun _ h=>h.elim) (ca.refl K) (fun i b2 h2=>.inl ⟨_,h2⟩)⟩
theorem Inv.leave {aJ:List Nat} {gz qI:List Ob} {K':Fz} {A9:Bt} {w':World} (h:Inv B K β Γ w) (eJ:gQ aJ Γ.length=true) (hl:gz.length=aJ.length) (iX:aJ.length<=qI.length)
  (hI:Inv (cur K (fun j=>β (bM aJ Γ.length j)) gz w) K' A9 qI w') :
  ∃ bL,ca K K'/\cX β bL/\(∀ j,bL (bM aJ Γ.length j)=A9 j)/\Inv B K' bL (dJ Γ aJ (qI.map (Ob.dp (bM aJ Γ.length)))) w':=by
 obtain ⟨s1,s2,s3⟩:=HL (aJ:=aJ) (n:=Γ.length) (Γ:=Γ) (xs:=qI.map (Ob.dp (bM aJ Γ.length))) rfl eJ (by simpa using iX);rw [List.length_map] at s3;generalize hf:bM aJ Γ.length=f at *
 have FA:∀ {j j'},f j=f j'->j=j':=by subst hf;exact A2 eJ
 have kX:∀ j,aJ.length<=j->f j=Γ.length+(j - aJ.length):=fun j hj=>by subst hf;exact CV hj
 have XR:∀ i,Γ.length<=i->f (aJ.length+(i - Γ.length))=i:=fun i hi=>by rw [kX _ (by omega)];omega
 have ⟨bL,hβ1,hβ2⟩:∃ bL:Bt,(∀ j,bL (f j)=A9 j)/\∀ i,(∀ j,f j≠i)->bL i=β i:=by
  classical
  refine ⟨fun i=>if h:∃ j,f j=i then A9 (Classical.choose h) else β i,fun j=>?_,fun i hi=>?_⟩
  ·have hex:∃ j',f j'=f j:=⟨j,rfl⟩;simp only;rw [dif_pos hex,FA (Classical.choose_spec hex)]
  ·simp only;rw [dif_neg (fun ⟨j,hj⟩=>hi j hj)]
 have TC:cX β bL:=fun i=>by
  by_cases hi:∃ j,f j=i
  ·obtain ⟨j,rfl⟩:=hi;rw [hβ1];exact hI.ble j
  ·rw [hβ2 i (fun j hj=>hi ⟨j,hj⟩)];exact sj.refl _
 have J4:∀ b,blocks (fun j=>β (f j)) b->blocks β b:=fun b ⟨j,hj⟩=>⟨f j,hj⟩
 have eS:∀ i b,(bL i).blk=some b->blocks β b\/w.heap.size<=b:=fun i b hb=>by
  by_cases hi:∃ j,f j=i
  ·obtain ⟨j,rfl⟩:=hi;rw [hβ1] at hb;exact (hI.own j b hb).imp (J4 b) id
  ·rw [hβ2 i (fun j hj=>hi ⟨j,hj⟩)] at hb;exact .inl ⟨i,hb⟩
 have rh:∀ i b,(∀ j,f j≠i)->(β i).blk=some b->¬ blocks (fun j=>β (f j)) b:=fun i b hi hb ⟨j,hj⟩=>hi j (h.dis _ _ b hj hb)
 refine ⟨bL,hI.kle,TC,hβ1,h.NH (Xr:=Γ) ?_⟩;refine ⟨hI.ext.mono (fun k _ hk=>J4 k hk),hI.kle,TC,h.out,hI.fz,fun i x hi=>?_,fun i hi=>?_,fun i i' b hi n7=>?_,eS,fun b o g hg=>?_,⟨hI.tab.le,hI.tab.pow,hI.tab.spc,fun i b hb=>(eS i b hb).elim (fun ⟨j,hj⟩=>h.tab.free j b hj) (fun hs=>⟨by have:=h.tab.pow.lt;have hs:w.heap.size<=b:=hs;omega,by have:=h.tab.spc.lt;have hs:w.heap.size<=b:=hs;omega⟩)⟩⟩
 ·by_cases hj:∃ j,f j=i
  ·obtain ⟨j,rfl⟩:=hj;rw [s1 j,getElem?_map] at hi
   cases hc:qI[j]? with
   | none=>rw [hc] at hi;cases hi
   | some c =>
    rw [hc] at hi;cases hi;refine jN.B8 ?_;have:=hI.ob j c hc;rw [show (fun j=>bL (f j))=A9 from funext hβ1];exact this
  ·have lA:∀ j,f j≠i:=fun j h=>hj ⟨j,h⟩
   rw [s2 i lA] at hi;refine (h.ob i x hi).ext hI.ext (fun b hb=>rh i b lA hb) hI.kle TC (hβ2 i lA) (fun b o hb hk=>?_)
   cases kY:K' b o with
   | none=>rfl
   | some g =>
    rcases hI.kn b o g kY with h7 | h7 | h7
    ·have h7:K b o=some g:=h7;rw [hk] at h7;cases h7
    ·exact absurd h7 (rh i b lA hb)
    ·have:=h.lt hb;have h7:w.heap.size<=b:=h7;omega
 ·rw [s3] at hi;have h1:=XR i (by omega);rw [<-h1,hβ1];exact hI.out _ (by omega)
 ·by_cases h1:∃ j,f j=i <;> by_cases h2:∃ j,f j=i'
  ·obtain ⟨j,rfl⟩:=h1;obtain ⟨j',rfl⟩:=h2;rw [hβ1] at hi n7;rw [hI.dis j j' b hi n7]
  ·obtain ⟨j,rfl⟩:=h1
   have p7:∀ j,f j≠i':=fun j h=>h2 ⟨j,h⟩
   rw [hβ1] at hi;rw [hβ2 i' p7] at n7
   rcases hI.own j b hi with h7 | h7
   ·exact absurd h7 (rh i' b p7 n7)
   ·have:=h.lt n7;have h7:w.heap.size<=b:=h7;omega
  ·obtain ⟨j,rfl⟩:=h2
   have cv:∀ j,f j≠i:=fun j h=>h1 ⟨j,h⟩
   rw [hβ1] at n7;rw [hβ2 i cv] at hi
   rcases hI.own j b n7 with h7 | h7
   ·exact absurd h7 (rh i b cv hi)
   ·have:=h.lt hi;have h7:w.heap.size<=b:=h7;omega
  ·rw [hβ2 i (fun j h=>h1 ⟨j,h⟩)] at hi;rw [hβ2 i' (fun j h=>h2 ⟨j,h⟩)] at n7;exact h.dis i i' b hi n7
 ·rcases hI.kn b o g hg with h7 | h7 | h7
  ·exact .inl h7
  ·exact .inr (.inl (J4 b h7))
  ·exact .inr (.inr h7)
end
section
variable {P:Program} {m:Nat} {Q:dP} {fr:List GV} {Γ:List Ob} {ops:Array Oper} {rest:List Oper} {d:Option Tmp} {op:Op} {ty:TypeId} {pos:String} {af:Array Edge}
def seen (f:Nat->Nat) (Γ:List Ob):List Nat->List Ob->Prop
 | [],[]=>True
 | i::r,x::xs=>Γ[i]?=some (x.dp f)/\seen f Γ r xs
 | _,_=>False
theorem DZ {f:Nat->Nat} {Γ:List Ob} {n:Nat}:∀ {aJ:List Nat} {gz:List Ob},seen f Γ aJ gz->gz.length=aJ.length/\∀ j x,gz[j]?=some x->Γ[bM aJ n j]?=some (x.dp f)
 | [],[],_=>⟨rfl,fun j x h=>by simp at h⟩
 | i::r,y::ys,h=>by
  obtain ⟨h1,h2⟩:=h;obtain ⟨h3,h4⟩:=DZ (n:=n) h2;refine ⟨by simp [h3],fun j x hx=>?_⟩
  cases j with
  | zero=>cases hx;exact h1
  | succ j=>exact h4 j x hx
 | [],_::_,h=>h.elim
 | _::_,[],h=>h.elim
theorem GL.calls {f:FuncId} {aJ:List Nat} {gs:List GV} {gz:List Ob} {R:GV->List Ob->Prop} {vs:List Value->List Value} (hr:∀ K β w l,FR K β fr l->aV K β (vs l) (lj (bM aJ Γ.length) gs)/\(execOp (ev l) ⟨d,op,ty,pos,af,none⟩).run P w=.ok (.enter f (vs l).toArray) w)
  (eJ:gQ aJ Γ.length=true) (br:seen (bM aJ Γ.length) Γ aJ gz) (hc:GC P f gs gz R)
  (h:∀ g aH,R g aH->aJ.length<=aH.length/\GL P m ops Q rest (bh fr d (dp (bM aJ Γ.length) g)) (dJ Γ aJ (aH.map (Ob.dp (bM aJ Γ.length))))) :
  GL P m ops Q (⟨d,op,ty,pos,af,none⟩::rest) fr Γ:=fun B K β w l hm hI hF=>by
 obtain ⟨hl,hs⟩:=DZ (n:=Γ.length) br;obtain ⟨ha,hr⟩:=hr K β w l hF;have Zg:=hI.enter eJ hl hs
 have tU:aV K (fun j=>β (bM aJ Γ.length j)) (vs l) gs:=by
  rw [jB] at ha;exact ⟨by simpa using ha.1,fun i v g h5 h6=>(ha.2 i v (dp _ g) h5 (by rw [getElem?_map,h6];rfl)).BU⟩
 refine WL.calls hr (hc _ K _ w _ rfl Zg tU) ?_;rintro v w' ⟨K',A9,g,aH,bd,eL,hR⟩;obtain ⟨iX,h⟩:=h g aH hR;obtain ⟨bL,hK,hB,qe,nG⟩:=hI.leave eJ hl iX bd;refine h B K' bL w' _ hm nG ((hF.mono hK hB).put d (Rel.B8 ?_));rw [show (fun j=>bL (bM aJ Γ.length j))=A9 from funext qe];exact eL
theorem GL.vS {f:FuncId} [hf:aC P f] (aJ:List Nat) {x:Operand} {first cap:List GV} {args:List Operand} {l8:Array TypeId} {gs:List GV} {gz:List Ob} {R:GV->List Ob->Prop} (hc:GC P f gs gz R) (hx:aP fr x=.fn (.func f) first cap) (ha:first++args.map (aP fr)++cap=lj (bM aJ Γ.length) gs) (eJ:gQ aJ Γ.length=true)
  (br:seen (bM aJ Γ.length) Γ aJ gz) (h:∀ g aH,R g aH->aJ.length<=aH.length/\GL P m ops Q rest (bh fr d (dp (bM aJ Γ.length) g)) (dJ Γ aJ (aH.map (Ob.dp (bM aJ Γ.length))))) :
  GL P m ops Q (⟨d,.call ⟨.value x,args.toArray,l8⟩,ty,pos,af,none⟩::rest) fr Γ :=
 GL.calls (vs:=fun l=>match ev l x with | .func _ a c=>a.toList++args.map (ev l)++c.toList | _=>[]) (fun K β w l hF=>by
  have hr:=hF.ev x;rw [hx] at hr;generalize hv:ev l x=v at hr
  cases hr with
  | fn _ xs ys _ _ h1 h2 h3 h4 =>
   refine ⟨?_,?_⟩
   ·rw [<-ha];exact (aV.app (aV.app ⟨h1,h3⟩ (hF.args args)) ⟨h2,h4⟩)
   ·simp [execOp,resolve,hv,Deferred.ofValue,invoke,lk]) eJ br hc h
theorem GL.VD {f:FuncId} [hf:aC P f] (aJ:List Nat) {x:Operand} {args:List Operand} {l8:Array TypeId} {gs:List GV} {gz:List Ob} {R:GV->List Ob->Prop} (hc:GC P f gs gz R) (hx:aP fr x=.v (.func (.func f) #[] #[])) (ha:args.map (aP fr)=lj (bM aJ Γ.length) gs) (eJ:gQ aJ Γ.length=true)
  (br:seen (bM aJ Γ.length) Γ aJ gz) (h:∀ g aH,R g aH->aJ.length<=aH.length/\GL P m ops Q rest (bh fr d (dp (bM aJ Γ.length) g)) (dJ Γ aJ (aH.map (Ob.dp (bM aJ Γ.length))))) :
  GL P m ops Q (⟨d,.call ⟨.value x,args.toArray,l8⟩,ty,pos,af,none⟩::rest) fr Γ :=
 GL.calls (vs:=fun l=>args.map (ev l)) (fun K β w l hF=>⟨by rw [<-ha];exact hF.args args,by
  have hv:=hF.gE hx
  simp [execOp,resolve,hv,Deferred.ofValue,invoke,lk]⟩) eJ br hc h
end
end Go.Xg
namespace Go.Xg
open Go.RowKit Go.Xw
def mN (ops:List Oper) (fr:List GV):Nat->Option (Option Bool):=fun j =>
 match jj ops j,(rE ops j).dst with
 | true,some t=>match jj fr t,cq fr t with
  | true,.v (.bool c)=>some (some c)
  | true,.v (.tuple _)=>some none
  | _,_=>none
 | _,_=>none
section
variable {P:Program} {m:Nat} {Q:dP} {fr:List GV} {Γ:List Ob} {ops:Array Oper} {rest:List Oper} {d:Option Tmp} {op:Op} {ty:TypeId} {pos:String} {af:Array Edge}
theorem u7 {K:Fz} {β:Bt} {l:List Value} {j:Nat} {b:Bool} {c:Option Bool} (hF:FR K β fr l) (h:mN ops.toList fr j=some c):DF (some (j,b)) ops.toList l=true/\gv ops.toList l (j,b)=c:=by
 unfold mN at h;split at h
 ·rename_i t h1 h2;split at h
  ·rename_i c' h3 h4;cases h;have hv:nth l t=.bool c':=Rel.dR (by rw [<-h4];exact hF.nth t);have hl:=lY hF h3;simp only [DF,gv,h1,h2,hl,hv,Bool.and_self];exact ⟨trivial,trivial⟩
  ·rename_i vs h3 h4;cases h;have hv:nth l t=.tuple vs:=Rel.dR (by rw [<-h4];exact hF.nth t);have hl:=lY hF h3;simp only [DF,gv,h1,h2,hl,hv,Bool.and_self];exact ⟨trivial,trivial⟩
  ·cases h
 ·cases h
theorem GL.gt {gd:Nat × Bool} {c:Bool} (hv:mN ops.toList fr gd.1=some (some c)) (hc:c=gd.2) (h:GL P m ops Q (⟨d,op,ty,pos,af,none⟩::rest) fr Γ):GL P m ops Q (⟨d,op,ty,pos,af,some gd⟩::rest) fr Γ:=fun B K β w l hm hI hF=>by
 obtain ⟨h1,h2⟩:=u7 (b:=gd.2) hF hv;exact Xw.GT h1 h2 hc (h B K β w l hm hI hF)
theorem GL.gf {gd:Nat × Bool} {c:Bool} (hv:mN ops.toList fr gd.1=some (some c)) (hc:c=!gd.2) (h:GL P m ops Q rest (bh fr d (.v undef)) Γ):GL P m ops Q (⟨d,op,ty,pos,af,some gd⟩::rest) fr Γ:=fun B K β w l hm hI hF=>by
 obtain ⟨h1,h2⟩:=u7 (b:=gd.2) hF hv;exact Xw.GF h1 h2 hc (h B K β w _ hm hI (hF.put d (.v _)))
theorem GL.gu {gd:Nat × Bool} (hv:mN ops.toList fr gd.1=some none) (h:GL P m ops Q rest (bh fr d (.v undef)) Γ):GL P m ops Q (⟨d,op,ty,pos,af,some gd⟩::rest) fr Γ:=fun B K β w l hm hI hF=>by
 obtain ⟨h1,h2⟩:=u7 (b:=gd.2) hF hv;exact Xw.GU h1 h2 (h B K β w _ hm hI (hF.put d (.v _)))
end
def gG (ops:List Oper) (fr:List GV):Option (Nat × Bool)->Option Bool
 | none=>some true
 | some (j,b)=>match mN ops fr j with
  | some (some c)=>some (c==b)
  | some none=>some false
  | none=>none
theorem It {ops:Array Oper} {K:Fz} {β:Bt} {fr:List GV} {l:List Value} {o:Oper} {c:Bool} (hF:FR K β fr l) (h:gG ops.toList fr o.guard=some c):Region.wanted o (yielded ops (act l).tmps)=c:=by
 obtain ⟨d,op,ty,pos,af,gd⟩:=o
 cases gd with
 | none=>simp only [gG] at h;cases h;rfl
 | some gd =>
  obtain ⟨j,b⟩:=gd;simp only [gG] at h;split at h
  ·rename_i c' hc;cases h;obtain ⟨h1,h2⟩:=u7 (b:=b) hF hc;rw [vM h1]
   cases zw:(c'==b) with
   | true=>exact Oa h2 (by simpa using zw)
   | false=>exact N9 h2 (by cases c' <;> cases b <;> simp_all)
  ·rename_i hc;cases h;obtain ⟨h1,h2⟩:=u7 (b:=b) hF hc;rw [vM h1];exact Oc h2
  ·cases h
def DR (P:Program) (o:Oper) (e:Operand->Value) (w:World) (Kv:Value->World->Prop):Prop :=
 match (execOp e o).run P w with
 | .ok (.value v) w'=>Kv v w'
 | .ok .skip w'=>Kv undef w'
 | .ok (.enter f args) w'=>Calls P f args w' fun e Rn=>∃ v,e=.returned v/\Kv v Rn
 | .ok (.row row args) w'=>Rows P row args w' Kv
 | _=>False
theorem UQ {P:Program} {o:Oper} {a:Act} {w:World} {Kv:Value->World->Prop} {next:Act->World->Prop} {Q:Exit->Act->World->Prop} (h:DR P o a.eval w Kv) (hn:∀ v w',Kv v w'->next (a.put o.dst v) w'):o.wp P a w next Q:=by
 unfold DR at h;unfold Oper.wp;generalize (execOp a.eval o).run P w=r at *
 cases r with
 | ok n w' =>
  cases n <;> simp only [Oper.upon] at h |- <;> first
   | exact hn _ _ h
   | exact Calls.mono h (fun e Rn ⟨v,he,hv⟩=>by subst he;exact hn _ _ hv)
   | exact Rows.mono h (fun _ _ hv=>hn _ _ hv)
   | exact h.elim
 | halt x w'=>exact h.elim
theorem Vn {P:Program} {o:Oper} {a:Act} {w:World} {Kv:Value->World->Prop} {next:Act->World->Prop} {Q:Exit->Act->World->Prop} (h:o.wp P a w next Q) (hQ:∀ c a w,¬ Q (.panic c) a w) (Zi:∀ a w,¬ Q .outgrown a w) (hn:∀ v w',next (a.put o.dst v) w'->Kv v w')
  (hd:∀ d w',¬ next ({ a with defers:=d::a.defers }.put o.dst undef) w'):DR P o a.eval w Kv:=by
 unfold DR;unfold Oper.wp at h;generalize (execOp a.eval o).run P w=r at *
 cases r with
 | ok n w' =>
  cases n <;> simp only [Oper.upon] at h |- <;> first
   | exact hn _ _ h
   | exact Calls.mono h (fun e Rn he=>by
     cases e with
     | returned v=>exact ⟨v,rfl,hn _ _ he⟩
     | panicked c=>exact (hQ _ _ _ he).elim
     | outgrown=>obtain ⟨a0,w0,hf⟩:=he;exact (Zi _ _ hf).elim)
   | exact Rows.mono h (fun _ _ hv=>hn _ _ hv)
   | exact h.elim
   | exact absurd h (hd _ _)
 | halt x w' =>
  cases x <;> simp only [Oper.upon] at h
  exact (hQ _ _ _ h).elim
def cx (ts:List Nat):Nat->List GV->List GV
 | _,[]=>[]
 | k,g::gs=>(match ts.contains k with | true=>g | false=>.aaF)::cx ts (k+1) gs
theorem FR.mask {K:Fz} {β:Bt} {ts:List Nat} {fr:List GV} {l:List Value} (h:FR K β fr l):∀ k,FR K β (cx ts k fr) l:=by
 induction h with
 | nil=>intro k;exact .nil
 | cons h t ih =>
  intro k;rw [cx];split
  ·exact .cons h (ih _)
  ·exact .cons (.aaF _) (ih _)
theorem PC {ts:List Nat} {d:Option Tmp} {g:GV} (hd:∀ t,d=some t->t ∉ ts) (fr:List GV):cx ts 0 (bh fr d g)=cx ts 0 fr:=by
 cases d with
 | none=>rfl
 | some t =>
  have hd:=hd t rfl
  have gen:∀ (fr:List GV) (k t:Nat),k+t ∉ ts->cx ts k (bj fr t g)=cx ts k fr:=by
   intro fr
   induction fr with
   | nil=>intro k t _;rfl
   | cons x fr ih =>
    intro k t h
    cases t with
    | zero =>
     have hc:ts.contains k=false:=by
      cases hb:ts.contains k with
      | false=>rfl
      | true=>exact absurd (List.contains_iff_mem.1 hb) (by simpa using h)
     simp only [bj,cx,hc]
    | succ t=>simp only [bj,cx];rw [ih (k+1) t (by rw [show k+1+t=k+(t+1) by omega];exact h)]
  exact gen fr 0 t (by simpa using hd)
section
variable {P:Program} {ops:Array Oper}
def YQ (P:Program) (ops:Array Oper) (i:Nat) (g:GV) (fr:List GV) (Γ:List Ob):Prop :=
 ∃ o c,ops[i]?=some o/\gG ops.toList (cx (o.looksAt ops) 0 fr) o.guard=some c/\match c with
  | true=>YG P o.op (cx (o.looksAt ops) 0 fr) Γ g
  | false=>g=.v undef
abbrev ku:=List (Nat × GV × List GV)
def GA (P:Program) (o:Oper) (Kt:GV->List Ob->Prop) (fr:List GV) (Γ:List Ob):Prop :=
 ∀ B K β w l,Inv B K β Γ w->FR K β fr l->DR P o (ev l) w fun v w'=>∃ K' bL g aH,ca K K'/\cX β bL/\Inv B K' bL aH w'/\(∀ fr l,FR K' bL fr l->FR K' bL (bh fr o.dst g) (put l o.dst v))/\Kt g aH
def GI (P:Program) (ops:Array Oper) (i:Nat) (Kt:GV->List Ob->Prop) (fr:List GV) (Γ:List Ob):Prop :=
 ∃ o c,ops[i]?=some o/\gG ops.toList fr o.guard=some c/\match c with
  | true=>GA P o Kt fr Γ
  | false=>Kt (.v undef) Γ
def kz (ops:Array Oper) (i:Nat):Option Tmp:=(ops[i]?).bind (·.dst)
def waits (ops:Array Oper) (i j:Nat):Bool:=match ops[i]? with
 | some o=>o.after.any fun e=>Region.binds .any e&&e.on==j
 | none=>false
def stay (ops:Array Oper) (i:Nat) (aQ:ku):ku:=aQ.filter fun p=>!waits ops i p.1
def o8 (P:Program) (ops:Array Oper) (Q:List GV->List Ob->Prop):Nat->ku->Array Bool->List GV->List Ob->Prop
 | 0,_,listed,fr,Γ=>Region.ready .any ops listed=[]/\Q fr Γ
 | n+1,aQ,listed,fr,Γ=>(Region.ready .any ops listed=[]->Q fr Γ) /\
   ∀ i∈Region.ready .any ops listed,GI P ops i (fun g aH=>(∀ p∈stay ops i aQ,YQ P ops p.1 p.2.1 p.2.2 aH)/\o8 P ops Q n (stay ops i aQ) (listed.setIfInBounds i true) (bh fr (kz ops i) g) aH) fr Γ
theorem GA.mono {o:Oper} {Kt EA:GV->List Ob->Prop} {fr:List GV} {Γ:List Ob} (h:GA P o Kt fr Γ) (hk:∀ g aH,Kt g aH->EA g aH):GA P o EA fr Γ:=fun B K β w l hI hF=>by
 have:=h B K β w l hI hF;unfold DR at *;generalize (execOp (ev l) o).run P w=r at *
 have key:∀ v w',(∃ K' bL g aH,ca K K'/\cX β bL/\Inv B K' bL aH w'/\(∀ fr l,FR K' bL fr l->FR K' bL (bh fr o.dst g) (put l o.dst v))/\Kt g aH)->∃ K' bL g aH,ca K K'/\cX β bL/\Inv B K' bL aH w'/\(∀ fr l,FR K' bL fr l->FR K' bL (bh fr o.dst g) (put l o.dst v))/\EA g aH :=
  fun v w' ⟨K',bL,g,aH,h1,h2,h3,h4,h5⟩=>⟨K',bL,g,aH,h1,h2,h3,h4,hk _ _ h5⟩
 cases r with
 | ok n w'=>cases n <;> simp only at this |- <;> first
   | exact key _ _ this
   | exact Calls.mono this (fun e Rn ⟨v,he,hv⟩=>⟨v,he,key _ _ hv⟩)
   | exact Rows.mono this (fun _ _ hv=>key _ _ hv)
   | exact this.elim
 | halt x w'=>exact this.elim
theorem GI.mono {i:Nat} {Kt EA:GV->List Ob->Prop} {fr:List GV} {Γ:List Ob} (h:GI P ops i Kt fr Γ) (hk:∀ g aH,Kt g aH->EA g aH):GI P ops i EA fr Γ:=by
 obtain ⟨o,c,h1,h2,h3⟩:=h;refine ⟨o,c,h1,h2,?_⟩
 cases c with
 | true=>exact GA.mono h3 hk
 | false=>exact hk _ _ h3
theorem o8.Qz {Q:List GV->List Ob->Prop}:∀ (n:Nat) (aQ dC:ku) (listed:Array Bool) (fr:List GV) (Γ:List Ob),(∀ p∈dC,p∈aQ)->o8 P ops Q n aQ listed fr Γ->o8 P ops Q n dC listed fr Γ
 | 0,_,_,_,_,_,_,h=>h
 | n+1,aQ,dC,listed,fr,Γ,hs,h=>⟨h.1,fun i hi=>(h.2 i hi).mono fun g aH ⟨h1,h2⟩=>by
  have nI:∀ p∈stay ops i dC,p∈stay ops i aQ:=fun p hp=>by
   simp only [stay,mem_filter] at hp |-;exact ⟨hs p hp.1,hp.2⟩
  exact ⟨fun p hp=>h1 p (nI p hp),o8.Qz n _ _ _ _ _ nI h2⟩⟩
theorem o8.sound {m:Nat} {Q:List GV->List Ob->Prop} {B:Bs} {Q':dP} (hm:B.m=m) (hQ:∀ fr Γ,Q fr Γ->Q' .normal fr Γ):∀ (n:Nat) (aQ:ku) (listed:Array Bool) (fr:List GV) (Γ:List Ob) (K:Fz) (β:Bt) (w:World) (l:List Value),
  o8 P ops Q n aQ listed fr Γ->Inv B K β Γ w->FR K β fr l->wpAny P .any ops (lift (gl B Q')) n listed (act l) w
 | 0,_,_,fr,Γ,K,β,w,l,h,hI,hF=>⟨h.1,l,rfl,K,β,fr,Γ,hI,hF,hQ _ _ h.2⟩
 | n+1,aQ,listed,fr,Γ,K,β,w,l,h,hI,hF=>by
  refine ⟨fun h0=>⟨l,rfl,K,β,fr,Γ,hI,hF,hQ _ _ (h.1 h0)⟩,fun i hi=>?_⟩;obtain ⟨o,c,ho,hg,hc⟩:=h.2 i hi;have hw:=It hF hg;unfold wpOp;simp only [ho,hw]
  have hd:kz ops i=o.dst:=by simp [kz,ho]
  cases c with
  | true =>
   simp only [if_true];refine .inl (UQ (by rw [mG];exact hc B K β w l hI hF) ?_);rintro v w' ⟨K',bL,g,aH,hK,hB,bd,hf,h1,h2⟩;rw [oJ];rw [hd] at h2;exact o8.sound hm hQ n _ _ _ _ K' bL w' _ h2 bd (hf _ _ (hF.mono hK hB))
  | false =>
   simp only [Bool.false_eq_true,if_false];rw [oJ];obtain ⟨h1,h2⟩:=hc;rw [hd] at h2;exact o8.sound hm hQ n _ _ _ _ K β w _ h2 hI (hF.put o.dst (.v _))
theorem Hr {fr:List GV} {t t':Nat} (h:t'≠t) (g:GV):cq (bj fr t g) t'=cq fr t':=by
 induction fr generalizing t t' with
 | nil=>rfl
 | cons x l ih=>cases t with
  | zero=>cases t' with | zero=>exact absurd rfl h | succ t'=>rfl
  | succ t=>cases t' with | zero=>rfl | succ t'=>exact ih (fun e=>h (by rw [e]))
theorem IL {fr:List GV} {t t':Nat} {g:GV}:jj (bj fr t g) t'=jj fr t':=by
 induction fr generalizing t t' with
 | nil=>rfl
 | cons x l ih=>cases t with
  | zero=>cases t' <;> rfl
  | succ t=>cases t' with | zero=>rfl | succ t'=>exact ih
theorem Tp {o:Oper} {fr:List GV} {d:Option Tmp} {g:GV} (h:∀ t,d=some t->t ∉ o.looksAt ops):gG ops.toList (bh fr d g) o.guard=gG ops.toList fr o.guard:=by
 cases d with
 | none=>rfl
 | some t =>
  have h:=h t rfl;obtain ⟨d',op,ty,pos,af,gd⟩:=o
  cases gd with
  | none=>rfl
  | some gd =>
   obtain ⟨j,b⟩:=gd
   have bK:∀ t',jj ops.toList j=true->(rE ops.toList j).dst=some t'->t'≠t:=fun t' hj xU he=>by
    subst he;apply h;have lA:=I6 ops.toList j (BJ hj);simp only [Array.toArray_toList] at lA;simp [Oper.looksAt,lA,xU]
   have hv:mN ops.toList (bj fr t g) j=mN ops.toList fr j:=by
    unfold mN
    cases gh:jj ops.toList j with
    | false=>rfl
    | true =>
     cases hd:(rE ops.toList j).dst with
     | none=>rfl
     | some t' =>
      simp only;rw [IL,Hr (bK t' gh hd)]
   simp only [gG,bh,hv]
theorem YQ.at {i:Nat} {g:GV} {fr:List GV} {Γ:List Ob} {o:Oper} (h:YQ P ops i g fr Γ) (ho:ops[i]?=some o) {B:Bs} {K:Fz} {β:Bt} {w:World} {l:List Value} (hI:Inv B K β Γ w) (hF:FR K β fr l):∃ v,Rel K β v g/\((Region.wanted o (yielded ops (act l).tmps)=true/\(execOp (ev l) o).run P w=.ok (.value v) w)\/(Region.wanted o (yielded ops (act l).tmps)=false/\v=undef)):=by
 obtain ⟨o',c,h1,h2,h3⟩:=h;rw [ho] at h1;cases h1;have hw:=It (hF.mask (ts:=o.looksAt ops) 0) h2
 cases c with
 | true =>
  obtain ⟨v,hr,hv⟩:=h3 B K β w l hI (hF.mask 0);exact ⟨v,hv,.inl ⟨hw,by obtain ⟨d,op,ty,pos,af,gd⟩:=o;exact hr d ty pos af⟩⟩
 | false=>subst h3;exact ⟨undef,.v _,.inr ⟨hw,rfl⟩⟩
theorem GI.comm {i j:Nat} {g:GV} {oi oj:Oper} {Kt:GV->List Ob->Prop} {fr:List GV} {Γ:List Ob} (hi:ops[i]?=some oi) (hj:ops[j]?=some oj) (QK:oi.apart ops oj=true) (ZS:∀ cs b,oj.op≠.select cs b) (hy:YQ P ops i g fr Γ)
  (h:GI P ops j Kt (bh fr oi.dst g) Γ):GI P ops j Kt fr Γ:=by
 obtain ⟨a1,a2,a3⟩:=Oper.apart_spec QK;obtain ⟨o,c,h1,h2,h3⟩:=h;rw [hj] at h1;cases h1;rw [Tp a1] at h2;refine ⟨oj,c,hj,h2,?_⟩
 cases c with
 | false=>exact h3
 | true =>
  intro B K β w l hI hF;obtain ⟨v,hv,_⟩:=hy.at hi hI hF;have:=h3 B K β w (put l oi.dst v) hI (hF.put _ hv)
  have he:execOp (ev (put l oi.dst v)) oj=execOp (ev l) oj:=by
   have:=execOp_put oj ZS (act l) oi.dst v a1;rw [oJ,mG,mG] at this;exact this
  unfold DR at this |-;rw [he] at this;exact this
theorem o8.first {Q:List GV->List Ob->Prop} {i:Nat} {oi:Oper} {g:GV} {nZ:List GV} (hi:ops[i]?=some oi) (Ye:∀ (j:Nat) (o:Oper) cs b,ops[j]?=some o->o.op≠.select cs b) :
  ∀ (n:Nat) (aQ:ku) (listed:Array Bool) (fr:List GV) (Γ:List Ob),
   (∀ j oj,ops[j]?=some oj->j≠i->listed.getD j true=false->(∀ e∈oj.after,Region.binds .any e=true->e.on≠i)->oi.apart ops oj=true) ->
   i∈Region.ready .any ops listed->cx (oi.looksAt ops) 0 fr=cx (oi.looksAt ops) 0 nZ->YQ P ops i g nZ Γ->(∀ p∈aQ,YQ P ops p.1 p.2.1 p.2.2 Γ) ->
   o8 P ops Q n ((i,g,nZ)::aQ) (listed.setIfInBounds i true) (bh fr oi.dst g) Γ->o8 P ops Q (n+1) aQ listed fr Γ:=by
 have hd:kz ops i=oi.dst:=by simp [kz,hi]
 have Vi:∀ {fr:List GV} {Γ:List Ob},cx (oi.looksAt ops) 0 fr=cx (oi.looksAt ops) 0 nZ->YQ P ops i g nZ Γ->YQ P ops i g fr Γ:=by
  rintro fr Γ hm ⟨o,c,h1,h2,h3⟩;rw [hi] at h1;cases h1;exact ⟨oi,c,hi,by rw [hm];exact h2,by rw [hm];exact h3⟩
 have self:∀ (n:Nat) (aQ:ku) (listed:Array Bool) (fr:List GV) (Γ:List Ob),cx (oi.looksAt ops) 0 fr=cx (oi.looksAt ops) 0 nZ->YQ P ops i g nZ Γ->(∀ p∈aQ,YQ P ops p.1 p.2.1 p.2.2 Γ) ->
   o8 P ops Q n ((i,g,nZ)::aQ) (listed.setIfInBounds i true) (bh fr oi.dst g) Γ ->
   GI P ops i (fun g aH=>(∀ p∈stay ops i aQ,YQ P ops p.1 p.2.1 p.2.2 aH)/\o8 P ops Q n (stay ops i aQ) (listed.setIfInBounds i true) (bh fr (kz ops i) g) aH) fr Γ:=by
  intro n aQ listed fr Γ sO hy hp H
  have bY:∀ p∈stay ops i aQ,p∈aQ:=fun p hp=>by simp only [stay,mem_filter] at hp;exact hp.1
  have H':o8 P ops Q n (stay ops i aQ) (listed.setIfInBounds i true) (bh fr (kz ops i) g) Γ:=by
   rw [hd];exact o8.Qz n _ _ _ _ _ (fun p hp=>mem_cons_of_mem _ (bY p hp)) H
  obtain ⟨o,c,h1,h2,h3⟩:=Vi sO hy;rw [hi] at h1;cases h1
  have p7:gG ops.toList fr oi.guard=some c:=by
   obtain ⟨d',op,ty,pos,af,gd⟩:=oi
   cases gd with
   | none=>exact h2
   | some gd =>
    obtain ⟨j,b⟩:=gd;simp only [gG] at h2 |-
    have hv:∀ x,mN ops.toList (cx (Oper.looksAt ops ⟨d',op,ty,pos,af,some (j,b)⟩) 0 fr) j=some x->mN ops.toList fr j=some x:=by
     intro x hx;unfold mN at hx |-
     cases gh:jj ops.toList j with
     | false=>rw [gh] at hx;cases hx
     | true =>
      rw [gh] at hx
      cases hdt:(rE ops.toList j).dst with
      | none=>rw [hdt] at hx;cases hx
      | some t =>
       rw [hdt] at hx;simp only at hx |-
       have wY:∀ (ts:List Nat) (fr:List GV) (k t:Nat),jj (cx ts k fr) t=jj fr t:=by
        intro ts fr
        induction fr with
        | nil=>intro k t;rfl
        | cons x fr ih=>intro k t;cases t with | zero=>rfl | succ t=>exact ih (k+1) t
       have Zu:∀ (ts:List Nat) (fr:List GV) (k t:Nat) ,cq (cx ts k fr) t=cq fr t\/cq (cx ts k fr) t=.aaF:=by
        intro ts fr
        induction fr with
        | nil=>intro k t;exact .inl rfl
        | cons x fr ih =>
         intro k t
         cases t with
         | zero=>simp only [cx,cq];split <;> first | exact .inl rfl | exact .inr rfl
         | succ t=>exact ih (k+1) t
       rw [wY] at hx
       rcases Zu (Oper.looksAt ops ⟨d',op,ty,pos,af,some (j,b)⟩) fr 0 t with h | h
       ·rw [h] at hx;exact hx
       ·rw [h] at hx
        split at hx <;> first | (rename_i h5;cases h5;done) | cases hx
    split at h2
    ·rename_i c' hc;rw [hv _ hc];exact h2
    ·rename_i hc;rw [hv _ hc];exact h2
    ·cases h2
  refine ⟨oi,c,hi,p7,?_⟩
  have kO:∀ p∈stay ops i aQ,YQ P ops p.1 p.2.1 p.2.2 Γ:=fun p hq=>hp p (bY p hq)
  cases c with
  | true =>
   intro B K β w l hI hF;obtain ⟨v,hr,hv⟩:=h3 B K β w l hI (hF.mask 0)
   have mj:(execOp (ev l) oi).run P w=.ok (.value v) w:=by obtain ⟨d,op,ty,pos,af,gd⟩:=oi;exact hr d ty pos af
   unfold DR;rw [mj];exact ⟨K,β,g,Γ,ca.refl K,cX.refl β,hI,fun fr l hf=>hf.put _ hv,kO,H'⟩
  | false =>
   simp only at h3;subst h3;exact ⟨kO,H'⟩
 intro n
 induction n with
 | zero =>
  intro aQ listed fr Γ _ hr sO hy hp H;refine ⟨fun h=>(by rw [h] at hr;cases hr),fun j hj=>?_⟩
  by_cases hji:j=i
  ·subst hji;exact self 0 aQ listed fr Γ sO hy hp H
  ·have:=ready_mono hj hji;rw [H.1] at this;cases this
 | succ n ih =>
  intro aQ listed fr Γ QO hr sO hy hp H;refine ⟨fun h=>(by rw [h] at hr;cases hr),fun j hj=>?_⟩
  by_cases hji:j=i
  ·subst hji;exact self (n+1) aQ listed fr Γ sO hy hp H
  ·have h1:=H.2 j (ready_mono hj hji);obtain ⟨TT,oj,MO,aO⟩:=mem_ready.1 hj
   have T8:∀ e∈oj.after,Region.binds .any e=true->e.on≠i:=fun e he hb heq=>by
    have h1:=aO e he hb;have h0:=(mem_ready.1 hr).1;rw [heq] at h1
    rcases Nat.lt_or_ge i listed.size with h' | h'
    ·simp [h'] at h0 h1;rw [h0] at h1;cases h1
    ·simp [Array.getElem?_eq_none h'] at h1
   have QK:=QO j oj MO hji TT T8;obtain ⟨a1,a2,a3⟩:=Oper.apart_spec QK
   have rJ:waits ops j i=false:=by
    simp only [waits,MO];rw [Array.any_eq_false'];intro e he hb;simp only [Bool.and_eq_true,beq_iff_eq] at hb;exact T8 e he hb.1 hb.2
   have bY:stay ops j ((i,g,nZ)::aQ)=(i,g,nZ)::stay ops j aQ:=by
    simp [stay,List.filter_cons,rJ]
   rw [bY] at h1;have h2:=GI.comm hi MO QK (fun cs b=>Ye j oj cs b MO) (Vi sO hy) h1
   have WW:kz ops j=oj.dst:=by simp [kz,MO]
   have TR:∀ k ok,ops[k]?=some ok->k≠i->(listed.setIfInBounds j true).getD k true=false ->
     (∀ e∈ok.after,Region.binds .any e=true->e.on≠i)->oi.apart ops ok=true:=fun k ok hk cP Xa bR=>by
    refine QO k ok hk cP ?_ bR
    by_cases hjk:j=k
    ·subst hjk;exact TT
    ·rw [getD_set_ne true hjk] at Xa;exact Xa
   refine h2.mono fun gj aH ⟨h3,h4⟩=>⟨fun p hp=>h3 p (mem_cons_of_mem _ hp),?_⟩
   refine ih (stay ops j aQ) (listed.setIfInBounds j true) (bh fr (kz ops j) gj) aH TR (ready_mono hr (Ne.symm hji)) ?_ (h3 (i,g,nZ) (mem_cons_self)) (fun p hp=>h3 p (mem_cons_of_mem _ hp)) ?_
   ·rw [<-sO,WW];exact PC a3 fr
   ·rw [Array.setIfInBounds_comm _ _ hji]
    have VS:bh (bh fr (kz ops j) gj) oi.dst g=bh (bh fr oi.dst g) (kz ops j) gj:=by
     rw [WW]
     cases hdi:oi.dst with
     | none=>rfl
     | some t =>
      cases hdj':oj.dst with
      | none=>rfl
      | some u =>
       have bK:t≠u:=fun e=>a2 t hdi (by rw [hdj',e])
       have gen:∀ (fr:List GV) (t u:Nat),t≠u->bj (bj fr u gj) t g=bj (bj fr t g) u gj:=by
        intro fr
        induction fr with
        | nil=>intro t u _;rfl
        | cons x fr ih =>
         intro t u h
         cases t with
         | zero=>cases u with | zero=>exact absurd rfl h | succ u=>rfl
         | succ t=>cases u with | zero=>rfl | succ u=>simp only [bj];rw [ih t u (fun e=>h (by rw [e]))]
       exact gen fr t u bK
    rw [VS];exact h4
inductive Ot where
 | nil
 | q (i:Nat) (r:Ot)
 | a (i:Nat) (r:Ot)
 | f (i:Nat) (r:Ot) (j:Nat) (s:Ot)
def Ot.len:Ot->Nat
 | .nil=>0
 | .q _ r=>r.len+1
 | .a _ r=>r.len+1
 | .f _ r _ _=>r.len+1
def uD (ops:Array Oper):Ot->Array Bool->Bool
 | .nil,listed=>(Region.ready .any ops listed).isEmpty
 | .q i r,listed=>(Region.ready .any ops listed).contains i&&Region.free .any ops listed i&&uD ops r (listed.setIfInBounds i true)
 | .a i r,listed=>(Region.ready .any ops listed==[i])&&uD ops r (listed.setIfInBounds i true)
 | .f i r j s,listed=>(Region.ready .any ops listed==[i,j])&&uD ops r (listed.setIfInBounds i true)&&uD ops s (listed.setIfInBounds j true)&&(r.len==s.len)
def GO (P:Program) (ops:Array Oper) (Q:List GV->List Ob->Prop):Ot->ku->List GV->List Ob->Prop
 | .nil,_,fr,Γ=>Q fr Γ
 | .q i r,aQ,fr,Γ=>∃ g,YQ P ops i g fr Γ/\GO P ops Q r ((i,g,fr)::aQ) (bh fr (kz ops i) g) Γ
 | .a i r,aQ,fr,Γ=>GI P ops i (fun g aH=>(∀ p∈stay ops i aQ,YQ P ops p.1 p.2.1 p.2.2 aH)/\GO P ops Q r (stay ops i aQ) (bh fr (kz ops i) g) aH) fr Γ
 | .f i r j s,aQ,fr,Γ=>GI P ops i (fun g aH=>(∀ p∈stay ops i aQ,YQ P ops p.1 p.2.1 p.2.2 aH)/\GO P ops Q r (stay ops i aQ) (bh fr (kz ops i) g) aH) fr Γ/\GI P ops j (fun g aH=>(∀ p∈stay ops j aQ,YQ P ops p.1 p.2.1 p.2.2 aH)/\GO P ops Q s (stay ops j aQ) (bh fr (kz ops j) g) aH) fr Γ
theorem GO.fork {ops:Array Oper} {Q:List GV->List Ob->Prop} {i j:Nat} {r s:Ot} {aQ:ku} {fr:List GV} {Γ:List Ob} (h1:GO P ops Q (.a i r) aQ fr Γ) (h2:GO P ops Q (.a j s) aQ fr Γ):GO P ops Q (.f i r j s) aQ fr Γ:=⟨h1,h2⟩
theorem GO.all {ol:List Oper} {Q:List GV->List Ob->Prop} (hs:Region.noSelect ol.toArray=true):∀ (ord:Ot) (aQ:ku) (listed:Array Bool) (fr:List GV) (Γ:List Ob),
  uD ol.toArray ord listed=true->(∀ p∈aQ,YQ P ol.toArray p.1 p.2.1 p.2.2 Γ)->GO P ol.toArray Q ord aQ fr Γ->o8 P ol.toArray Q ord.len aQ listed fr Γ
 | .nil,aQ,listed,fr,Γ,ho,_,h=>⟨by simpa [uD] using ho,h⟩
 | .q i r,aQ,listed,fr,Γ,ho,hp,h=>by
  simp only [uD,Bool.and_eq_true] at ho;obtain ⟨⟨hr,hf⟩,ho⟩:=ho;obtain ⟨g,hy,h⟩:=h
  have CD:i∈Region.ready .any ol.toArray listed:=by simpa using hr
  obtain ⟨_,o,hi,_⟩:=mem_ready.1 CD
  have hd:kz ol.toArray i=o.dst:=by simp only [kz,hi];rfl
  rw [hd] at h
  exact o8.first hi (Region.noSelect_spec hs) _ aQ listed fr Γ (Region.free_spec hi hf) CD rfl hy hp (GO.all hs r _ _ _ _ ho (fun p kO=>by
   rcases List.mem_cons.1 kO with rfl | kO
   ·exact hy
   ·exact hp p kO) h)
 | .a i r,aQ,listed,fr,Γ,ho,hp,h=>by
  simp only [uD,Bool.and_eq_true,beq_iff_eq] at ho;obtain ⟨hr,ho⟩:=ho;refine ⟨fun h0=>by rw [h0] at hr;simp at hr,fun j hj=>?_⟩;rw [hr,List.mem_singleton] at hj;subst hj
  exact GI.mono h fun g aH ⟨h1,h2⟩=>⟨h1,GO.all hs r _ _ _ _ ho h1 h2⟩
 | .f i r j s,aQ,listed,fr,Γ,ho,hp,h=>by
  simp only [uD,Bool.and_eq_true,beq_iff_eq] at ho;obtain ⟨⟨⟨hr,ZK⟩,ZL⟩,hl⟩:=ho;refine ⟨fun h0=>by rw [h0] at hr;simp at hr,fun k hk=>?_⟩;rw [hr] at hk;simp only [List.mem_cons,List.not_mem_nil,or_false] at hk
  rcases hk with rfl | rfl
  ·exact GI.mono h.1 fun g aH ⟨h1,h2⟩=>⟨h1,GO.all hs r _ _ _ _ ZK h1 h2⟩
  ·exact GI.mono h.2 fun g aH ⟨h1,h2⟩=>⟨h1,by
    have:=GO.all hs s _ _ _ _ ZL h1 h2
    rw [<-hl] at this;exact this⟩
theorem GW.draw {m id:Nat} {ol:List Oper} {Q:dP} {fr:List GV} {Γ:List Ob} (ord:Ot) (hm:P.follows .mixedOrders=true)
  (eJ:(Region.noSelect ol.toArray&&(ord.len==ol.length)&&uD ol.toArray ord (Array.replicate ol.toArray.size false))=true)
  (h:GO P ol.toArray (Q .normal) ord [] fr Γ):GW P m (.region id ol.toArray true) Q fr Γ:=fun B K β w l hB hI hF=>by
 simp only [Bool.and_eq_true,beq_iff_eq] at eJ;obtain ⟨⟨hs,hl⟩,ho⟩:=eJ;refine wp_region_any hm ?_;have h1:=GO.all hs ord [] _ fr Γ ho (fun p hp=>by cases hp) h;rw [hl] at h1;have h2:=o8.sound (Q':=Q) hB (fun fr Γ h=>h) _ _ _ _ _ K β w.drew l h1 (hI.same (Ext.drew w)) hF;simpa using h2
end
end Go.Xg
namespace Go.Xg
open Go.RowKit Go.Xw
def jb:List Oper->Nat->Option Oper
 | [],_=>none
 | o::_,0=>some o
 | _::r,n+1=>jb r n
theorem qn {ol:List Oper} {i:Nat} {o:Oper} (h:jb ol i=some o):ol.toArray[i]?=some o:=by
 have:∀ (ol:List Oper) (i:Nat),jb ol i=ol[i]?:=by
  intro ol
  induction ol with
  | nil=>intro i;rfl
  | cons x ol ih=>intro i;cases i with | zero=>rfl | succ i=>simpa [jb] using ih i
 rw [this] at h;simpa using h
section
variable {P:Program} {Q:List GV->List Ob->Prop} {ol:List Oper} {r:Ot} {aQ:ku} {fr:List GV} {Γ:List Ob} {i:Nat} {g:GV} {d:Option Tmp} {op:Op} {ty:TypeId} {pos:String} {af:Array Edge} {gd:Nat × Bool}
theorem uW {o:Oper} (h:jb ol i=some o):kz ol.toArray i=o.dst:=by simp only [kz,qn h];rfl
theorem GO.more {ops:Array Oper}:∀ (r:Ot) (aQ dC:ku) (fr:List GV) (Γ:List Ob),(∀ p∈dC,p∈aQ\/∀ Γ,YQ P ops p.1 p.2.1 p.2.2 Γ)->GO P ops Q r aQ fr Γ->GO P ops Q r dC fr Γ
 | .nil,_,_,_,_,_,h=>h
 | .q i r,aQ,dC,fr,Γ,hs,⟨g,h1,h2⟩=>⟨g,h1,GO.more r _ _ _ _ (fun p hp=>by
   rcases List.mem_cons.1 hp with rfl | hp
   ·exact .inl (mem_cons_self)
   ·exact (hs p hp).imp (mem_cons_of_mem _) id) h2⟩
 | .a i r,aQ,dC,fr,Γ,hs,h=>GI.mono h fun g aH ⟨h1,h2⟩=>by
   have nI:∀ p∈stay ops i dC,p∈stay ops i aQ\/∀ Γ,YQ P ops p.1 p.2.1 p.2.2 Γ:=fun p hp=>by
    simp only [stay,mem_filter] at hp |-;exact (hs p hp.1).imp (fun h=>⟨h,hp.2⟩) id
   exact ⟨fun p hp=>(nI p hp).elim (h1 p) (fun h=>h aH),GO.more r _ _ _ _ nI h2⟩
 | .f i r j s,aQ,dC,fr,Γ,hs,h=>by
   have nI:∀ k,∀ p∈stay ops k dC,p∈stay ops k aQ\/∀ Γ,YQ P ops p.1 p.2.1 p.2.2 Γ:=fun k p hp=>by
    simp only [stay,mem_filter] at hp |-;exact (hs p hp.1).imp (fun h=>⟨h,hp.2⟩) id
   exact ⟨GI.mono h.1 fun g aH ⟨h1,h2⟩=>⟨fun p hp=>(nI i p hp).elim (h1 p) (fun h=>h aH),GO.more r _ _ _ _ (nI i) h2⟩,GI.mono h.2 fun g aH ⟨h1,h2⟩=>⟨fun p hp=>(nI j p hp).elim (h1 p) (fun h=>h aH),GO.more s _ _ _ _ (nI j) h2⟩⟩
theorem GO.skip {ops:Array Oper} {x:Nat × GV × List GV} (hx:∀ Γ,YQ P ops x.1 x.2.1 x.2.2 Γ) (h:GO P ops Q r aQ fr Γ):GO P ops Q r (x::aQ) fr Γ:=by
 refine GO.more r aQ _ fr Γ (fun p hp=>?_) h
 rcases List.mem_cons.1 hp with he | hp
 ·subst he;exact .inr hx
 ·exact .inl hp
theorem GO.yq {o:Oper} (hi:jb ol i=some o) (hy:YQ P ol.toArray i g fr Γ) (h:GO P ol.toArray Q r ((i,g,fr)::aQ) (bh fr o.dst g) Γ):GO P ol.toArray Q (.q i r) aQ fr Γ :=
 ⟨g,hy,by rw [uW hi];exact h⟩
theorem GO.yp {o:Oper} (hi:jb ol i=some o) (hy:∀ Γ,YQ P ol.toArray i g fr Γ) (h:GO P ol.toArray Q r aQ (bh fr o.dst g) Γ):GO P ol.toArray Q (.q i r) aQ fr Γ :=
 GO.yq hi (hy Γ) (GO.skip hy h)
theorem CA {c:Bool} {ops:List Oper} (hv:mN ops fr gd.1=some (some c)) (hc:c=gd.2):gG ops fr (some gd)=some true:=by
 obtain ⟨j,b⟩:=gd;simp only at hv hc;simp only [gG,hv,hc];simp
theorem Fh {c:Bool} {ops:List Oper} (hv:mN ops fr gd.1=some (some c)) (hc:c=!gd.2):gG ops fr (some gd)=some false:=by
 obtain ⟨j,b⟩:=gd;simp only at hv hc;simp only [gG,hv,hc];simp
theorem Tq {ops:List Oper} (hv:mN ops fr gd.1=some none):gG ops fr (some gd)=some false:=by
 obtain ⟨j,b⟩:=gd;simp only at hv;simp only [gG,hv]
theorem YQ.t {o:Oper} (hi:jb ol i=some o) (hg:gG ol (cx (o.looksAt ol.toArray) 0 fr) o.guard=some true) (hy:YG P o.op (cx (o.looksAt ol.toArray) 0 fr) Γ g):YQ P ol.toArray i g fr Γ:=⟨o,true,qn hi,hg,hy⟩
theorem YQ.f {o:Oper} (hi:jb ol i=some o) (hg:gG ol (cx (o.looksAt ol.toArray) 0 fr) o.guard=some false):YQ P ol.toArray i (.v undef) fr Γ:=⟨o,false,qn hi,hg,rfl⟩
theorem OQ (hi:jb ol i=some ⟨d,op,ty,pos,af,none⟩) (hy:YG P op (cx (Oper.looksAt ol.toArray ⟨d,op,ty,pos,af,none⟩) 0 fr) Γ g) (h:GO P ol.toArray Q r ((i,g,fr)::aQ) (bh fr d g) Γ):GO P ol.toArray Q (.q i r) aQ fr Γ :=
 GO.yq hi (YQ.t hi rfl hy) h
theorem OP (hi:jb ol i=some ⟨d,op,ty,pos,af,none⟩) (hy:∀ Γ,YG P op (cx (Oper.looksAt ol.toArray ⟨d,op,ty,pos,af,none⟩) 0 fr) Γ g) (h:GO P ol.toArray Q r aQ (bh fr d g) Γ):GO P ol.toArray Q (.q i r) aQ fr Γ :=
 GO.yp hi (fun Γ=>YQ.t hi rfl (hy Γ)) h
theorem YK {c:Bool} (hi:jb ol i=some ⟨d,op,ty,pos,af,some gd⟩) (hv:mN ol (cx (Oper.looksAt ol.toArray ⟨d,op,ty,pos,af,some gd⟩) 0 fr) gd.1=some (some c)) (hc:c=gd.2) (hy:YG P op (cx (Oper.looksAt ol.toArray ⟨d,op,ty,pos,af,some gd⟩) 0 fr) Γ g)
  (h:GO P ol.toArray Q r ((i,g,fr)::aQ) (bh fr d g) Γ):GO P ol.toArray Q (.q i r) aQ fr Γ :=
 GO.yq hi (YQ.t hi (CA hv hc) hy) h
theorem WH {c:Bool} (hi:jb ol i=some ⟨d,op,ty,pos,af,some gd⟩) (hv:mN ol (cx (Oper.looksAt ol.toArray ⟨d,op,ty,pos,af,some gd⟩) 0 fr) gd.1=some (some c)) (hc:c=gd.2) (hy:∀ Γ,YG P op (cx (Oper.looksAt ol.toArray ⟨d,op,ty,pos,af,some gd⟩) 0 fr) Γ g)
  (h:GO P ol.toArray Q r aQ (bh fr d g) Γ):GO P ol.toArray Q (.q i r) aQ fr Γ :=
 GO.yp hi (fun Γ=>YQ.t hi (CA hv hc) (hy Γ)) h
theorem YF {c:Bool} (hi:jb ol i=some ⟨d,op,ty,pos,af,some gd⟩) (hv:mN ol (cx (Oper.looksAt ol.toArray ⟨d,op,ty,pos,af,some gd⟩) 0 fr) gd.1=some (some c)) (hc:c=!gd.2) (h:GO P ol.toArray Q r aQ (bh fr d (.v undef)) Γ):GO P ol.toArray Q (.q i r) aQ fr Γ :=
 GO.yp hi (fun Γ=>YQ.f hi (Fh hv hc)) h
theorem YH (hi:jb ol i=some ⟨d,op,ty,pos,af,some gd⟩) (hv:mN ol (cx (Oper.looksAt ol.toArray ⟨d,op,ty,pos,af,some gd⟩) 0 fr) gd.1=some none) (h:GO P ol.toArray Q r aQ (bh fr d (.v undef)) Γ):GO P ol.toArray Q (.q i r) aQ fr Γ :=
 GO.yp hi (fun Γ=>YQ.f hi (Tq hv)) h
theorem I3:∀ (fr:List GV) (ts:List Nat) (k t:Nat),k+t∈ts->cq (cx ts k fr) t=cq fr t
 | [],_,_,_,_=>rfl
 | g::fr,ts,k,0,h=>by
  have hc:ts.contains k=true:=List.contains_iff_mem.2 (by simpa using h);simp only [cx,hc,cq]
 | g::fr,ts,k,t+1,h=>by
  simp only [cx,cq];exact I3 fr ts (k+1) t (by rw [show k+1+t=k+(t+1) by omega];exact h)
theorem vm {o:Oper} {ops:Array Oper} {x:Operand} (h:x∈o.op.operands.toList):aP (cx (o.looksAt ops) 0 fr) x=aP fr x:=by
 cases x with
 | tmp t =>
  refine I3 fr _ 0 t ?_;rw [Nat.zero_add];refine List.mem_append_left _ (List.mem_filterMap.2 ⟨.tmp t,h,rfl⟩)
 | _=>rfl
theorem YJ {x:Operand} (hi:jb ol i=some ⟨d,.move x,ty,pos,af,none⟩) (h:GO P ol.toArray Q r aQ (bh fr d (aP fr x)) Γ):GO P ol.toArray Q (.q i r) aQ fr Γ :=
 OP hi (fun Γ=>by
  have:=YG.mv (P:=P) (x:=x) (Γ:=Γ) (fr:=cx (Oper.looksAt ol.toArray ⟨d,.move x,ty,pos,af,none⟩) 0 fr)
  rw [vm (by simp [Op.operands])] at this;exact this) h
theorem YI {x:Operand} (hi:jb ol i=some ⟨d,.assign x,ty,pos,af,none⟩) (h:GO P ol.toArray Q r aQ (bh fr d (aP fr x)) Γ):GO P ol.toArray Q (.q i r) aQ fr Γ :=
 OP hi (fun Γ=>by
  have:=YG.tN (P:=P) (x:=x) (Γ:=Γ) (fr:=cx (Oper.looksAt ol.toArray ⟨d,.assign x,ty,pos,af,none⟩) 0 fr)
  rw [vm (by simp [Op.operands])] at this;exact this) h
theorem Xu {x:Operand} {c:Bool} (hi:jb ol i=some ⟨d,.move x,ty,pos,af,some gd⟩) (hv:mN ol (cx (Oper.looksAt ol.toArray ⟨d,.move x,ty,pos,af,some gd⟩) 0 fr) gd.1=some (some c)) (hc:c=gd.2) (h:GO P ol.toArray Q r aQ (bh fr d (aP fr x)) Γ):GO P ol.toArray Q (.q i r) aQ fr Γ :=
 WH hi hv hc (fun Γ=>by
  have:=YG.mv (P:=P) (x:=x) (Γ:=Γ) (fr:=cx (Oper.looksAt ol.toArray ⟨d,.move x,ty,pos,af,some gd⟩) 0 fr)
  rw [vm (by simp [Op.operands])] at this;exact this) h
theorem Xt {c a b:Operand} {t:Bool} (hi:jb ol i=some ⟨d,.pick c a b,ty,pos,af,none⟩) (hc:aP (cx (Oper.looksAt ol.toArray ⟨d,.pick c a b,ty,pos,af,none⟩) 0 fr) c=.v (.bool t)) (ht:t=true) (h:GO P ol.toArray Q r aQ (bh fr d (aP fr a)) Γ):GO P ol.toArray Q (.q i r) aQ fr Γ :=
 OP hi (fun Γ=>by
  have:=YG.vz (P:=P) (Γ:=Γ) (a:=a) (b:=b) hc ht
  rw [vm (by simp [Op.operands])] at this;exact this) h
theorem Xs {c a b:Operand} {t:Bool} (hi:jb ol i=some ⟨d,.pick c a b,ty,pos,af,none⟩) (hc:aP (cx (Oper.looksAt ol.toArray ⟨d,.pick c a b,ty,pos,af,none⟩) 0 fr) c=.v (.bool t)) (ht:t=false) (h:GO P ol.toArray Q r aQ (bh fr d (aP fr b)) Γ):GO P ol.toArray Q (.q i r) aQ fr Γ :=
 OP hi (fun Γ=>by
  have:=YG.vy (P:=P) (Γ:=Γ) (a:=a) (b:=b) hc ht
  rw [vm (by simp [Op.operands])] at this;exact this) h
inductive iz (P:Program) (ops:Array Oper) (i:Nat) (aH:List Ob):ku->ku->Prop
 | n:iz P ops i aH [] []
 | w {j:Nat} {g:GV} {nZ:List GV} {aQ dC:ku} (hw:waits ops i j=true) (h:iz P ops i aH aQ dC):iz P ops i aH ((j,g,nZ)::aQ) dC
 | y {j:Nat} {g:GV} {nZ:List GV} {aQ dC:ku} (hy:YQ P ops j g nZ aH) (h:iz P ops i aH aQ dC):iz P ops i aH ((j,g,nZ)::aQ) ((j,g,nZ)::dC)
theorem uk {ops:Array Oper} {q p:Nat × GV × List GV} (h:p∈stay ops i (q::aQ)):(p=q/\waits ops i q.1=false)\/p∈stay ops i aQ:=by
 simp only [stay,mem_filter] at h |-
 rcases List.mem_cons.1 h.1 with he | kO
 ·subst he;exact .inl ⟨rfl,by simpa using h.2⟩
 ·exact .inr ⟨kO,h.2⟩
theorem iz.spec {ops:Array Oper} {aH:List Ob} {dC:ku} (h:iz P ops i aH aQ dC):(∀ p∈stay ops i aQ,YQ P ops p.1 p.2.1 p.2.2 aH)/\∀ p∈stay ops i aQ,p∈dC:=by
 induction h with
 | n=>exact ⟨fun p hp=>(by cases hp),fun p hp=>(by cases hp)⟩
 | w hw h ih =>
  refine ⟨fun p hp=>?_,fun p hp=>?_⟩
  ·rcases uk hp with ⟨_,h2⟩ | kO
   ·simp only at h2;rw [hw] at h2;cases h2
   ·exact ih.1 p kO
  ·rcases uk hp with ⟨_,h2⟩ | kO
   ·simp only at h2;rw [hw] at h2;cases h2
   ·exact ih.2 p kO
 | y hy h ih =>
  refine ⟨fun p hp=>?_,fun p hp=>?_⟩
  ·rcases uk hp with ⟨he,_⟩ | kO
   ·subst he;exact hy
   ·exact ih.1 p kO
  ·rcases uk hp with ⟨he,_⟩ | kO
   ·subst he;exact mem_cons_self
   ·exact mem_cons_of_mem _ (ih.2 p kO)
def Tf (fr:List GV):Option Tmp->Bool
 | none=>true
 | some t=>jj fr t
def ey (P:Program) (Q:List GV->List Ob->Prop) (ol:List Oper) (i:Nat) (r:Ot) (aQ:ku) (fr:List GV) (d:Option Tmp) (bU:List GV) (aH:List Ob):Prop :=
 ∃ g dC,bU=bh fr d g/\iz P ol.toArray i aH aQ dC/\GO P ol.toArray Q r dC (bh fr d g) aH
theorem GA.of {o:Oper} {Kt:GV->List Ob->Prop} {R:List GV->List Ob->Prop} {ops:Array Oper} (hg:o.guard=none) (hd:Tf fr o.dst=true) (hR:∀ bU aH,R bU aH->∃ g,bU=bh fr o.dst g/\Kt g aH) (h:GL P Γ.length ops (aS R (fun _ _ _=>False)) [o] fr Γ):GA P o Kt fr Γ:=fun B K β w l hI hF=>by
 have h1:=h (cur K β Γ w) K β w l rfl hI.here hF;obtain ⟨d,op,ty,pos,af,gd⟩:=o;simp only at hg;subst hg;simp only at h1 hd;unfold WL wpList at h1;rw [if_pos (by rfl)] at h1
 rcases h1 with h1 | ⟨_,a0,w0,hf⟩
 ·rw [<-mG];refine Vn h1 (fun c a w' hf=>?_) (fun a w' hf=>?_) ?_ ?_
  ·obtain ⟨l',_,_,_,_,_,_,_,hq⟩:=hf;exact hq
  ·obtain ⟨l',_,_,_,_,_,_,_,hq⟩:=hf;exact hq
  ·rintro v w' ⟨l',hl,K',bL,bU,aH,bd,va,hq⟩;obtain ⟨g,rfl,hk⟩:=hR bU aH hq;rw [oJ] at hl
   have iX:put l d v=l':=by
    have:=congrArg (fun a:Act=>a.tmps.toList) hl;simpa [act] using this
   subst iX;refine ⟨K',bL,g,aH,bd.kle,bd.ble,hI.NH bd,fun Mj l2 h2=>?_,hk⟩
   cases d with
   | none=>exact h2
   | some t =>
    refine h2.eK t ?_;have hv:=va.nth t;have h3:nth (put l (some t) v) t=v:=r9 (lY hF hd) v
    have h4:cq (bh fr (some t) g) t=g:=by
     have gen:∀ (fr:List GV) (t:Nat),jj fr t=true->cq (bj fr t g) t=g:=by
      intro fr
      induction fr with
      | nil=>intro t h;cases h
      | cons x fr ih=>intro t h;cases t with | zero=>rfl | succ t=>exact ih t h
     exact gen fr t hd
    rw [h3,h4] at hv;exact hv
  ·rintro d' w' ⟨l',hl,_⟩;have:=congrArg (fun a:Act=>a.defers) hl
   cases d <;> simp [act,Act.put] at this
 ·obtain ⟨l',_,_,_,_,_,_,_,hq⟩:=hf;exact hq.elim
theorem ey.kt {bU:List GV} {aH:List Ob} (h:ey P Q ol i r aQ fr d bU aH):∃ g,bU=bh fr d g/\((∀ p∈stay ol.toArray i aQ,YQ P ol.toArray p.1 p.2.1 p.2.2 aH)/\GO P ol.toArray Q r (stay ol.toArray i aQ) (bh fr d g) aH):=by
 obtain ⟨g,dC,h1,h2,h3⟩:=h;obtain ⟨h4,h5⟩:=h2.spec;exact ⟨g,h1,h4,GO.more r _ _ _ _ (fun p hp=>.inl (h5 p hp)) h3⟩
theorem OA (hi:jb ol i=some ⟨d,op,ty,pos,af,none⟩) (hd:Tf fr d=true) (h:GL P Γ.length ol.toArray (aS (ey P Q ol i r aQ fr d) (fun _ _ _=>False)) [⟨d,op,ty,pos,af,none⟩] fr Γ):GO P ol.toArray Q (.a i r) aQ fr Γ:=by
 refine ⟨_,true,qn hi,rfl,?_⟩
 exact (GA.of (o:=⟨d,op,ty,pos,af,none⟩) rfl hd (fun bU aH hq=>ey.kt hq) h).mono fun g aH ⟨h1,h2⟩=>⟨h1,by rw [uW hi];exact h2⟩
theorem Qr {c:Bool} (hi:jb ol i=some ⟨d,op,ty,pos,af,some gd⟩) (hd:Tf fr d=true) (hv:mN ol fr gd.1=some (some c)) (hc:c=gd.2) (h:GL P Γ.length ol.toArray (aS (ey P Q ol i r aQ fr d) (fun _ _ _=>False)) [⟨d,op,ty,pos,af,none⟩] fr Γ):GO P ol.toArray Q (.a i r) aQ fr Γ:=by
 refine ⟨_,true,qn hi,CA hv hc,?_⟩
 have:=(GA.of (o:=⟨d,op,ty,pos,af,none⟩) rfl hd (fun bU aH hq=>ey.kt hq) h).mono (EA:=fun g aH=>(∀ p∈stay ol.toArray i aQ,YQ P ol.toArray p.1 p.2.1 p.2.2 aH)/\GO P ol.toArray Q r (stay ol.toArray i aQ) (bh fr (kz ol.toArray i) g) aH) fun g aH ⟨h1,h2⟩=>⟨h1,by rw [uW hi];exact h2⟩
 exact this
theorem YD {c:Bool} {dC:ku} (hi:jb ol i=some ⟨d,op,ty,pos,af,some gd⟩) (hv:mN ol fr gd.1=some (some c)) (hc:c=!gd.2) (hs:iz P ol.toArray i Γ aQ dC) (h:GO P ol.toArray Q r dC (bh fr d (.v undef)) Γ):GO P ol.toArray Q (.a i r) aQ fr Γ :=
 ⟨_,false,qn hi,Fh hv hc,hs.spec.1,by rw [uW hi];exact GO.more r _ _ _ _ (fun p hp=>.inl (hs.spec.2 p hp)) h⟩
theorem YE {dC:ku} (hi:jb ol i=some ⟨d,op,ty,pos,af,some gd⟩) (hv:mN ol fr gd.1=some none) (hs:iz P ol.toArray i Γ aQ dC) (h:GO P ol.toArray Q r dC (bh fr d (.v undef)) Γ):GO P ol.toArray Q (.a i r) aQ fr Γ :=
 ⟨_,false,qn hi,Tq hv,hs.spec.1,by rw [uW hi];exact GO.more r _ _ _ _ (fun p hp=>.inl (hs.spec.2 p hp)) h⟩
theorem GO.nil (h:Q fr Γ):GO P ol.toArray Q .nil aQ fr Γ:=h
theorem ey.mk {dC:ku} (hs:iz P ol.toArray i Γ aQ dC) {nZ:List GV} (h:GO P ol.toArray Q r dC (bh nZ d g) Γ):ey P Q ol i r aQ nZ d (bh nZ d g) Γ:=⟨g,dC,rfl,hs,h⟩
theorem nM {ops:Array Oper} {bU:List GV} {aH:List Ob} (h1:fr=bU) (h2:Γ=aH) (h:GO P ops Q r aQ bU aH):GO P ops Q r aQ fr Γ:=by subst h1;subst h2;exact h
theorem WG {ops:Array Oper} {bU:List GV} (h1:fr=bU) (h:GO P ops Q r aQ bU Γ):GO P ops Q r aQ fr Γ:=by subst h1;exact h
end
theorem GW.range {P:Program} {m:Nat} {Q:dP} {fr:List GV} {Γ:List Ob} {B C r1 r2:Nat} {body:Code} {tb ti tn ta:Tmp} {T1 T2 T3 T4 T5 T6 T7:TypeId} {p1 p2 p3:String} {a1 a2 a3:Array Edge} (n:Nat) (I:Nat->List GV->List Ob->Prop)
  (h0:zh m (I 0) fr Γ) (hn:n<=1099511627776)
  (hI:∀ k fr Γ,I k fr Γ->cq fr ti=.v (ii k)/\cq fr tn=.v (ii n)/\jj fr tb=true)
  (VR:∀ k fr Γ,k < n->I k fr Γ->GW P m body (aW C (aS (fun bU aH=>cq bU ti=.v (ii k)/\jj bU ta=true/\zh m (I (k+1)) (bj (bj bU ta (.v (ii ((k+1:Nat):Int)))) ti (.v (ii ((k+1:Nat):Int)))) aH) (aW B Q))) (bj fr tb (.v (.bool true))) Γ)
  (oA:∀ fr Γ,I n fr Γ->Q .normal (bj fr tb (.v (.bool false))) Γ) :
  GW P m (.loop (.seq (.region r1 [(⟨some tb,.binOp .lss T1 (.tmp ti) (.tmp tn) T2,T3,p1,a1,none⟩:Oper)].toArray false) (.seq (.cond (.tmp tb) .skip (.exit B))
   (.seq (.block C body) (.region r2 [(⟨some ta,.binOp .add T4 (.tmp ti) (.const (.int .i64 1)) T5,T6,p2,a2,none⟩:Oper),⟨some ti,.move (.tmp ta),T7,p3,a3,none⟩].toArray false))))) (aW B Q) fr Γ:=by
 have zz:∀ (fr:List GV) (t:Nat) (g:GV),jj fr t=true->cq (bj fr t g) t=g:=by
  intro fr
  induction fr with
  | nil=>intro t g h;cases h
  | cons x fr ih=>intro t g h;cases t with | zero=>rfl | succ t=>exact ih t g h
 refine GW.loop (fun k:Nat=>n - k) (fun k fr Γ=>k<=n/\I k fr Γ) 0 ?_ ?_
 ·obtain ⟨bU,aH,hw,h⟩:=h0;exact ⟨bU,aH,hw,Nat.zero_le _,h⟩
 rintro k fr Γ ⟨hk,hi⟩;obtain ⟨h1,h2,h3⟩:=hI k fr Γ hi;refine GW.seq (GW.region (GL.q (YG.go (v:=.bool (decide ((k:Int) < (n:Int)))) ?_) (GL.nil (aD ?_))))
 ·simp only [Tw,Xw.go,aP,h1,h2,CB,J0,ii,KQ,J1]
 by_cases aq:k < n
 ·have hd:decide ((k:Int) < (n:Int))=true:=by simpa using aq
  simp only [bh,hd];refine GW.seq (Qo (zz fr tb _ h3) rfl (GW.skip (aD (GW.seq (GW.block ?_)))));refine GW.mono (VR k fr Γ aq hi) ?_;intro e bU aH hq;have key:∀ bU aH,(cq bU ti=.v (ii k)/\jj bU ta=true/\zh m (I (k+1)) (bj (bj bU ta (.v (ii ((k+1:Nat):Int)))) ti (.v (ii ((k+1:Nat):Int)))) aH) ->
    GW P m (.region r2 [(⟨some ta,.binOp .add T4 (.tmp ti) (.const (.int .i64 1)) T5,T6,p2,a2,none⟩:Oper),⟨some ti,.move (.tmp ta),T7,p3,a3,none⟩].toArray false) (aS (fun bU aH=>∃ y:Nat,zh m (fun fr Γ=>y<=n/\I y fr Γ) bU aH/\n - y < n - k) (aW B Q)) bU aH:=by
   rintro bU aH ⟨h5,h6,Mj,D6,hw,h7⟩;refine GW.region (GL.q (YG.pe (a:=k) h5 rfl (by omega)) (GL.q YG.mv (GL.nil (aD ⟨k+1,⟨Mj,D6,?_,aq,h7⟩,by omega⟩))));have h8:aP (bj bU ta (.v (ii ((k+1:Nat):Int)))) (.tmp ta)=.v (ii ((k+1:Nat):Int)):=zz bU ta _ h6;simp only [bh,h8];exact hw
  cases e with
  | normal=>exact key bU aH hq
  | exit id =>
   simp only [aW] at hq |-;split <;> rename_i hh
   ·rw [if_pos hh] at hq;exact key bU aH hq
   ·rw [if_neg hh] at hq;exact hq
  | goto _=>exact hq
  | ret=>exact hq
  | panic _=>exact hq
  | outgrown=>exact hq
 ·have vd:k=n:=by omega
  have hd:decide ((k:Int) < (n:Int))=false:=by simpa using aq
  simp only [bh,hd];refine GW.seq (Qn (zz fr tb _ h3) rfl (GW.exit (Fl (Fl (Iv ?_)))));subst vd;exact oA fr Γ hi
end Go.Xg
namespace Go.Xg
open Go.RowKit Go.Xw
def lS (g g':GV):Prop:=∀ K β x,Rel K β x g->Rel K β x g'
def kr (gs hs:List GV):Prop:=∀ K β vs,aV K β vs gs->aV K β vs hs
theorem lS.refl {g:GV}:lS g g:=fun _ _ _ h=>h
theorem lS.aaF {g:GV}:lS g .aaF:=fun _ _ _ _=>.aaF _
theorem lS.nil {k:Nat}:lS (.v (.slice none 0 0)) (.sl k []):=fun K β x h=>by
 rw [Rel.dR h];exact .sl0 _ _ _
theorem kr.nil:kr [] []:=fun _ _ _ h=>h
theorem kr.refl {gs:List GV}:kr gs gs:=fun _ _ _ h=>h
theorem kr.cons {g h:GV} {gs hs:List GV} (h1:lS g h) (h2:kr gs hs):kr (g::gs) (h::hs):=fun K β vs hv=>by
 cases vs with
 | nil=>have:=hv.1;simp at this
 | cons v vs=>obtain ⟨a,b⟩:=hv.nf;exact .cons (h1 K β v a) (h2 K β vs b)
theorem lS.agg {gs hs:List GV} (h:kr gs hs):lS (.agg gs) (.agg hs):=fun K β x hx=>by
 cases hx with
 | agg vs _ hl h'=>obtain ⟨a,b⟩:=h K β vs ⟨hl,h'⟩;exact .agg vs hs a b
theorem lS.tup {gs hs:List GV} (h:kr gs hs):lS (.tup gs) (.tup hs):=fun K β x hx=>by
 cases hx with
 | tup vs _ hl h'=>obtain ⟨a,b⟩:=h K β vs ⟨hl,h'⟩;exact .tup vs hs a b
inductive S2:List GV->List GV->Prop
 | nil:S2 [] []
 | cons {f g:GV} {fs gs:List GV} (h:lS f g) (t:S2 fs gs):S2 (f::fs) (g::gs)
section
variable {P:Program} {m:Nat} {Q:dP} {fr:List GV} {Γ:List Ob} {ops:Array Oper} {rest:List Oper} {d:Option Tmp} {op:Op} {ty:TypeId} {pos:String} {af:Array Edge}
theorem Wk.cells (i:Nat) {E:TypeId} {cs ds:List GV} (hi:Γ[i]?=some (.box E cs)) (h:kr cs ds):Wk m fr Γ fr (oset Γ i (.box E ds)):=fun B K β w l _ hI hF=>by
 rw [aY];refine ⟨K,β,⟨hI.ext,hI.kle,hI.ble,hI.loc,hI.fz,fun j x hj=>?_,fun j hj=>hI.out j (by simpa using hj),hI.dis,hI.own,hI.kn,hI.tab⟩,hF⟩;rw [getElem?_set] at hj;split at hj
 ·rename_i fB;split at hj
  ·cases hj;subst fB
   obtain ⟨b,vs,h1,h2,h3,h4⟩:=hI.ob i _ hi;exact ⟨b,vs,h1,h2,h K β vs h3,h4⟩
  ·cases hj
 ·exact hI.ob j x hj
theorem GL.Be {f:FuncId} [hf:aC P f] (aJ:List Nat) {args:List Operand} {l8:Array TypeId} {gs:List GV} {gz:List Ob} {R:GV->List Ob->Prop} (hc:GC P f gs gz R) (ha:kr (args.map (aP fr)) (lj (bM aJ Γ.length) gs)) (eJ:gQ aJ Γ.length=true)
  (br:seen (bM aJ Γ.length) Γ aJ gz) (h:∀ g aH,R g aH->aJ.length<=aH.length/\GL P m ops Q rest (bh fr d (dp (bM aJ Γ.length) g)) (dJ Γ aJ (aH.map (Ob.dp (bM aJ Γ.length))))) :
  GL P m ops Q (⟨d,.call ⟨.value (.func f),args.toArray,l8⟩,ty,pos,af,none⟩::rest) fr Γ :=
 GL.calls (vs:=fun l=>args.map (ev l)) (fun K β w l hF=>⟨ha K β _ (hF.args args),by simp [execOp,resolve,ev,Deferred.ofValue,invoke,lk]⟩) eJ br hc h
theorem GL.VC {f:FuncId} [hf:aC P f] (aJ:List Nat) {args:List Operand} {l8:Array TypeId} {gs:List GV} {gz qI:List Ob} {g:GV} (hc:GF P f gs gz g qI) (ha:kr (args.map (aP fr)) (lj (bM aJ Γ.length) gs)) (eJ:gQ aJ Γ.length=true)
  (br:seen (bM aJ Γ.length) Γ aJ gz) (hl:Nat.ble aJ.length qI.length=true) (h:GL P m ops Q rest (bh fr d (dp (bM aJ Γ.length) g)) (dJ Γ aJ (qI.map (Ob.dp (bM aJ Γ.length))))) :
  GL P m ops Q (⟨d,.call ⟨.value (.func f),args.toArray,l8⟩,ty,pos,af,none⟩::rest) fr Γ :=
 GL.Be aJ hc ha eJ br fun g' aH ⟨h1,h2⟩=>by subst h1;subst h2;exact ⟨by simpa using hl,h⟩
end
section
variable {P:Program} {fr:List GV} {Γ:List Ob} {g:GV}
theorem K.bin {o:BinOp} {t t':TypeId} {x y:Operand} (h:YG P (.binOp o t x y t') fr Γ g):YG P (.binOp o t x y t') fr Γ g:=h
theorem K.ld {t:TypeId} {x:Operand} (h:YG P (.load t x) fr Γ g):YG P (.load t x) fr Γ g:=h
theorem K.pn {t:TypeId} {x:Operand} {i:Nat} (h:YG P (.fieldAddr t x i) fr Γ g):YG P (.fieldAddr t x i) fr Γ g:=h
theorem K.len {t:TypeId} {x:Operand} (h:YG P (.call ⟨.builtin .len,#[x],#[t]⟩) fr Γ g):YG P (.call ⟨.builtin .len,#[x],#[t]⟩) fr Γ g:=h
theorem K.ye {x:Operand} (h:YG P (.nilCheck x) fr Γ g):YG P (.nilCheck x) fr Γ g:=h
theorem K.idx {t:TypeId} {x y:Operand} (h:YG P (.indexAddr t x y) fr Γ g):YG P (.indexAddr t x y) fr Γ g:=h
theorem K.pick {a b c:Operand} (h:YG P (.pick a b c) fr Γ g):YG P (.pick a b c) fr Γ g:=h
theorem K.ym {t:TypeId} {x:Operand} {a b c:Option Operand} (h:YG P (.slice t x a b c) fr Γ g):YG P (.slice t x a b c) fr Γ g:=h
theorem K.jc {f:Fn} {a b:Array Operand} (h:YG P (.makeFunc f a b) fr Γ g):YG P (.makeFunc f a b) fr Γ g:=h
end
section
variable {P:Program} {fn:Func} {m:Nat} {fr:List GV} {Γ aH:List Ob} {e:Exit} {g:GV}
theorem Bi {R:GV->List Ob->Prop} (h:sG P fn m (fun x Δ=>∃ y,lS x y/\R y Δ) e fr Γ):sG P fn m R e fr Γ :=
 ⟨h.1,fun B K β w l hm hI hF=>by
  obtain ⟨v,K',bL,x,Δ,h1,h2,h3,y,h4,h5⟩:=h.2 B K β w l hm hI hF
  exact ⟨v,K',bL,y,Δ,h1,h2,h4 _ _ _ h3,h5⟩⟩
end
end Go.Xg
