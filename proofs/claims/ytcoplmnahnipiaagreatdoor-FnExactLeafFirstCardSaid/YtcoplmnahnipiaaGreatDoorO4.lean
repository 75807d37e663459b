/- Part 4 of proofs that are told in their last texts. -/
import Derived.WalkKit
import Derived.KernelRfl
import Derived.Orders
open List (all_cons eq_nil_of_length_eq_zero flatten_cons getElem?_append_left getElem?_drop getElem?_map getElem?_set getElem?_take length_cons map_nil map_toArray mem_cons_of_mem mem_cons_self mem_filter mem_of_getElem? size_toArray)
set_option linter.unusedVariables false
set_option linter.unusedSimpArgs false
set_option maxRecDepth 100000
namespace Go.Xw
open Go.RowKit
def nth:List Value->Nat->Value
 | [],_=>undef
 | v::_,0=>v
 | _::l,n+1=>nth l n
def eS:List Value->Nat->Value->List Value
 | [],_,_=>[]
 | _::l,0,v=>v::l
 | x::l,n+1,v=>x::eS l n v
def ev (l:List Value):Operand->Value
 | .tmp t=>nth l t
 | .const v=>v
 | .global g=>.pointer (some ⟨g,0,none⟩)
 | .func f=>.func (.func f) #[] #[]
def put (l:List Value) (d:Option Tmp) (v:Value):List Value :=
 match d with | some d=>eS l d v | none=>l
theorem jW (l:List Value) (t:Nat):l.toArray.getD t undef=nth l t:=by
 induction l generalizing t with
 | nil=>simp [nth]
 | cons x l ih =>
  cases t with
  | zero=>simp [nth]
  | succ t=>rw [nth,<-ih];simp [Array.getD]
theorem ye (l:List Value) (t:Nat) (v:Value):l.toArray.setIfInBounds t v=(eS l t v).toArray:=by
 have h:∀ (l:List Value) t,eS l t v=l.set t v:=by
  intro l
  induction l with
  | nil=>intro t;rfl
  | cons x l ih=>intro t;cases t with | zero=>rfl | succ t=>simp [eS,ih]
 rw [h];simp
def act (l:List Value):Act:=⟨l.toArray,[]⟩
theorem nq (l:List Value):(act l).eval=ev l:=by
 funext x;cases x <;> first | rfl | exact jW l _
theorem pd (l:List Value) (d:Option Tmp) (v:Value):(act l).put d v=act (put l d v):=by
 cases d with
 | none=>rfl
 | some d=>simp only [act,Act.put,put];rw [ye]
abbrev lx:=Exit->List Value->World->Prop
def lift (Q:lx):Exit->Act->World->Prop:=fun e a w=>∃ l,a=act l/\Q e l w
def W (P:Program) (c:Code) (Q:lx) (l:List Value) (w:World):Prop:=c.wp P (lift Q) (act l) w
def WL (P:Program) (ops:Array Oper) (Q:lx) (rest:List Oper) (l:List Value) (w:World):Prop :=
 wpList P ops (lift Q) rest (act l) w
def Yc (next:List Value->World->Prop) (Q:lx):lx
 | .normal,l,w=>next l w
 | e,l,w=>Q e l w
def U9 (id:Nat) (Q:lx):lx
 | .exit wZ,l,w=>if wZ=id then Q .normal l w else Q (.exit wZ) l w
 | e,l,w=>Q e l w
section
variable {P:Program} {Q:lx} {l:List Value} {w:World} {ops:Array Oper} {rest:List Oper}
theorem W.seq {x y:Code} (h:W P x (Yc (W P y Q) Q) l w):W P (.seq x y) Q l w:=by
 refine wp_seq (wp_mono h ?_);rintro e a w ⟨l,rfl,hq⟩
 cases e <;> first | exact hq | exact ⟨l,rfl,hq⟩
theorem W.skip (h:Q .normal l w):W P .skip Q l w:=wp_skip ⟨l,rfl,h⟩
theorem W.exit {n:Nat} (h:Q (.exit n) l w):W P (.exit n) Q l w:=wp_exit ⟨l,rfl,h⟩
theorem W.ret (h:Q .ret l w):W P .ret Q l w:=wp_ret ⟨l,rfl,h⟩
theorem W.block {id:Nat} {c:Code} (h:W P c (U9 id Q) l w):W P (.block id c) Q l w:=by
 refine wp_block (wp_mono h ?_);rintro e a w ⟨l,rfl,hq⟩
 cases e with
 | exit wZ =>
  simp only [U9] at hq;simp only [Exit.inBlock];split <;> rename_i hh
  ·rw [if_pos hh] at hq;exact ⟨l,rfl,hq⟩
  ·rw [if_neg hh] at hq;exact ⟨l,rfl,hq⟩
 | normal=>exact ⟨l,rfl,hq⟩
 | goto _=>exact ⟨l,rfl,hq⟩
 | ret=>exact ⟨l,rfl,hq⟩
 | panic _=>exact ⟨l,rfl,hq⟩
 | outgrown=>exact ⟨l,rfl,hq⟩
theorem W.cond {c:Operand} {x y:Code} {t:Bool} (hc:ev l c=.bool t) (ht:t=true->W P x Q l w) (hf:t=false->W P y Q l w):W P (.cond c x y) Q l w:=by
 refine wp_cond_split (t:=t) (by rw [nq];exact hc) ht hf
theorem W.mono {c:Code} {Q':lx} (h:W P c Q l w) (hq:∀ e l w,Q e l w->Q' e l w):W P c Q' l w :=
 wp_mono h fun _ _ _ ⟨l,ha,q⟩=>⟨l,ha,hq _ _ _ q⟩
theorem W.loop {c:Code} {α:Type} (μ:α->Nat) (I:α->List Value->World->Prop) (x:α) (h0:I x l w)
  (round:∀ x l w,I x l w->W P c (Yc (fun l' w'=>∃ y,I y l' w'/\μ y < μ x) Q) l w):W P (.loop c) Q l w:=by
 have key:∀ n x l w,μ x=n->I x l w->∀ (b:Frame) (k:List Item) (cs:List Frame),
   ∃ e a' w',lift Q e a' w'/\Arrives P (lone (b.at (act l) (.code c::.inLoop c::k)) cs w) b k cs e a' w':=by
  intro n
  induction n using Nat.strongRecOn with
  | _ n ih =>
   intro x l w hn hI b k cs;obtain ⟨e,aag,CF,hq,xw⟩:=round x l w hI b (.inLoop c::k) cs;obtain ⟨Cd,rfl,hq⟩:=hq
   cases e with
   | normal =>
    obtain ⟨y,Wq,ao⟩:=hq;obtain ⟨Yl,Yj,ZO,WA,SA⟩:=ih (μ y) (hn ▸ ao) y Cd CF rfl Wq b k cs;exact ⟨Yl,Yj,ZO,WA,.of_steps (Steps.trans xw (.one step_inLoop)) SA⟩
   | exit id=>exact ⟨_,_,CF,⟨Cd,rfl,hq⟩,.pass (x:=.inLoop c) rfl (fun _ _=>.inl (by simp)) xw⟩
   | goto _=>exact ⟨_,_,CF,⟨Cd,rfl,hq⟩,.pass (x:=.inLoop c) rfl (fun _ _=>.inl (by simp)) xw⟩
   | ret=>exact ⟨_,_,CF,⟨Cd,rfl,hq⟩,.pass (x:=.inLoop c) rfl (fun _ _=>.inl (by simp)) xw⟩
   | panic ch=>exact ⟨_,_,CF,⟨Cd,rfl,hq⟩,.pass (x:=.inLoop c) rfl (fun _ _=>.inl (by simp)) xw⟩
   | outgrown=>exact ⟨_,_,CF,⟨Cd,rfl,hq⟩,.pass (x:=.inLoop c) rfl (fun _ _=>.inl (by simp)) xw⟩
 intro b k cs;obtain ⟨e,a',w',hq,xw⟩:=key _ x l w rfl h0 b k cs;exact ⟨e,a',w',hq,.of_steps (.one step_loop) xw⟩
theorem W.region {id:Nat} {ol:List Oper} (h:WL P ol.toArray Q ol l w):W P (.region id ol.toArray false) Q l w :=
 wp_region_lit h
theorem WL.nil (h:Q .normal l w):WL P ops Q [] l w:=⟨l,rfl,h⟩
theorem WL.val {d:Option Tmp} {op:Op} {ty:TypeId} {pos:String} {af:Array Edge} {v:Value} {w':World}
  (hr:(execOp (ev l) ⟨d,op,ty,pos,af,none⟩).run P w=.ok (.value v) w')
  (h:WL P ops Q rest (put l d v) w'):WL P ops Q (⟨d,op,ty,pos,af,none⟩::rest) l w:=by
 refine wpList_plain rfl fun K hK=>?_
 simp only [Oper.wp,nq,hr,Oper.upon_value,pd];exact hK _ _ h
theorem WL.skp {d:Option Tmp} {op:Op} {ty:TypeId} {pos:String} {af:Array Edge} {w':World}
  (hr:(execOp (ev l) ⟨d,op,ty,pos,af,none⟩).run P w=.ok .skip w')
  (h:WL P ops Q rest (put l d undef) w'):WL P ops Q (⟨d,op,ty,pos,af,none⟩::rest) l w:=by
 refine wpList_plain rfl fun K hK=>?_
 simp only [Oper.wp,nq,hr,Oper.upon_skip,pd];exact hK _ _ h
theorem WL.gt {d:Option Tmp} {op:Op} {ty:TypeId} {pos:String} {af:Array Edge} {g:Option (Nat × Bool)}
  (hw:Region.wanted ⟨d,op,ty,pos,af,g⟩ (yielded ops (act l).tmps)=true)
  (h:WL P ops Q (⟨d,op,ty,pos,af,none⟩::rest) l w):WL P ops Q (⟨d,op,ty,pos,af,g⟩::rest) l w:=by
 unfold WL wpList at *;rw [if_pos hw];rw [if_pos (by rfl)] at h;exact h
theorem WL.gf {d:Option Tmp} {op:Op} {ty:TypeId} {pos:String} {af:Array Edge} {g:Option (Nat × Bool)}
  (hw:Region.wanted ⟨d,op,ty,pos,af,g⟩ (yielded ops (act l).tmps)=false)
  (h:WL P ops Q rest (put l d undef) w):WL P ops Q (⟨d,op,ty,pos,af,g⟩::rest) l w:=by
 unfold WL wpList;rw [if_neg (by rw [hw];decide)];show wpList P ops (lift Q) rest ((act l).put d undef) w;rw [pd];exact h
end
section
variable {next:List Value->World->Prop} {Q:lx} {l:List Value} {w:World} {id wZ:Nat}
end
structure Ext (S:Nat->Prop) (w w':World):Prop where
 os:w'.os=w.os
 tape:w'.tape=w.tape
 output:w'.output=w.output
 size:w.heap.size<=w'.heap.size
 block:∀ k,k < w.heap.size->¬ S k->w'.heap[k]?=w.heap[k]?
abbrev ic:Nat->Prop:=fun _=>False
theorem Ext.refl {S:Nat->Prop} (w:World):Ext S w w:=⟨rfl,rfl,rfl,Nat.le_refl _,fun _ _ _=>rfl⟩
theorem Ext.trans {S:Nat->Prop} {a b c:World} (h:Ext S a b) (k:Ext S b c):Ext S a c :=
 ⟨k.os.trans h.os,k.tape.trans h.tape,k.output.trans h.output,Nat.le_trans h.size k.size,
  fun i hi hs=>(k.block i (Nat.lt_of_lt_of_le hi h.size) hs).trans (h.block i hi hs)⟩
theorem Ext.step {S0 S:Nat->Prop} {a b c:World} (h:Ext S0 a b) (k:Ext S b c) (hs:∀ j,S j->a.heap.size<=j\/S0 j):Ext S0 a c :=
 ⟨k.os.trans h.os,k.tape.trans h.tape,k.output.trans h.output,Nat.le_trans h.size k.size,
  fun i hi hn=>(k.block i (Nat.lt_of_lt_of_le hi h.size) fun UU=>by
   rcases hs i UU with h1 | h1
   ·omega
   ·exact hn h1).trans (h.block i hi hn)⟩
theorem Ext.mono {S S':Nat->Prop} {a b:World} (h:Ext S a b) (hs:∀ k,k < a.heap.size->S k->S' k):Ext S' a b :=
 ⟨h.os,h.tape,h.output,h.size,fun i hi hn=>h.block i hi fun x=>hn (hs i hi x)⟩
theorem Ext.blk {S:Nat->Prop} {a b:World} (h:Ext S a b) {k:Nat} {o:Obj} (hv:a.heap[k]?=some o) (hs:¬ S k):b.heap[k]?=some o:=by
 rw [h.block k (by have:=(Array.getElem?_eq_some_iff.1 hv).1;exact this) hs,hv]
theorem rq {w:World} {k:Nat} {o:Obj} (hv:w.heap[k]?=some o):k < w.heap.size:=(Array.getElem?_eq_some_iff.1 hv).1
theorem Lz {w:World} {b o:Nat} {cs:Array Value} {E:TypeId} {fz:Nat × Nat} {v:Value} (hb:w.heap[b]?=some (.cells cs E fz)) (hv:cs[o]?=some v):w.cell? ⟨b,o,none⟩=some v:=by
 rw [cell_of_row w b o cs E fz hb,hv]
theorem Ext.below {a b:World} (h:Ext ic a b):Below a.heap.size a b:=⟨h.os,h.tape,h.output,h.size,fun k hk=>h.block k hk (fun x=>x)⟩
structure uI (w w':World) (b:Nat) (o:Obj):Prop where
 fresh:b=w.heap.size
 size:w'.heap.size=b+1
 blk:w'.heap[b]?=some o
 ext:Ext ic w w'
theorem uI.of (w:World) (o:Obj):uI w (w.alloc o) w.heap.size o :=
 ⟨rfl,by simp,heap_alloc_new w o,⟨rfl,rfl,rfl,by simp,fun k hk _=>Below.heap_alloc _ _ _ hk⟩⟩
def yi:TypeDesc->Bool
 | .struct _=>true
 | .array _ _=>true
 | _=>false
class Ty (P:Program) (t:TypeId) (agg:outParam Bool) (k:outParam Nat):Prop where
 und:(P.underlying t).map yi=some agg
 siz:(P.info? t).map (·.size)=some k
class mj (P:Program) (t:TypeId) (e:outParam TypeId) (k:outParam Nat):Prop where
 und:P.underlying t=some (.slice e)
 siz:(P.info? e).map (·.size)=some k
class pB (P:Program) (t:TypeId):Prop where
 und:P.underlying t=some .string
def JH (P:Program) (s:TypeId) (i:Nat) (off:Nat) (k:Nat) (agg:Bool):Bool :=
 match P.underlying s with
 | some (.struct fs)=>match fs[i]? with
  | some f=>f.offset==off&&(match P.info? f.type with | some x=>x.size==k | none=>false)&&k != 0&&((P.underlying f.type).map yi==some agg)
  | none=>false
 | _=>false
class dp (P:Program) (s:TypeId) (i:Nat) (off:outParam Nat) (k:outParam Nat) (agg:outParam Bool):Prop where
 is:JH P s i off k agg=true
section
variable {P:Program} {w:World}
theorem DE {t:TypeId} {agg:Bool} {k:Nat} [h:Ty P t agg k]:(isAgg t).run P w=.ok agg w:=by
 obtain ⟨hu,_⟩:=h
 cases hd:P.underlying t with
 | none=>simp [hd] at hu
 | some d =>
  rw [hd] at hu;unfold isAgg;rw [Sem.run_bind,run_underlying hd w]
  cases d <;> simp_all [yi]
theorem iJ {t:TypeId} {k:Nat} (h:(P.info? t).map (·.size)=some k):(sizeOf t).run P w=.ok k w:=by
 cases hq:P.info? t with
 | none=>simp [hq] at h
 | some i=>simp [hq] at h;simp [sizeOf,typeInfo,hq,h]
theorem pC (b o n:Nat):(⟨b,o,none⟩:Addr).add n=⟨b,o+n,none⟩:=by
 unfold Addr.add;split
 ·rename_i h;subst h;rfl
 ·rfl
theorem F4 {t:TypeId} [h:Ty P t false 1] {a:Addr} {v:Value} (hv:w.cell? a=some v):(loadVar t a).run P w=.ok v w:=by
 unfold loadVar;rw [Sem.run_bind,DE (agg:=false) (k:=1)];simp [hv]
theorem nG {t:TypeId} {k:Nat} [h:Ty P t true k] {b o:Nat} {vs:List Value} (hl:vs.length=k) (hv:∀ j v,vs[j]?=some v->w.cell? ⟨b,o+j,none⟩=some v) :
  (loadVar t ⟨b,o,none⟩).run P w=.ok (.agg vs.toArray) w:=by
 unfold loadVar;rw [Sem.run_bind,DE (agg:=true) (k:=k)]
 have hc:(loadCells ⟨b,o,none⟩ k).run P w=.ok vs.toArray w:=by
  rw [<-hl]
  exact run_loadCells_list w _ vs fun j v hj=>by rw [pC];exact hv j v hj
 simp [iJ h.siz,hc]
end
def ep (P:Program) (l:List Value) (w:World) (op:Op) (v:Value):Prop :=
 ∀ (d:Option Tmp) (ty:TypeId) (pos:String) (af:Array Edge),(execOp (ev l) ⟨d,op,ty,pos,af,none⟩).run P w=.ok (.value v) w
theorem WL.v {P:Program} {Q:lx} {l:List Value} {w:World} {ops:Array Oper} {rest:List Oper} {d:Option Tmp} {op:Op} {ty:TypeId} {pos:String} {af:Array Edge} {v:Value}
  (hr:ep P l w op v) (h:WL P ops Q rest (put l d v) w):WL P ops Q (⟨d,op,ty,pos,af,none⟩::rest) l w:=WL.val (hr d ty pos af) h
section
variable {P:Program} {l:List Value} {w:World}
theorem R.mv {x:Operand}:ep P l w (.move x) ((ev l x)):=fun d ty pos af=>by simp [execOp]
theorem R.wL {x:Operand}:ep P l w (.assign x) ((ev l x)):=fun d ty pos af=>by simp [execOp]
theorem R.pick {c a b:Operand} {t:Bool} (hc:ev l c=.bool t):ep P l w (.pick c a b) ((if t then ev l a else ev l b)):=fun d ty pos af=>by simp [execOp,hc,asBool]
theorem R.Kq {x:Operand} {a:Addr} (hx:ev l x=.pointer (some a)):ep P l w (.nilCheck x) ((.pointer (some a))):=fun d ty pos af=>by simp [execOp,hx]
theorem R.extract {x:Operand} {i:Nat} {vs:Array Value} {v:Value} (hx:ev l x=.tuple vs) (hv:vs[i]?=some v):ep P l w (.extract x i) (v):=fun d ty pos af=>by simp [execOp,hx,Instr.extract,hv]
theorem R.Ce {fn:Fn} {first cap:Array Operand}:ep P l w (.makeFunc fn first cap) ((.func fn (first.map (ev l)) (cap.map (ev l)))):=fun d ty pos af=>by simp [execOp,Instr.makeFunc]
abbrev ai:=List UInt8
def sv (s:ai):Value:=.string ⟨s.toArray⟩
theorem toList_mk (s:ai):(⟨s.toArray⟩:ByteArray).toList=s:=by
 simp [ByteArray.toList_eq]
theorem vu (s:ai):(⟨s.toArray⟩:ByteArray).size=s.length:=by
 simp [ByteArray.size]
theorem D5 (b:ByteArray):Value.string b=sv b.data.toList:=by
 simp [sv]
theorem Ly (a b:ai):(⟨a.toArray⟩:ByteArray)++⟨b.toArray⟩=⟨(a++b).toArray⟩:=by
 apply ByteArray.ext;simp
theorem extract_mk (s:ai) (i j:Nat):(⟨s.toArray⟩:ByteArray).extract i j=⟨((s.take j).drop i).toArray⟩:=by
 apply ByteArray.ext;simp [ByteArray.data_extract,List.take_drop]
 by_cases h:i<=j
 ·rw [Nat.add_sub_cancel' h]
 ·rw [List.drop_eq_nil_of_le (by simp;omega),List.drop_eq_nil_of_le (by simp;omega)]
theorem aae (x c:UInt8):((x.toNat:Int)==(c.toNat:Int))=(x==c):=by
 rw [Bool.eq_iff_iff];simp only [beq_iff_eq];constructor
 ·intro h;exact UInt8.toNat_inj.1 (by omega)
 ·rintro rfl;rfl
abbrev ii (n:Int):Value:=.int .i64 n
theorem CC {n:Int} (h1 : -9223372036854775808<=n) (h2:n<=9223372036854775807):IntKind.i64.wrap n=n:=IntWalk.i64_in _ ⟨h1,h2⟩
theorem R.PL {x:Operand} {t:TypeId} [hT:pB P t] {s:ai} (hx:ev l x=sv s):ep P l w (.call ⟨.builtin .len,#[x],#[t]⟩) ((ii s.length)):=fun d ty pos af=>by simp [execOp,resolve,invoke,builtin,hx,sv,Builtin.len_,goInt,run_underlying hT.und,vu]
theorem R.Kg {x:Operand} {t e:TypeId} {k:Nat} [hT:mj P t e k] {a:Option Addr} {n c:Nat} (hx:ev l x=.slice a n c):ep P l w (.call ⟨.builtin .len,#[x],#[t]⟩) ((ii n)):=fun d ty pos af=>by simp [execOp,resolve,invoke,builtin,hx,Builtin.len_,goInt,run_underlying hT.und]
theorem R.add {x y:Operand} {t t':TypeId} {a b:Int} (hx:ev l x=ii a) (hy:ev l y=ii b) (h1 : -9223372036854775808<=a+b) (h2:a+b<=9223372036854775807):ep P l w (.binOp .add t x y t') ((ii (a+b))):=fun d ty pos af=>by simp [execOp,eqGuard,hx,hy,binOp,Op.intArith,CC h1 h2]
theorem R.sub {x y:Operand} {t t':TypeId} {a b:Int} (hx:ev l x=ii a) (hy:ev l y=ii b) (h1 : -9223372036854775808<=a - b) (h2:a - b<=9223372036854775807):ep P l w (.binOp .sub t x y t') ((ii (a - b))):=fun d ty pos af=>by simp [execOp,eqGuard,hx,hy,binOp,Op.intArith,CC h1 h2]
theorem R.mul {x y:Operand} {t t':TypeId} {a b:Int} (hx:ev l x=ii a) (hy:ev l y=ii b) (h1 : -9223372036854775808<=a * b) (h2:a * b<=9223372036854775807):ep P l w (.binOp .mul t x y t') ((ii (a * b))):=fun d ty pos af=>by simp [execOp,eqGuard,hx,hy,binOp,Op.intArith,CC h1 h2]
theorem R.cat {x y:Operand} {t t':TypeId} {a b:ai} (hx:ev l x=sv a) (hy:ev l y=sv b) (h1:a.length+b.length<=9223372036854775807):ep P l w (.binOp .add t x y t') ((sv (a++b))):=fun d ty pos af=>by
  have h2:¬ ((((⟨a.toArray⟩:ByteArray).size+(⟨b.toArray⟩:ByteArray).size:Nat):Int) > IntKind.i64.max):=by
   rw [vu,vu];simp [IntKind.max,IntKind.signed,IntKind.bits];omega
  simp only [execOp,eqGuard,hx,hy,binOp,sv,Op.stringOp,if_neg h2,Ly];simp
theorem R.eq {x y:Operand} {t t':TypeId} {k:IntKind} {a b:Int} (hx:ev l x=.int k a) (hy:ev l y=.int k b):ep P l w (.binOp .eql t x y t') ((.bool (a==b))):=fun d ty pos af=>by simp [execOp,eqGuard,hx,hy,binOp,Op.intCmp]
theorem R.ne {x y:Operand} {t t':TypeId} {k:IntKind} {a b:Int} (hx:ev l x=.int k a) (hy:ev l y=.int k b):ep P l w (.binOp .neq t x y t') ((.bool (a != b))):=fun d ty pos af=>by simp [execOp,eqGuard,hx,hy,binOp,Op.intCmp]
theorem R.lt {x y:Operand} {t t':TypeId} {k:IntKind} {a b:Int} (hx:ev l x=.int k a) (hy:ev l y=.int k b):ep P l w (.binOp .lss t x y t') ((.bool (decide (a < b)))):=fun d ty pos af=>by simp [execOp,eqGuard,hx,hy,binOp,Op.intCmp]
theorem R.le {x y:Operand} {t t':TypeId} {k:IntKind} {a b:Int} (hx:ev l x=.int k a) (hy:ev l y=.int k b):ep P l w (.binOp .leq t x y t') ((.bool (decide (a<=b)))):=fun d ty pos af=>by simp [execOp,eqGuard,hx,hy,binOp,Op.intCmp]
theorem R.gt' {x y:Operand} {t t':TypeId} {k:IntKind} {a b:Int} (hx:ev l x=.int k a) (hy:ev l y=.int k b):ep P l w (.binOp .gtr t x y t') ((.bool (decide (b < a)))):=fun d ty pos af=>by simp [execOp,eqGuard,hx,hy,binOp,Op.intCmp]
theorem R.ge {x y:Operand} {t t':TypeId} {k:IntKind} {a b:Int} (hx:ev l x=.int k a) (hy:ev l y=.int k b):ep P l w (.binOp .geq t x y t') ((.bool (decide (b<=a)))):=fun d ty pos af=>by simp [execOp,eqGuard,hx,hy,binOp,Op.intCmp]
theorem R.EB {x y:Operand} {t t':TypeId} {a b:ai} (hx:ev l x=sv a) (hy:ev l y=sv b):ep P l w (.binOp .eql t x y t') ((.bool (a==b))):=fun d ty pos af=>by simp only [execOp,eqGuard,hx,hy,binOp,sv,Op.stringOp,toList_mk];simp
theorem R.FN {x y:Operand} {t t':TypeId} {a b:ai} (hx:ev l x=sv a) (hy:ev l y=sv b):ep P l w (.binOp .neq t x y t') ((.bool (!(a==b)))):=fun d ty pos af=>by simp only [execOp,eqGuard,hx,hy,binOp,sv,Op.stringOp,toList_mk];simp
theorem R.not {x:Operand} {t:TypeId} {b:Bool} (hx:ev l x=.bool b):ep P l w (.unOp .not t x) ((.bool (!b))):=fun d ty pos af=>by simp [execOp,hx,Op.unary]
theorem R.sZ {x y:Operand} {t:TypeId} [hT:pB P t] {s:ai} {k:IntKind} {i:Nat} {c:UInt8} (hx:ev l x=sv s) (hy:ev l y=.int k i) (hc:s[i]?=some c):ep P l w (.index t x y) ((.int .u8 c.toNat)):=fun d ty pos af=>by
  have hg:(⟨s.toArray⟩:ByteArray)[i]?=some c:=by
   obtain ⟨hi,hv⟩:=List.getElem?_eq_some_iff.1 hc
   have oE:i < (⟨s.toArray⟩:ByteArray).size:=by rw [vu];exact hi
   rw [getElem?_pos (⟨s.toArray⟩:ByteArray) i oE];simp only [ByteArray.getElem_eq_getElem_data];simpa using hv
  simp [execOp,Instr.index,hx,hy,asIntOf,run_underlying hT.und,sv,hg]
theorem R.Qh {x:Operand} {t:TypeId} [hT:pB P t] {s:ai} {lo hi:Option Operand} {i j:Nat} (hx:ev l x=sv s)
  (ik:match lo with | some y=>∃ k,ev l y=.int k i | none=>i=0) (u7:match hi with | some y=>∃ k,ev l y=.int k j | none=>j=s.length)
  (h1:i<=j) (h2:j<=s.length):ep P l w (.slice t x lo hi none) ((sv ((s.take j).drop i))):=fun d ty pos af=>by
  have cR:=vu s
  cases lo <;> cases hi <;> simp only at ik u7
  ·subst ik;subst u7;simp [execOp,Instr.sliceAt,Instr.slice,Instr.sliceBounds,hx,sv,run_underlying hT.und,cR,extract_mk]
  ·obtain ⟨k,hk⟩:=u7;subst ik;simp [execOp,Instr.sliceAt,Instr.slice,Instr.sliceBounds,Instr.sliceBound,asIntOf,hx,hk,sv,run_underlying hT.und,cR,extract_mk,h2]
  ·obtain ⟨k,hk⟩:=ik;subst u7;simp [execOp,Instr.sliceAt,Instr.slice,Instr.sliceBounds,Instr.sliceBound,asIntOf,hx,hk,sv,run_underlying hT.und,cR,extract_mk,h1]
  ·obtain ⟨k,hk⟩:=ik;obtain ⟨k',lz⟩:=u7;simp [execOp,Instr.sliceAt,Instr.slice,Instr.sliceBounds,Instr.sliceBound,asIntOf,hx,hk,lz,sv,run_underlying hT.und,cR,extract_mk,h1,h2]
theorem R.xO {x y:Operand} {t e:TypeId} {k:Nat} [hT:mj P t e k] {b o n c:Nat} {kk:IntKind} {i:Nat} (hx:ev l x=.slice (some ⟨b,o,none⟩) n c) (hy:ev l y=.int kk i) (hi:i < n):ep P l w (.indexAddr t x y) ((.pointer (some ⟨b,o+i * k,none⟩))):=fun d ty pos af=>by
  simp [execOp,Instr.indexAt,hx,hy,asIntOf,run_underlying hT.und,hi,iJ hT.siz,pC]
theorem R.O1 {x:Operand} {s:TypeId} {i off k:Nat} {agg:Bool} [hT:dp P s i off k agg] {b o:Nat} (hx:ev l x=.pointer (some ⟨b,o,none⟩)):ep P l w (.fieldAddr s x i) ((.pointer (some ⟨b,o+off,none⟩))):=fun d ty pos af=>by
  obtain ⟨hT⟩:=hT;unfold JH at hT;split at hT
  ·rename_i fs hu;split at hT
   ·rename_i f hf;simp only [Bool.and_eq_true,beq_iff_eq,bne_iff_ne,ne_eq] at hT;obtain ⟨⟨⟨h1,h2⟩,h3⟩,h4⟩:=hT;split at h2
    ·rename_i x hq
     have hs:(P.info? f.type).map (·.size)=some k:=by rw [hq];simpa using h2
     simp [execOp,Instr.fieldAt,hx,run_underlying hu,hf,Instr.sureAddr,fieldPlace,iJ hs,h3,pC,h1]
    ·cases h2
   ·cases hT
  ·cases hT
theorem R.ld1 {x:Operand} {t:TypeId} [hT:Ty P t false 1] {a:Addr} {v:Value} (hx:ev l x=.pointer (some a)) (hv:w.cell? a=some v):ep P l w (.load t x) (v):=fun d ty pos af=>by simp [execOp,Instr.loadAt,hx,Instr.sureAddr,F4 hv]
theorem R.ldN {x:Operand} {t:TypeId} {k:Nat} [hT:Ty P t true k] {b o:Nat} {vs:List Value} (hx:ev l x=.pointer (some ⟨b,o,none⟩)) (hl:vs.length=k)
  (hv:∀ j v,vs[j]?=some v->w.cell? ⟨b,o+j,none⟩=some v):ep P l w (.load t x) ((.agg vs.toArray)):=fun d ty pos af=>by simp [execOp,Instr.loadAt,hx,Instr.sureAddr,nG hl hv]
end
def fG (H:Array Obj) (b o:Nat):Option Value :=
 match H[b]? with
 | some (.cells c _ _)=>c[o]?
 | _=>none
theorem fb (w:World) (b o:Nat):w.cell? ⟨b,o,none⟩=fG w.heap b o:=by
 unfold World.cell? fG
 cases w.heap[b]? with
 | none=>rfl
 | some x=>cases x <;> rfl
theorem Et {H:Array Obj} {b o:Nat} {v:Value} (h:fG H b o=some v):b < H.size:=by
 unfold fG at h
 cases hb:H[b]? with
 | none=>rw [hb] at h;cases h
 | some x=>exact (Array.getElem?_eq_some_iff.1 hb).1
theorem Ext.c {S:Nat->Prop} {w w':World} (hx:Ext S w w') {b o:Nat} {v:Value} (h:fG w.heap b o=some v) (hs:¬ S b):fG w'.heap b o=some v:=by
 unfold fG at *;rw [hx.block b (Et (H:=w.heap) (by unfold fG;exact h)) hs];exact h
theorem vN {H:Array Obj} {b o:Nat} {cs:Array Value} {E:TypeId} {fz:Nat × Nat} {v:Value} (hb:H[b]?=some (.cells cs E fz)) (hv:cs[o]?=some v):fG H b o=some v:=by
 unfold fG;rw [hb];exact hv
theorem Ext.drew {S:Nat->Prop} (w:World):Ext S w w.drew:=⟨rfl,rfl,rfl,Nat.le_refl _,fun _ _ _=>rfl⟩
theorem R.ld {P:Program} {l:List Value} {w:World} {x:Operand} {t:TypeId} [hT:Ty P t false 1] {b o:Nat} {v:Value} (hx:ev l x=.pointer (some ⟨b,o,none⟩)) (hv:fG w.heap b o=some v):ep P l w (.load t x) v:=R.ld1 hx (by rw [fb];exact hv)
theorem R.X8 {P:Program} {l:List Value} {w:World} {x:Operand} {t:TypeId} {k:Nat} [hT:Ty P t true k] {b o:Nat} {vs:List Value} (hx:ev l x=.pointer (some ⟨b,o,none⟩)) (hl:vs.length=k)
  (hv:∀ j v,vs[j]?=some v->fG w.heap b (o+j)=some v):ep P l w (.load t x) (.agg vs.toArray):=R.ldN hx hl (fun j v h=>by rw [fb];exact hv j v h)
section
variable {H:Array Obj} {b o:Nat} {v0 v1 v2 v3 v4 v5:Value}
end
class pb (P:Program) (t:TypeId) (z:outParam Value):Prop where
 is:(P.info? t).bind (·.zero)=some z
structure tL (w w':World) (b:Nat) (cs:Array Value) (E:TypeId):Prop where
 blk:w'.heap[b]?=some (.cells cs E (0,0))
 ext:Ext (·=b) w w'
 size:w'.heap.size=w.heap.size
def uE (cs:Array Value) (o:Nat):List Value->Array Value
 | []=>cs
 | v::r=>uE (cs.setIfInBounds o v) (o+1) r
def lD (vs:List Value):Bool:=vs.all (·.oneCell')
section
variable {P:Program} {w:World}
theorem Af {t:TypeId} {z:Value} [h:pb P t z]:(zeroValue t).run P w=.ok z w:=by
 obtain ⟨h⟩:=h
 cases hq:P.info? t with
 | none=>simp [hq] at h
 | some i=>simp [hq] at h;simp [zeroValue,typeInfo,hq,h]
theorem tL.refl {b:Nat} {cs:Array Value} {E:TypeId} (hb:w.heap[b]?=some (.cells cs E (0,0))):tL w w b cs E:=⟨hb,Ext.refl _,rfl⟩
theorem tL.trans {w1 w2:World} {b:Nat} {cs y5:Array Value} {E:TypeId} (h:tL w w1 b cs E) (k:tL w1 w2 b y5 E):tL w w2 b y5 E :=
 ⟨k.blk,h.ext.trans k.ext,k.size.trans h.size⟩
theorem tL.setCell {b o:Nat} {cs:Array Value} {E:TypeId} (hb:w.heap[b]?=some (.cells cs E (0,0))) (v:Value) :
  tL w (w.setCell ⟨b,o,none⟩ v) b (cs.setIfInBounds o v) E :=
 ⟨heap_setCell_same w b o cs E v hb,⟨rfl,rfl,rfl,by simp,fun k _ hs=>heap_setCell_other w _ k v hs⟩,by simp⟩
theorem vt {b o:Nat} {E:TypeId}:∀ (vs:List Value) (i:Nat) (w:World) (cs:Array Value),w.heap[b]?=some (.cells cs E (0,0))->o+i+vs.length<=cs.size->lD vs=true ->
  ∃ w',(storeCells ⟨b,o,none⟩ vs i).run P w=.ok () w'/\tL w w' b (uE cs (o+i) vs) E
 | [],i,w,cs,hb,_,_=>⟨w,by simp [storeCells],tL.refl hb⟩
 | v::r,i,w,cs,hb,hl,h1=>by
  simp only [lD,all_cons,Bool.and_eq_true] at h1;simp only [length_cons] at hl;have hs:=tL.setCell (w:=w) (o:=o+i) hb v;obtain ⟨w',hr,b7⟩:=vt (b:=b) (o:=o) (E:=E) r (i+1) _ _ hs.blk (by simp;omega) h1.2;refine ⟨w',?_,hs.trans (by simpa [uE,Nat.add_assoc] using b7)⟩;have hc:w.cell? ⟨b,o+i,none⟩=cs[o+i]?:=cell_of_row w b (o+i) cs E (0,0) hb;have dq:∃ u,w.cell? ⟨b,o+i,none⟩=some u:=⟨cs[o+i]'(by omega),by rw [hc];simp⟩;obtain ⟨u,hu⟩:=dq;have hf:w.frozen? ⟨b,o+i,none⟩=false:=frozen_of_row w b _ cs E hb
  have Zq:(store ((⟨b,o,none⟩:Addr).add i) v).run P w=.ok () (w.setCell ⟨b,o+i,none⟩ v):=by
   rw [pC]
   cases v <;> first | (simp [Value.oneCell'] at h1;done) | simp [store,Sem.run,hu,hf]
  simp only [storeCells,Sem.run_bind,Zq,Result.andThen_ok,hr]
theorem F5 {t:TypeId} {agg:Bool} {k:Nat} [hT:Ty P t agg k] {b o:Nat} {E:TypeId} {cs:Array Value} {v:Value} (hb:w.heap[b]?=some (.cells cs E (0,0)))
  (hl:v.cells.size=k) (ho:o+k<=cs.size) (h1:lD v.cells.toList=true) :
  ∃ w',(storeVar t ⟨b,o,none⟩ v).run P w=.ok () w'/\tL w w' b (uE cs o v.cells.toList) E:=by
 obtain ⟨w',hr,hs⟩:=vt (P:=P) (o:=o) v.cells.toList 0 w cs hb (by simp;omega) h1;refine ⟨w',?_,by simpa using hs⟩;simp [storeVar,iJ hT.siz,hl,hr]
end
def gK:List Value->Nat->List Value->List Value
 | cs,_,[]=>cs
 | cs,o,v::r=>gK (eS cs o v) (o+1) r
def pH (pl:Nat->Option (Nat × Nat)):List Value->List (Nat × Value)->Option (List Value)
 | cs,[]=>some cs
 | cs,(i,v)::r=>match pl i with
  | none=>none
  | some (o,k)=>if v.cells.size≠k || decide (o+v.cells.size > cs.length) then none else pH pl (gK cs o v.cells.toList) r
theorem Ai:∀ (vs:List Value) (cs:List Value) (o:Nat),(gK cs o vs).length=cs.length
 | [],_,_=>rfl
 | v::r,cs,o=>by
  rw [gK,Ai r];have:=congrArg Array.size (ye cs o v);simpa using this.symm
theorem AD:∀ (vs:List Value) (cs:List Value) (o n:Nat),
  (vs.zipIdx n).foldl (fun (cs:Array Value) (x:Value × Nat)=>cs.setIfInBounds (o+x.2) x.1) cs.toArray=(gK cs (o+n) vs).toArray
 | [],cs,o,n=>by simp [gK]
 | v::r,cs,o,n=>by
  simp only [List.zipIdx_cons,List.foldl_cons,ye,gK];rw [AD r];rfl
theorem xp (pl:Nat->Option (Nat × Nat)):∀ (parts:List (Nat × Value)) (cs:List Value),
  Instr.fill pl cs.toArray parts=(pH pl cs parts).map List.toArray
 | [],cs=>by simp [Instr.fill,pH]
 | (i,v)::r,cs=>by
  simp only [Instr.fill,pH]
  cases hp:pl i with
  | none=>rfl
  | some x =>
   obtain ⟨o,k⟩:=x;simp only [size_toArray];split
   ·rfl
   ·have h:(v.cells.zipIdx.foldl (fun (cs:Array Value) (x:Value × Nat)=>cs.setIfInBounds (o+x.2) x.1) cs.toArray)=(gK cs o v.cells.toList).toArray:=by
     have:=AD v.cells.toList cs o 0;rw [<-Array.foldl_toList,Array.toList_zipIdx];exact this
    have h2:=xp pl r (gK cs o v.cells.toList);rw [<-h2,<-h]
def RF (P:Program) (t:TypeId) (pl:List (Nat × Nat)):Bool :=
 match P.underlying t with
 | some (.struct fs)=>(fs.toList.map fun f=>(f.offset,(P.info? f.type).map (·.size)))==pl.map fun x=>(x.1,some x.2)
 | _=>false
class tK (P:Program) (t:TypeId) (pl:outParam (List (Nat × Nat))) (z:outParam (List Value)):Prop where
 is:RF P t pl=true
 zero:(P.info? t).bind (·.zero)=some (.agg z.toArray)
section
variable {P:Program} {w:World}
theorem Bq {fs:List Field}:∀ {pl:List (Nat × Nat)},(fs.map fun f=>(f.offset,(P.info? f.type).map (·.size)))=(pl.map fun x=>(x.1,some x.2)) ->
  (List.mapM (m:=Sem) (fun (f:Field)=>Functor.map (Prod.mk f.offset) (sizeOf f.type)) fs).run P w=.ok pl w:=by
 induction fs with
 | nil=>intro pl h;cases pl with | nil=>simp | cons=>simp at h
 | cons f fs ih =>
  intro pl h
  cases pl with
  | nil=>simp at h
  | cons x pl =>
   simp only [List.map_cons,List.cons.injEq,Prod.mk.injEq] at h;obtain ⟨⟨h1,h2⟩,h3⟩:=h;have:=ih h3;have h5:=iJ (w:=w) h2;simp [List.mapM_cons,Sem.run_bind,h5,this,h1]
theorem run_build {t:TypeId} {pl:List (Nat × Nat)} {z:List Value} [hT:tK P t pl z] {parts:List (Nat × Value)} {cs:List Value} (hf:pH (fun i=>pl[i]?) z parts=some cs) :
  (Instr.build t parts.toArray).run P w=.ok (.agg cs.toArray) w:=by
 obtain ⟨hi,hz⟩:=hT
 have hzz:(zeroValue t).run P w=.ok (.agg z.toArray) w:=by
  haveI:pb P t (.agg z.toArray):=⟨hz⟩
  exact Af
 unfold RF at hi;split at hi
 ·rename_i fs hu;have hm:=Bq (P:=P) (w:=w) (eq_of_beq hi)
  have kE:(Array.mapM (m:=Sem) (fun (f:Field)=>Functor.map (Prod.mk f.offset) (sizeOf f.type)) fs).run P w=.ok pl.toArray w:=by
   rw [Array.mapM_eq_mapM_toList];simp [hm]
  have jB:=xp (fun i=>pl[i]?) parts z;rw [hf] at jB;simp [Instr.build,Sem.run_bind,hzz,run_underlying hu,kE,Value.cells];simp [jB]
 ·cases hi
end
section
variable {P:Program} {Q:lx} {l:List Value} {w:World} {ops:Array Oper} {rest:List Oper} {d:Option Tmp} {ty:TypeId} {pos:String} {af:Array Edge}
theorem Br (t:TypeId) (v:Value):(newVar t v).run P w=.ok ⟨w.heap.size,0,none⟩ (w.alloc (.cells v.cells t)):=by
 rfl
theorem WL.alloc {t:TypeId} {z:Value} [hT:pb P t z] (h:∀ b w',uI w w' b (.cells z.cells t)->WL P ops Q rest (put l d (.pointer (some ⟨b,0,none⟩))) w') :
  WL P ops Q (⟨d,.alloc t,ty,pos,af,none⟩::rest) l w :=
 WL.val (w':=w.alloc (.cells z.cells t)) (by simp [execOp,Instr.alloc,Af (w:=w) (z:=z),Br]) (h _ _ (uI.of w _))
theorem WL.box {t:TypeId} {x:Operand} {v:Value} (hx:ev l x=v) (h:∀ b w',uI w w' b (.cells v.cells t)->WL P ops Q rest (put l d (.pointer (some ⟨b,0,none⟩))) w') :
  WL P ops Q (⟨d,.box t x,ty,pos,af,none⟩::rest) l w :=
 WL.val (w':=w.alloc (.cells v.cells t)) (by simp [execOp,Instr.box,Br,hx]) (h _ _ (uI.of w _))
theorem R.build {t:TypeId} {pl:List (Nat × Nat)} {z:List Value} [hT:tK P t pl z] {parts:List (Nat × Operand)} {cs:List Value}
  (hf:pH (fun i=>pl[i]?) z (parts.map fun x=>(x.1,ev l x.2))=some cs):ep P l w (.build t parts.toArray) (.agg cs.toArray):=fun d ty pos af=>by
  have hr:=run_build (P:=P) (w:=w) (t:=t) hf;simp only [execOp,map_toArray];simp [hr]
class o9 (P:Program) (t:TypeId) (e:outParam TypeId) (k:outParam Nat) (z:outParam (List Value)):Prop where
 und:P.underlying t=some (.slice e)
 siz:(P.info? e).map (·.size)=some k
 zero:(P.info? e).bind (·.zero)=some (if k=1 then z.headD undef else .agg z.toArray)
 zl:z.length=k
 pos:0 < k
 one:k=1->(z.headD undef).cells=#[z.headD undef]
theorem o9.cells {t e:TypeId} {k:Nat} {z:List Value} (h:o9 P t e k z):(if k=1 then z.headD undef else .agg z.toArray).cells=z.toArray:=by
 split
 ·rename_i hk;rw [h.one hk];have:=h.zl;rw [hk] at this
  match z,this with
  | [a],_=>rfl
 ·rfl
theorem WL.Cg {t e:TypeId} {k:Nat} {z:List Value} [hT:o9 P t e k z] {n:Nat} {parts:List (Nat × Operand)} {cs:List Value} (hn:n * k<=16777216)
  (hf:pH (fun i=>some (i * k,k)) ((List.range (n * k)).map fun j=>z.getD (j % k) undef) (parts.map fun x=>(x.1,ev l x.2))=some cs)
  (h:∀ b w',uI w w' b (.cells cs.toArray e)->WL P ops Q rest (put l d (.slice (some ⟨b,0,none⟩) n n)) w') :
  WL P ops Q (⟨d,.buildSlice t n parts.toArray,ty,pos,af,none⟩::rest) l w :=
 WL.val (w':=w.alloc (.cells cs.toArray e)) (by
  have hz:(zeroValue e).run P w=.ok (if k=1 then z.headD undef else .agg z.toArray) w:=by
   haveI:pb P e (if k=1 then z.headD undef else .agg z.toArray):=⟨hT.zero⟩
   exact Af
  have hc:=hT.cells;generalize (if k=1 then z.headD undef else .agg z.toArray:Value)=zv at hz hc;have jB:=xp (fun i=>some (i * k,k)) (parts.map fun x=>(x.1,ev l x.2)) ((List.range (n * k)).map fun j=>z.getD (j % k) undef);rw [hf] at jB
  have A1:¬ (16777216 < n * k):=by omega
  by_cases h0:n * k=0
  ·have h00:n=0:=by
    rcases Nat.mul_eq_zero.1 h0 with h | h
    ·exact h
    ·have:=hT.pos;omega
   subst h00;simp only [Nat.zero_mul,List.range_zero,map_nil] at jB;simp only [execOp,map_toArray];have rm:(Array.range 0)=#[]:=rfl;simp [Instr.buildSlice,run_underlying hT.und,iJ hT.siz,rm,jB];rfl
  ·have he:(Array.range (n * k)).map (fun j=>z.toArray[j % z.toArray.size]!)=((List.range (n * k)).map fun j=>z.getD (j % k) undef).toArray:=by
    apply Array.ext';simp only [Array.toList_map,Array.toList_range];apply List.map_congr_left;intro j _;have hk:=hT.pos
    have ao:j % k < z.length:=by rw [hT.zl];exact Nat.mod_lt _ hk
    rw [List.getD_eq_getElem?_getD,List.getElem?_eq_getElem ao];simp [hT.zl];rw [List.getElem?_eq_getElem ao];rfl
   rw [<-he] at jB;simp only [execOp,map_toArray];simp [Instr.buildSlice,run_underlying hT.und,iJ hT.siz,A1,h0,hz,hc];simp only [size_toArray] at jB;simp at jB;simp [jB]
   rfl) (h _ _ (uI.of w _))
theorem WL.st {x y:Operand} {t:TypeId} {agg:Bool} {k:Nat} [hT:Ty P t agg k] {b o:Nat} {E:TypeId} {cs:Array Value} {v:Value} (hx:ev l x=.pointer (some ⟨b,o,none⟩)) (hy:ev l y=v)
  (hb:w.heap[b]?=some (.cells cs E (0,0))) (hl:v.cells.size=k) (ho:o+k<=cs.size) (h1:lD v.cells.toList=true)
  (h:∀ w',tL w w' b (uE cs o v.cells.toList) E->WL P ops Q rest (put l d undef) w'):WL P ops Q (⟨d,.store t x y,ty,pos,af,none⟩::rest) l w:=by
 obtain ⟨w',hr,hs⟩:=F5 (P:=P) (t:=t) hb hl ho h1;exact WL.skp (w':=w') (by simp [execOp,Instr.storeAt,hx,hy,Instr.sureAddr,hr]) (h w' hs)
end
def Ey (P:Program) (f:FuncId):Bool :=
 match P.funcs[f]? with
 | some fn=>fn.name != "runtime.NumGoroutine" && fn.body.isSome
 | none=>false
class aI (P:Program) (f:FuncId):Prop where
 ok:Ey P f=true
def mi (P:Program) (f:FuncId) (args:List Value) (w:World) (R:Value->World->Prop):Prop :=
 Calls P f args.toArray w fun e w'=>∃ v,e=.returned v/\R v w'
theorem mi.mono {P:Program} {f:FuncId} {args:List Value} {w:World} {R R':Value->World->Prop} (h:mi P f args w R) (hr:∀ v w',R v w'->R' v w'):mi P f args w R' :=
 Calls.mono h fun _ _ ⟨v,he,r⟩=>⟨v,he,hr _ _ r⟩
theorem lH {P:Program} {w:World} {f:FuncId} [h:aI P f] (args:Array Value):(callFunc f args).run P w=.ok (.enter f args) w:=by
 obtain ⟨h⟩:=h;unfold Ey at h;split at h
 ·rename_i fn hf;simp only [Bool.and_eq_true,bne_iff_ne,ne_eq] at h
  have h2:fn.body.isNone=false:=by cases hb:fn.body <;> simp_all
  simp [callFunc,program,Sem.run,hf,h.1,h2];intro hn;simp [hn] at h2
 ·cases h
section
variable {P:Program} {Q:lx} {l:List Value} {w:World} {ops:Array Oper} {rest:List Oper} {d:Option Tmp} {ty:TypeId} {pos:String} {af:Array Edge}
theorem WL.calls {op:Op} {f:FuncId} {BL:List Value} (hr:(execOp (ev l) ⟨d,op,ty,pos,af,none⟩).run P w=.ok (.enter f BL.toArray) w) {R:Value->World->Prop}
  (hc:mi P f BL w R) (h:∀ v w',R v w'->WL P ops Q rest (put l d v) w'):WL P ops Q (⟨d,op,ty,pos,af,none⟩::rest) l w:=by
 refine wpList_plain rfl fun K hK=>?_
 simp only [Oper.wp,nq,hr,Oper.upon_enter];refine Calls.mono hc ?_;rintro e w' ⟨v,rfl,hv⟩;simp only [pd];exact hK _ _ (h v w' hv)
theorem WL.call {f:FuncId} [hf:aI P f] {args:List Operand} {mG:Array TypeId} {BL:List Value} (ha:args.map (ev l)=BL) {R:Value->World->Prop}
  (hc:mi P f BL w R) (h:∀ v w',R v w'->WL P ops Q rest (put l d v) w'):WL P ops Q (⟨d,.call ⟨.value (.func f),args.toArray,mG⟩,ty,pos,af,none⟩::rest) l w :=
 WL.calls (by simp [execOp,resolve,ev,Deferred.ofValue,invoke,lH,ha]) hc h
end
def FZ:Nat->List Value
 | 0=>[]
 | n+1=>undef::FZ n
def frame:List Value->Nat->List Value
 | [],n=>FZ n
 | a::r,n=>a::frame r (n - 1)
theorem VA (n:Nat):FZ n=List.replicate n undef:=by
 induction n with
 | zero=>rfl
 | succ n ih=>rw [FZ,ih];rfl
theorem O4 (args:List Value) (n:Nat):frame args n=args++List.replicate (n - args.length) undef:=by
 induction args generalizing n with
 | nil=>simp [frame,VA]
 | cons a r ih=>rw [frame,ih];simp [Nat.sub_sub,Nat.add_comm]
def QJ (P:Program) (fn:Func) (R:Value->World->Prop):lx
 | .normal,l,w | .ret,l,w=>∃ v,(results fn l.toArray).run P w=.ok v w/\R v w
 | _,_,_=>False
theorem mi.enter {P:Program} {f:FuncId} {fn:Func} {c:Code} {args:List Value} {w:World} {R:Value->World->Prop} {n:Nat} {l:List Value}
  (hf:P.funcs[f]?=some fn) (hn:fn.ntmps=n) (hb:fn.body=some c) (hl:frame args n=l) (h:W P c (QJ P fn R) l w):mi P f args w R:=by
 subst hl;refine calls_of_wp hf hb ?_
 have oD:(args.toArray++Array.replicate (fn.ntmps - args.toArray.size) undef)=(frame args n).toArray:=by
  simp [O4,hn]
 rw [oD];refine wp_mono h ?_;rintro e a w ⟨l,rfl,hq⟩
 cases e <;> simp only [QJ] at hq <;> simp only [bodyPost]
 ·obtain ⟨v,hr,hv⟩:=hq;exact ⟨rfl,v,hr,v,rfl,hv⟩
 ·obtain ⟨v,hr,hv⟩:=hq;exact ⟨rfl,v,hr,v,rfl,hv⟩
def TB (P:Program) (t e k gS:Nat):Bool :=
 (match P.underlying t with | some (.slice e')=>e'==e | _=>false) &&
 (match P.info? e with
  | some i=>(match i.zero with | some z=>z.cells.size==k | none=>false)&&i.size==k&&i.bytes==gS
  | none=>false)&&k != 0
class nZ (P:Program) (t:TypeId) (e:outParam TypeId) (k:outParam Nat) (gS:outParam Nat):Prop where
 is:TB P t e k gS=true
theorem nZ.parts {P:Program} {t e k gS:Nat} (h:nZ P t e k gS) :
  P.underlying t=some (.slice e)/\(∃ i z,P.info? e=some i/\i.zero=some z/\z.cells.size=k/\i.size=k/\i.bytes=gS)/\0 < k:=by
 obtain ⟨h⟩:=h;simp only [TB,Bool.and_eq_true,bne_iff_ne,ne_eq] at h;obtain ⟨⟨h1,h2⟩,h3⟩:=h;refine ⟨?_,?_,by omega⟩
 ·split at h1
  ·rename_i e' hu;rw [hu];simp at h1;rw [h1]
  ·cases h1
 ·split at h2
  ·rename_i i hi;simp only [Bool.and_eq_true,beq_iff_eq] at h2;obtain ⟨⟨h4,h5⟩,h6⟩:=h2;split at h4
   ·rename_i z hz;exact ⟨i,z,hi,hz,by simpa using h4,h5,h6⟩
   ·cases h4
  ·cases h2
abbrev gC (w:World) (base:Nat) (e k:Nat) (v:Value) (n:Nat) (xs:List Value):Prop:=w.ownsRow base e k v n xs
theorem gC.nil (w:World) (base e k:Nat):gC w base e k (.slice none 0 0) 0 []:=World.ownsRow_nil w base e k
theorem gC.ext {S:Nat->Prop} {w w':World} {base e k:Nat} {v:Value} {n:Nat} {xs:List Value} (h:gC w base e k v n xs) (hx:Ext S w w') (hs:∀ b,v.ownBlock=some b->¬ S b):gC w' base e k v n xs:=by
 obtain ⟨h1,h2⟩:=h;refine ⟨h1,?_⟩
 rcases h2 with h2 | ⟨g,cap,cur,rfl,hb,hg,r⟩
 ·exact .inl h2
 ·exact .inr ⟨g,cap,cur,rfl,hb,hx.blk hg (hs g rfl),r⟩
theorem gC.lt {w:World} {base e k:Nat} {v:Value} {n:Nat} {xs:List Value} (h:gC w base e k v n xs) {b:Nat} (hv:v.ownBlock=some b):base<=b/\b < w.heap.size:=by
 obtain ⟨h1,h2⟩:=h
 rcases h2 with ⟨rfl,_⟩ | ⟨g,cap,cur,rfl,hb,hg,r⟩
 ·cases hv
 ·simp only [Value.ownBlock,Option.some.injEq] at hv;subst hv;exact ⟨hb,rq hg⟩
theorem gC.shape {w:World} {base e k:Nat} {v:Value} {n:Nat} {xs:List Value} (h:gC w base e k v n xs):∃ a c,v=.slice a n c:=by
 obtain ⟨h1,h2⟩:=h
 rcases h2 with ⟨rfl,rfl⟩ | ⟨g,cap,cur,rfl,_⟩
 ·exact ⟨_,_,rfl⟩
 ·exact ⟨_,_,rfl⟩
theorem gC.base {w:World} {base QI e k:Nat} {v:Value} {n:Nat} {xs:List Value} (h:gC w base e k v n xs) (hb:QI<=base):gC w QI e k v n xs:=by
 obtain ⟨h1,h2⟩:=h;refine ⟨h1,?_⟩
 rcases h2 with h2 | ⟨g,cap,cur,rfl,bt,r⟩
 ·exact .inl h2
 ·exact .inr ⟨g,cap,cur,rfl,Nat.le_trans hb bt,r⟩
theorem gC.cells {w:World} {base e k:Nat} {v:Value} {n:Nat} {xs:List Value} (h:gC w base e k v n xs) :
  xs.length=n * k/\(xs≠[]->∃ b c,v=.slice (some ⟨b,0,none⟩) n c/\base<=b/\b < w.heap.size/\∀ j u,xs[j]?=some u->w.cell? ⟨b,j,none⟩=some u):=by
 obtain ⟨h1,h2⟩:=h;refine ⟨h1,fun bJ=>?_⟩
 rcases h2 with ⟨rfl,rfl⟩ | ⟨g,cap,cur,rfl,hb,hg,hn,hm,cR,ht⟩
 ·simp at h1;exact absurd h1 bJ
 ·refine ⟨g,cap,rfl,hb,rq hg,fun j u hj=>?_⟩;rw [cell_of_row w g j cur e (0,0) hg];rw [<-ht] at hj;rw [getElem?_take] at hj;split at hj
  ·simpa using hj
  ·cases hj
theorem gC.Vp {w w':World} {b e k n:Nat} {cs:List Value} (h:uI w w' b (.cells cs.toArray e)) (hl:cs.length=n * k) (hm:n<=maxLen):gC w' w.heap.size e k (.slice (some ⟨b,0,none⟩) n n) n cs :=
 ⟨hl,.inr ⟨b,n,cs.toArray,rfl,by rw [h.fresh];exact Nat.le_refl _,h.blk,Nat.le_refl _,hm,by simpa using hl,by simp [<-hl]⟩⟩
section
variable {P:Program} {Q:lx} {l:List Value} {w:World} {ops:Array Oper} {rest:List Oper} {d:Option Tmp} {ty:TypeId} {pos:String} {af:Array Edge}
theorem WL.app {s x:Operand} {t e k gS:Nat} [hT:nZ P t e k gS] {base n m c b o:Nat} {xs news:List Value} {v:Value} (hs:ev l s=v) (fa:gC w base e k v n xs)
  (hx:ev l x=.slice (some ⟨b,o,none⟩) m c) (hl:news.length=m * k) (Ra:∀ j u,news[j]?=some u->w.cell? ⟨b,o+j,none⟩=some u) (h1:lD news=true)
  (Ud:n+m<=9223372036854775807) (xC:(n+m) * gS<=140737488355328) (AU:base<=w.heap.size)
  (h:∀ v' w',gC w' base e k v' (n+m) (xs++news)->Ext (fun b=>v.ownBlock=some b) w w'->(∀ b,v'.ownBlock=some b->v.ownBlock=some b\/w.heap.size<=b)->(Ext ic w w'\/v'.ownBlock=v.ownBlock)->WL P ops Q rest (put l d v') w') :
  WL P ops Q (⟨d,.call ⟨.builtin .append,#[s,x],#[t,t]⟩,ty,pos,af,none⟩::rest) l w:=by
 obtain ⟨hu,⟨i,z,hi,hz,MX,cR,xB⟩,hk⟩:=hT.parts;obtain ⟨v',w',hr,h2,h3,h4⟩:=run_append_own (P:=P) w base t ty e i z k gS hu hi hz cR xB MX hk v n xs fa ⟨b,o,none⟩ m c news hl
  (fun j u hj=>by rw [pC];exact Ra j u hj) (by simpa [lD] using h1) (by simpa [maxLen] using Ud) xC AU
 have gI:Ext (fun b=>v.ownBlock=some b) w w':=⟨h3.os,h3.tape,h3.output,h3.size,fun j hj hn=>h3.block j hj fun he=>hn he.symm⟩
 have xG:∀ j u,news[j]?=some u->w.cell? ((⟨b,o,none⟩:Addr).add j)=some u:=fun j u hj=>by rw [pC];exact Ra j u hj
 have iM:news.length=m * i.size:=by rw [cR];exact hl
 have Pd:(n+m) * i.bytes<=140737488355328:=by rw [xB];exact xC
 refine WL.val (v:=v') (w':=w') (by simp [execOp,resolve,invoke,builtin,hs,hx,hr]) (h v' w' h2 gI ?_ ?_)
 ·intro b' bt;have A3:=fa.2
  rcases A3 with ⟨rfl,rfl⟩ | ⟨g,cap,cur,rfl,nA,hg,oH,wU,eM,A6⟩
  ·by_cases hm:m=0
   ·have:=h4.2 ⟨rfl,hm⟩;subst this;cases bt
   ·have dd:=run_append_nil (P:=P) w t ty e i z hu hi hz ⟨b,o,none⟩ m c news iM xG (by omega) (by omega) (by simp only [Nat.zero_add] at Pd;omega);rw [hr] at dd;cases dd;simp only [Value.ownBlock,Option.some.injEq] at bt;exact .inr (by omega)
  ·by_cases hroom:n+m<=cap
   ·have dd:=run_append_room (P:=P) w t ty e i hu hi g n cap cur hg ⟨b,o,none⟩ m c news iM xG (by simpa [lD] using h1) hroom
     (by rw [iM,eM,<-Nat.add_mul,cR];exact Nat.mul_le_mul_right _ hroom)
    rw [hr] at dd;cases dd;exact .inl bt
   ·have holds:∀ j u,xs[j]?=some u->w.cell? ((⟨g,0,none⟩:Addr).add j)=some u:=World.ownsRow.cells (g:=g) fa rfl;have dd:=run_append_grow (P:=P) w t ty e i z hu hi hz ⟨g,0,none⟩ n cap xs (by rw [cR];exact fa.1) holds ⟨b,o,none⟩ m c news iM xG (by omega) (by omega) (growslice_fits (by omega) Pd);rw [hr] at dd;cases dd;simp only [Value.ownBlock,Option.some.injEq] at bt;exact .inr (by omega)
 ·have A3:=fa.2
  rcases A3 with ⟨rfl,rfl⟩ | ⟨g,cap,cur,rfl,nA,hg,oH,wU,eM,A6⟩
  ·exact .inl (gI.mono fun k _ hk=>by cases hk)
  ·by_cases hroom:n+m<=cap
   ·have dd:=run_append_room (P:=P) w t ty e i hu hi g n cap cur hg ⟨b,o,none⟩ m c news iM xG (by simpa [lD] using h1) hroom
     (by rw [iM,eM,<-Nat.add_mul,cR];exact Nat.mul_le_mul_right _ hroom)
    rw [hr] at dd;cases dd;exact .inr rfl
   ·have holds:∀ j u,xs[j]?=some u->w.cell? ((⟨g,0,none⟩:Addr).add j)=some u:=World.ownsRow.cells (g:=g) fa rfl;have dd:=run_append_grow (P:=P) w t ty e i z hu hi hz ⟨g,0,none⟩ n cap xs (by rw [cR];exact fa.1) holds ⟨b,o,none⟩ m c news iM xG (by omega) (by omega) (growslice_fits (by omega) Pd);rw [hr] at dd;cases dd;exact .inl ⟨rfl,rfl,rfl,by simp,fun k hk _=>Below.heap_alloc _ _ _ (by simpa using hk)⟩
theorem WL.push {x s:Operand} {t e k gS:Nat} {z:List Value} [hT:nZ P t e k gS] [hZ:o9 P t e k z] {base n:Nat} {xs vs:List Value} {v val:Value} {d1:Tmp} {Oa:TypeId} {FW:String} {Lt:Array Edge}
  (hx:ev l x=val) (hs:∀ u,ev (put l (some d1) u) s=v) (hd:∀ u,ev (put l (some d1) u) (.tmp d1)=u) (hc:val.cells=vs.toArray) (hk:vs.length=k) (h1:lD vs=true)
  (fa:gC w base e k v n xs) (Ud:n+1<=9223372036854775807) (xC:(n+1) * gS<=140737488355328) (aak:k<=16777216) (AU:base<=w.heap.size)
  (h:∀ u v' w',gC w' base e k v' (n+1) (xs++vs)->Ext (fun b=>v.ownBlock=some b) w w'->(∀ b,v'.ownBlock=some b->v.ownBlock=some b\/w.heap.size<=b)->(Ext ic w w'\/v'.ownBlock=v.ownBlock)->WL P ops Q rest (put (put l (some d1) u) d v') w') :
  WL P ops Q (⟨some d1,.buildSlice t 1 #[(0,x)],Oa,FW,Lt,none⟩::⟨d,.call ⟨.builtin .append,#[s,.tmp d1],#[t,t]⟩,ty,pos,af,none⟩::rest) l w:=by
 have hkp:=hZ.pos
 have cR:val.cells.size=k:=by rw [hc];simpa using hk
 have b9:∀ (vs cs:List Value),vs.length=cs.length->gK cs 0 vs=vs:=by
  have gen:∀ (vs pre cs:List Value),vs.length=cs.length->gK (pre++cs) pre.length vs=pre++vs:=by
   intro vs
   induction vs with
   | nil=>intro pre cs hl;cases cs <;> simp_all [gK]
   | cons a r ih =>
    intro pre cs hl
    cases cs with
    | nil=>simp at hl
    | cons c cs =>
     have hu:eS (pre++c::cs) pre.length a=pre++a::cs:=by
      clear hl
      induction pre with
      | nil=>rfl
      | cons p pre ihp=>simp [eS,ihp]
     rw [gK,hu];have:=ih (pre++[a]) cs (by simpa using hl);simpa using this
  intro vs cs hl;exact gen vs [] cs hl
 have Wv:pH (fun i=>some (i * k,k)) ((List.range (1 * k)).map fun j=>z.getD (j % k) undef) ([((0:Nat),x)].map fun y=>(y.1,ev l y.2))=some vs:=by
  simp only [List.map_cons,map_nil,pH,hx,cR];simp [hk,hc];exact b9 vs _ (by simpa using hk)
 refine WL.Cg (n:=1) (parts:=[(0,x)]) (by omega) Wv ?_;intro b2 w2 bP;have JW:gC w2 base e k v n xs:=fa.ext bP.ext (fun _ _ h=>h);refine WL.app (base:=base) (v:=v) (n:=n) (xs:=xs) (news:=vs) (m:=1) (hs _) JW (hd _) (by omega) (fun j u hj=>?_) h1 Ud xC (Nat.le_trans AU bP.ext.size) ?_
 ·rw [Nat.zero_add];exact Lz bP.blk (by simpa using hj)
 ·intro v' w3 ho MW hb va;refine h _ v' w3 ho ((bP.ext.mono (fun _ _ h=>h.elim)).trans MW) (fun b bt=>?_) (va.imp (fun h5=>bP.ext.trans h5) id)
  rcases hb b bt with h4 | h4
  ·exact .inl h4
  ·exact .inr (Nat.le_trans bP.ext.size h4)
end
section
variable {P:Program} {ops:Array Oper} {S:Nat->Prop}
end
def rH:List Oper->Nat->Oper
 | [],_=>default
 | o::_,0=>o
 | _::r,n+1=>rH r n
theorem SP (ol:List Oper) (i:Nat) (o:Oper) (h:ol.toArray[i]?=some o):rH ol i=o:=by
 have h':ol[i]?=some o:=by simpa using h
 clear h
 induction ol generalizing i with
 | nil=>simp at h'
 | cons x r ih =>
  cases i with
  | zero=>simpa [rH] using h'
  | succ i=>exact ih i (by simpa using h')
section
variable {P:Program} {ops:Array Oper} {S:Nat->Prop} {Q:lx} {l:List Value} {w:World} {r:List (Oper × Bool)} {d:Option Tmp} {op:Op} {ty:TypeId} {pos:String} {af:Array Edge}
end
def KG:IntKind->IntKind->Bool
 | .i8,.i8 | .i16,.i16 | .i32,.i32 | .i64,.i64 | .u8,.u8 | .u16,.u16 | .u32,.u32 | .u64,.u64=>true
 | _,_=>false
theorem P8 {a b:IntKind} (h:KG a b=true):a=b:=by cases a <;> cases b <;> first | rfl | cases h
def JM (op:BinOp) (a b:Int):Option Value :=
 match op with
 | .eql=>some (.bool (a==b))
 | .neq=>some (.bool (a != b))
 | .lss=>some (.bool (decide (a < b)))
 | .leq=>some (.bool (decide (a<=b)))
 | .gtr=>some (.bool (decide (b < a)))
 | .geq=>some (.bool (decide (b<=a)))
 | _=>none
def JL (op:BinOp):Value->Value->Option Value
 | .int k a,.int k' b=>match KG k k' with
  | true=>JM op a b
  | false=>none
 | _,_=>none
def vV (c:Op) (x:Value):Option Value :=
 match c with
 | .nilCheck _=>match x with
  | .pointer (some a)=>some (.pointer (some a))
  | _=>none
 | .unOp .not _ _=>match x with
  | .bool b=>some (.bool (!b))
  | _=>none
 | .extract _ i=>match x with
  | .tuple vs=>vs[i]?
  | _=>none
 | _=>none
def go (ρ:Operand->Value) (o:Op):Option Value :=
 match o with
 | .move x=>some (ρ x)
 | .assign x=>some (ρ x)
 | .makeFunc fn f c=>some (.func fn (f.map ρ) (c.map ρ))
 | .binOp op _ x y _=>JL op (ρ x) (ρ y)
 | .nilCheck x=>vV o (ρ x)
 | .unOp _ _ x=>vV o (ρ x)
 | .extract x _=>vV o (ρ x)
 | _=>none
section
variable {P:Program} {l:List Value} {w:World}
theorem Su {o:Op} {v:Value} (h:go (ev l) o=some v):ep P l w o v:=by
 unfold go at h;split at h
 ·cases h;exact R.mv
 ·cases h;exact R.wL
 ·cases h;exact R.Ce
 ·rename_i op t x y t';unfold JL at h;split at h
  ·rename_i k a k' b hx hy;split at h
   ·rename_i hk;have:=P8 hk;subst this;unfold JM at h
    split at h <;> first | (cases h;done) | skip
    ·cases h;exact R.eq hx hy
    ·cases h;exact R.ne hx hy
    ·cases h;exact R.lt hx hy
    ·cases h;exact R.le hx hy
    ·cases h;exact R.gt' hx hy
    ·cases h;exact R.ge hx hy
   ·cases h
  ·cases h
 ·unfold vV at h;simp only at h;split at h
  ·rename_i a hx;cases h;exact R.Kq hx
  ·cases h
 ·rename_i op t x;unfold vV at h
  cases op <;> simp only at h <;> first | (cases h;done) | skip
  split at h
  ·rename_i b hx;cases h;exact R.not hx
  ·cases h
 ·unfold vV at h;simp only at h;split at h
  ·rename_i vs hx;exact R.extract hx h
  ·cases h
 ·cases h
theorem R.dx {x y:Operand} {t t':TypeId} {a b:Nat} (hx:ev l x=ii a) (hy:ev l y=ii b) (hb:a+b<=9223372036854775807):ep P l w (.binOp .add t x y t') (ii ((a+b:Nat):Int)):=R.add hx hy (by omega) (by omega)
theorem R.xf {x y:Operand} {t t':TypeId} {a:Nat} (hx:ev l x=ii a) (hy:ev l y=ii 1) (hb:a+1<=9223372036854775807):ep P l w (.binOp .add t x y t') (ii ((a+1:Nat):Int)):=R.add hx hy (by omega) (by omega)
theorem R.RC {c a b:Operand} {t:Bool} (hc:ev l c=.bool t) (ht:t=true):ep P l w (.pick c a b) (ev l a):=by
 subst ht;exact R.pick hc
theorem R.RB {c a b:Operand} {t:Bool} (hc:ev l c=.bool t) (ht:t=false):ep P l w (.pick c a b) (ev l b):=by
 subst ht;exact R.pick hc
end
section
variable {P:Program} {Q:lx} {l:List Value} {w:World} {ops:Array Oper} {rest:List Oper} {d:Option Tmp} {op:Op} {ty:TypeId} {pos:String} {af:Array Edge} {v:Value} {S:Nat->Prop} {r:List (Oper × Bool)}
end
def uq (ops:List Oper) (l:List Value):Option (Nat × Bool)->Bool
 | none=>true
 | some (j,b)=>match (rH ops j).dst with
  | some t=>match nth l t with
   | .bool c=>c==b
   | _=>false
  | none=>false
def jE {α:Type}:List α->Nat->Bool
 | [],_=>false
 | _::_,0=>true
 | _::r,n+1=>jE r n
theorem A9 {α:Type}:∀ {l:List α} {n:Nat},jE l n=true->n < l.length
 | [],_,h=>by cases h
 | _::_,0,_=>by simp
 | _::r,n+1,h=>by have:=A9 (l:=r) (n:=n) h;simp;omega
def Dj:Option (Nat × Bool)->List Oper->List Value->Bool
 | some (j,_),ops,l=>jE ops j&&(match (rH ops j).dst with
  | some t=>jE l t&&(match nth l t with | .bool _=>true | .tuple _=>true | _=>false)
  | none=>false)
 | none,_,_=>true
theorem IL (ol:List Oper) (j:Nat) (h:j < ol.length):ol.toArray[j]?=some (rH ol j):=by
 obtain ⟨o,ho⟩:∃ o,ol.toArray[j]?=some o:=⟨ol[j],by simp [h]⟩;rw [ho,SP ol j o ho]
theorem Vo (l:List Value) (t:Nat) (h:t < l.length):l[t]?=some (nth l t):=by
 induction l generalizing t with
 | nil=>simp at h
 | cons x l ih=>cases t with
  | zero=>rfl
  | succ t=>simpa [nth] using ih t (by simpa using h)
theorem vH {ops:Array Oper} {d:Option Tmp} {op:Op} {ty:TypeId} {pos:String} {af:Array Edge} {gd:Option (Nat × Bool)} {l:List Value} (hb:Dj gd ops.toList l=true) :
  Region.wanted ⟨d,op,ty,pos,af,gd⟩ (yielded ops (act l).tmps)=uq ops.toList l gd:=by
 cases gd with
 | none=>rfl
 | some x =>
  obtain ⟨j,b⟩:=x;simp only [Dj,Bool.and_eq_true] at hb;obtain ⟨h1,h2⟩:=hb;have hj:=IL ops.toList j (A9 h1);simp only [Array.toArray_toList] at hj;simp only [Region.wanted,uq,yielded,hj,Option.bind_some]
  cases hd:(rH ops.toList j).dst with
  | none=>rw [hd] at h2;cases h2
  | some t =>
   rw [hd] at h2;simp only [Bool.and_eq_true] at h2;have ht:=Vo l t (A9 h2.1);simp only [Option.bind_some,act]
   have A5:l.toArray[t]?=some (nth l t):=by simpa using ht
   rw [A5]
   cases hv:nth l t <;> rw [hv] at h2 <;> simp_all
def gv (ops:List Oper) (l:List Value) (gd:Nat × Bool):Option Bool :=
 match (rH ops gd.1).dst with
 | some t=>match nth l t with
  | .bool c=>some c
  | _=>none
 | none=>none
theorem Ol {ops:List Oper} {l:List Value} {gd:Nat × Bool} {c:Bool} (hv:gv ops l gd=some c) (hc:c=gd.2):uq ops l (some gd)=true:=by
 obtain ⟨j,b⟩:=gd;unfold gv at hv;unfold uq;simp only at hv hc |-;split at hv
 ·rename_i t ht;split at hv
  ·rename_i c' dq;cases hv;simp [hc]
  ·cases hv
 ·cases hv
theorem Oj {ops:List Oper} {l:List Value} {gd:Nat × Bool} {c:Bool} (hv:gv ops l gd=some c) (hc:c=!gd.2):uq ops l (some gd)=false:=by
 obtain ⟨j,b⟩:=gd;unfold gv at hv;unfold uq;simp only at hv hc |-;split at hv
 ·rename_i t ht;split at hv
  ·rename_i c' dq;cases hv;cases b <;> simp_all
  ·cases hv
 ·cases hv
theorem Om {ops:List Oper} {l:List Value} {gd:Nat × Bool} (hv:gv ops l gd=none):uq ops l (some gd)=false:=by
 obtain ⟨j,b⟩:=gd;unfold gv at hv;unfold uq;simp only at hv |-;split at hv
 ·rename_i t ht;split at hv
  ·cases hv
  ·first | rfl | (split <;> simp_all)
 ·rfl
section
variable {P:Program} {Q:lx} {l:List Value} {w:World} {ops:Array Oper} {rest:List Oper} {d:Option Tmp} {op:Op} {ty:TypeId} {pos:String} {af:Array Edge} {v:Value} {S:Nat->Prop} {r:List (Oper × Bool)} {gd:Nat × Bool}
theorem GT {c:Bool} (hb:Dj (some gd) ops.toList l=true) (hv:gv ops.toList l gd=some c) (hc:c=gd.2) (h:WL P ops Q (⟨d,op,ty,pos,af,none⟩::rest) l w):WL P ops Q (⟨d,op,ty,pos,af,some gd⟩::rest) l w:=WL.gt ((vH hb).trans (Ol hv hc)) h
theorem GF {c:Bool} (hb:Dj (some gd) ops.toList l=true) (hv:gv ops.toList l gd=some c) (hc:c=!gd.2) (h:WL P ops Q rest (put l d undef) w):WL P ops Q (⟨d,op,ty,pos,af,some gd⟩::rest) l w:=WL.gf ((vH hb).trans (Oj hv hc)) h
theorem GU (hb:Dj (some gd) ops.toList l=true) (hv:gv ops.toList l gd=none) (h:WL P ops Q rest (put l d undef) w):WL P ops Q (⟨d,op,ty,pos,af,some gd⟩::rest) l w:=WL.gf ((vH hb).trans (Om hv)) h
end
def Kw:Value->Bool
 | .agg _=>false
 | .tuple _=>false
 | _=>true
theorem wz {v:Value} (h:Kw v=true):v.cells=#[v]/\v.oneCell'=true:=by
 cases v <;> first | exact ⟨rfl,rfl⟩ | cases h
end Go.Xw
namespace Go.Xg
open Go.RowKit Go.Xw
inductive GV where
 | v (x:Value)
 | U
 | agg (cs:List GV)
 | tup (cs:List GV)
 | sl (k:Nat) (rows:List (List GV))
 | box (cs:List GV) (o:Nat)
 | loc (i o:Nat)
 | vec (i n:Nat)
 | vp (i n k idx off:Nat)
 | arr (i o n:Nat)
 | fn (f:Fn) (first cap:List GV)
abbrev Fz:=Nat->Nat->Option GV
inductive Bk where
 | no
 | fix (b:Nat)
 | gr (h:Value) (m:Nat)
def Bk.blk:Bk->Option Nat
 | .no=>none
 | .fix b=>some b
 | .gr h _=>h.ownBlock
abbrev Bt:=Nat->Bk
def cq (K K':Fz):Prop:=∀ b o g,K b o=some g->K' b o=some g
def su:Bk->Bk->Prop
 | .no,_=>True
 | .fix b,x=>x=.fix b
 | .gr h m,x=>∃ h' m',x=.gr h' m'/\m<=m'/\(m'=m->h'=h)
def cZ (β bV:Bt):Prop:=∀ i,su (β i) (bV i)
theorem cq.refl (K:Fz):cq K K:=fun _ _ _ h=>h
theorem cq.trans {a b c:Fz} (h:cq a b) (k:cq b c):cq a c:=fun x y z hz=>k x y z (h x y z hz)
theorem su.refl (x:Bk):su x x:=by cases x with | no=>trivial | fix b=>rfl | gr h m=>exact ⟨h,m,rfl,Nat.le_refl _,fun _=>rfl⟩
theorem su.trans {a b c:Bk} (h:su a b) (k:su b c):su a c:=by
 cases a with
 | no=>trivial
 | fix x=>cases h;exact k
 | gr x m =>
  obtain ⟨x',m',rfl,h1,h2⟩:=h;obtain ⟨x2,m2,rfl,h3,h4⟩:=k
  exact ⟨x2,m2,rfl,Nat.le_trans h1 h3,fun he=>by
   have:m'=m:=by omega
   rw [h4 (by omega),h2 this]⟩
theorem cZ.refl (β:Bt):cZ β β:=fun i=>su.refl _
theorem cZ.trans {a b c:Bt} (h:cZ a b) (k:cZ b c):cZ a c:=fun i=>(h i).trans (k i)
inductive Rel (K:Fz) (β:Bt):Value->GV->Prop
 | v (x:Value):Rel K β x (.v x)
 | U (x:Value):Rel K β x .U
 | agg (vs:List Value) (cs:List GV) (hl:vs.length=cs.length) (h:∀ (i:Nat) v g,vs[i]?=some v->cs[i]?=some g->Rel K β v g):Rel K β (.agg vs.toArray) (.agg cs)
 | tup (vs:List Value) (cs:List GV) (hl:vs.length=cs.length) (h:∀ (i:Nat) v g,vs[i]?=some v->cs[i]?=some g->Rel K β v g):Rel K β (.tuple vs.toArray) (.tup cs)
 | sl0 (a:Option Addr) (c k:Nat):Rel K β (.slice a 0 c) (.sl k [])
 | sl (b o c k:Nat) (rows:List (List GV)) (h:∀ (i:Nat) r,rows[i]?=some r->r.length=k/\∀ (j:Nat) g,r[j]?=some g->K b (o+i * k+j)=some g) (hc:rows.length<=c):Rel K β (.slice (some ⟨b,o,none⟩) rows.length c) (.sl k rows)
 | box (b o' o:Nat) (cs:List GV) (h:∀ (j:Nat) g,cs[j]?=some g->K b (o'+j)=some g):Rel K β (.pointer (some ⟨b,o'+o,none⟩)) (.box cs o)
 | loc (i o b:Nat) (h:β i=.fix b):Rel K β (.pointer (some ⟨b,o,none⟩)) (.loc i o)
 | vec (i n:Nat) (a:Option Addr) (c:Nat) (h:∃ h m,β i=.gr h m/\n<=m/\(m=n->.slice a n c=h)):Rel K β (.slice a n c) (.vec i n)
 | vp (i n k idx off:Nat) (x:Value) (h:∃ h m,β i=.gr h m/\n<=m/\(m=n->∃ b,h.ownBlock=some b/\x=.pointer (some ⟨b,idx * k+off,none⟩))):Rel K β x (.vp i n k idx off)
 | arr (i o n b c:Nat) (h:β i=.fix b):Rel K β (.slice (some ⟨b,o,none⟩) n c) (.arr i o n)
 | fn (f:Fn) (xs ys:List Value) (first cap:List GV) (hl:xs.length=first.length) (iM:ys.length=cap.length) (h:∀ (i:Nat) v g,xs[i]?=some v->first[i]?=some g->Rel K β v g)
   (h':∀ (i:Nat) v g,ys[i]?=some v->cap[i]?=some g->Rel K β v g):Rel K β (.func f xs.toArray ys.toArray) (.fn f first cap)
theorem Rel.mono {K K':Fz} {β bV:Bt} {x:Value} {g:GV} (h:Rel K β x g) (hk:cq K K') (hb:cZ β bV):Rel K' bV x g:=by
 induction h with
 | v x=>exact .v x
 | U x=>exact .U x
 | agg vs cs hl h ih=>exact .agg vs cs hl ih
 | tup vs cs hl h ih=>exact .tup vs cs hl ih
 | sl0 a c k=>exact .sl0 a c k
 | sl b o c k rows h hc=>exact .sl b o c k rows (fun i r hr=>⟨(h i r hr).1,fun j g hg=>hk _ _ _ ((h i r hr).2 j g hg)⟩) hc
 | box b o' o cs h=>exact .box b o' o cs fun j g hg=>hk _ _ _ (h j g hg)
 | loc i o b h=>exact .loc i o b (by have:=hb i;rw [h] at this;exact this)
 | vec i n a c h =>
  obtain ⟨h0,m,h1,h2,h3⟩:=h;have h4:=hb i;rw [h1] at h4;obtain ⟨h',m',h5,h6,h7⟩:=h4;exact .vec i n a c ⟨h',m',h5,by omega,fun he=>by rw [h7 (by omega)];exact h3 (by omega)⟩
 | vp i n k idx off x h =>
  obtain ⟨h0,m,h1,h2,h3⟩:=h;have h4:=hb i;rw [h1] at h4;obtain ⟨h',m',h5,h6,h7⟩:=h4;exact .vp i n k idx off x ⟨h',m',h5,by omega,fun he=>by rw [h7 (by omega)];exact h3 (by omega)⟩
 | arr i o n b c h=>exact .arr i o n b c (by have:=hb i;rw [h] at this;exact this)
 | fn f xs ys first cap hl iM h h' ih ih'=>exact .fn f xs ys first cap hl iM ih ih'
def GV.pc:GV->Bool
 | .v _=>true
 | .sl _ _=>true
 | .box _ _=>true
 | _=>false
theorem Rel.pc {K:Fz} {β bV:Bt} {x:Value} {g:GV} (h:Rel K β x g) (hp:g.pc=true):Rel K bV x g:=by
 cases h <;> first | (cases hp;done) | skip
 ·exact .v _
 ·exact .sl0 _ _ _
 ·rename_i h hc;exact .sl _ _ _ _ _ h hc
 ·rename_i h;exact .box _ _ _ _ h
def GV.one:GV->Bool
 | .v x=>Kw x
 | .U=>false
 | .agg _=>false
 | .tup _=>false
 | .vp _ _ _ _ _=>false
 | _=>true
theorem Rel.one {K:Fz} {β:Bt} {x:Value} {g:GV} (h:Rel K β x g) (ho:g.one=true):Kw x=true:=by
 cases h <;> first | exact ho | rfl | (cases ho;done)
abbrev bb (K:Fz) (β:Bt) (vs:List Value) (gs:List GV):Prop:=vs.length=gs.length/\∀ (i:Nat) v g,vs[i]?=some v->gs[i]?=some g->Rel K β v g
theorem bb.mono {K K':Fz} {β bV:Bt} {vs:List Value} {gs:List GV} (h:bb K β vs gs) (hk:cq K K') (hb:cZ β bV):bb K' bV vs gs:=⟨h.1,fun i v g h1 h2=>(h.2 i v g h1 h2).mono hk hb⟩
theorem bb.nil {K:Fz} {β:Bt}:bb K β [] []:=⟨rfl,fun i v g h=>by simp at h⟩
theorem bb.cons {K:Fz} {β:Bt} {v:Value} {g:GV} {vs:List Value} {gs:List GV} (h:Rel K β v g) (hs:bb K β vs gs):bb K β (v::vs) (g::gs):=by
 refine ⟨by simp [hs.1],fun i x y h1 h2=>?_⟩
 cases i with
 | zero=>cases h1;cases h2;exact h
 | succ i=>exact hs.2 i x y h1 h2
theorem bb.nL {K:Fz} {β:Bt} {v:Value} {g:GV} {vs:List Value} {gs:List GV} (h:bb K β (v::vs) (g::gs)):Rel K β v g/\bb K β vs gs :=
 ⟨h.2 0 v g rfl rfl,by simpa using h.1,fun i x y h1 h2=>h.2 (i+1) x y h1 h2⟩
theorem bb.app {K:Fz} {β:Bt} {vs us:List Value} {gs hs:List GV} (h:bb K β vs gs) (k:bb K β us hs):bb K β (vs++us) (gs++hs):=by
 induction vs generalizing gs with
 | nil =>
  have:gs=[]:=by have:=h.1;simp at this;exact eq_nil_of_length_eq_zero this.symm
  subst this;exact k
 | cons v vs ih =>
  cases gs with
  | nil=>have:=h.1;simp at this
  | cons g gs=>obtain ⟨h1,h2⟩:=h.nL;exact .cons h1 (ih h2)
theorem bb.at {K:Fz} {β:Bt} {vs:List Value} {gs:List GV} (h:bb K β vs gs) {i:Nat} {g:GV} (hg:gs[i]?=some g):∃ v,vs[i]?=some v/\Rel K β v g:=by
 have hi:i < vs.length:=by rw [h.1];exact (List.getElem?_eq_some_iff.1 hg).1
 exact ⟨vs[i],by simp [hi],h.2 i _ g (by simp [hi]) hg⟩
theorem bb.take {K:Fz} {β:Bt} {vs:List Value} {gs:List GV} (h:bb K β vs gs) (n:Nat):bb K β (vs.take n) (gs.take n):=by
 refine ⟨by simp [h.1],fun i x y h1 h2=>?_⟩;rw [getElem?_take] at h1 h2;split at h1
 ·rename_i hi;rw [if_pos hi] at h2;exact h.2 i x y h1 h2
 ·cases h1
theorem bb.drop {K:Fz} {β:Bt} {vs:List Value} {gs:List GV} (h:bb K β vs gs) (n:Nat):bb K β (vs.drop n) (gs.drop n):=by
 refine ⟨by simp [h.1],fun i x y h1 h2=>?_⟩;rw [getElem?_drop] at h1 h2;exact h.2 _ x y h1 h2
def cH:List GV->Nat->GV
 | [],_=>.U
 | g::_,0=>g
 | _::l,n+1=>cH l n
def bx:List GV->Nat->GV->List GV
 | [],_,_=>[]
 | _::l,0,g=>g::l
 | x::l,n+1,g=>x::bx l n g
def aV (l:List GV):Operand->GV
 | .tmp t=>cH l t
 | .const v=>.v v
 | .global g=>.v (.pointer (some ⟨g,0,none⟩))
 | .func f=>.v (.func (.func f) #[] #[])
def bu (l:List GV) (d:Option Tmp) (g:GV):List GV:=match d with | some d=>bx l d g | none=>l
inductive FR (K:Fz) (β:Bt):List GV->List Value->Prop
 | nil:FR K β [] []
 | cons {g:GV} {v:Value} {gs:List GV} {vs:List Value} (h:Rel K β v g) (t:FR K β gs vs):FR K β (g::gs) (v::vs)
theorem FR.mono {K K':Fz} {β bV:Bt} {gs:List GV} {vs:List Value} (h:FR K β gs vs) (hk:cq K K') (hb:cZ β bV):FR K' bV gs vs:=by
 induction h with
 | nil=>exact .nil
 | cons h t ih=>exact .cons (h.mono hk hb) ih
theorem FR.nth {K:Fz} {β:Bt} {gs:List GV} {vs:List Value} (h:FR K β gs vs) (t:Nat):Rel K β (nth vs t) (cH gs t):=by
 induction h generalizing t with
 | nil=>exact .U _
 | cons h _ ih=>cases t with | zero=>exact h | succ t=>exact ih t
theorem FR.ev {K:Fz} {β:Bt} {gs:List GV} {vs:List Value} (h:FR K β gs vs) (x:Operand):Rel K β (ev vs x) (aV gs x):=by
 cases x with
 | tmp t=>exact h.nth t
 | const v=>exact .v _
 | global g=>exact .v _
 | func f=>exact .v _
theorem FR.eS {K:Fz} {β:Bt} {gs:List GV} {vs:List Value} (h:FR K β gs vs) (t:Nat) {v:Value} {g:GV} (hv:Rel K β v g):FR K β (bx gs t g) (eS vs t v):=by
 induction h generalizing t with
 | nil=>exact .nil
 | cons h ht ih=>cases t with | zero=>exact .cons hv ht | succ t=>exact .cons h (ih t)
theorem FR.put {K:Fz} {β:Bt} {gs:List GV} {vs:List Value} (h:FR K β gs vs) (d:Option Tmp) {v:Value} {g:GV} (hv:Rel K β v g):FR K β (bu gs d g) (put vs d v):=by
 cases d with | none=>exact h | some d=>exact h.eS d hv
theorem FR.args {K:Fz} {β:Bt} {gs:List GV} {vs:List Value} (h:FR K β gs vs) (xs:List Operand):bb K β (xs.map (Xw.ev vs)) (xs.map (aV gs)):=by
 induction xs with
 | nil=>exact .nil
 | cons x xs ih=>exact .cons (h.ev x) ih
inductive Ob where
 | gone
 | box (E:TypeId) (cs:List GV)
 | vec (E:TypeId) (k fz:Nat) (rows:List (List GV))
 | vech (E:TypeId) (k:Nat) (rows:List (List GV)) (x:Value)
 | lost
def ir (K:Fz) (w:World):Prop:=∀ b o g,K b o=some g->g.pc=true/\∃ v,fG w.heap b o=some v/\Rel K (fun _=>.no) v g
def fy (k:Nat) (rows:List (List GV)):Prop:=∀ r∈rows,r.length=k/\∀ g∈r,g.pc=true
def km (K:Fz) (β:Bt) (w:World) (i:Nat):Ob->Prop
 | .gone=>β i=.no
 | .box E cs=>∃ b vs,β i=.fix b/\w.heap[b]?=some (.cells vs.toArray E (0,0))/\bb K β vs cs/\∀ o,K b o=none
 | .vec E k fz rows=>∃ h xs,β i=.gr h rows.length/\gC w 0 E k h rows.length xs/\bb K β xs rows.flatten/\fy k rows /\
   (∀ b,h.ownBlock=some b->(∀ o,fz * k<=o->K b o=none)/\∀ o g,o < fz * k->rows.flatten[o]?=some g->K b o=some g)/\fz<=rows.length
 | .vech E k rows x=>∃ xs,β i=.gr x rows.length/\gC w 0 E k x rows.length xs/\bb K β xs rows.flatten/\fy k rows/\∀ b,x.ownBlock=some b->∀ o,K b o=none
 | .lost=>∀ b,(β i).blk=some b->b < w.heap.size
def vo:List Int:=(List.range 20).map fun i=>((10 ^ i:Nat):Int)
def vy:List Int:=(List.range 256).map fun i=>if i=9\/i=10\/i=11\/i=12\/i=13\/i=32 then 1 else 0
def xd (m:Int):Fz:=fun b o =>
 if b=1 then (match o with | 0=>some (.v (.int .i64 m)) | _=>none)
 else if b=3 then vo[o]?.map fun z=>.v (.int .u64 z)
 else if b=0 then vy[o]?.map fun z=>.v (.int .u8 z)
 else none
def sA (w:World) (b n:Nat):Prop:=∃ cs E z,w.heap[b]?=some (.cells cs E z)/\cs.size=n
theorem sA.lt {w:World} {b n:Nat} (h:sA w b n):b < w.heap.size:=by obtain ⟨cs,E,z,h,_⟩:=h;exact rq h
structure fQ (K:Fz) (β:Bt) (w:World):Prop where
 le:∃ m,cq (xd m) K
 pow:sA w 3 20
 spc:sA w 0 256
 free:∀ i b,(β i).blk=some b->b≠3/\b≠0
theorem fQ.step {S:Nat->Prop} {K K':Fz} {β bV:Bt} {w w':World} (h:fQ K β w) (hx:Ext S w w') (hS:∀ b,S b->∃ i,(β i).blk=some b) (hk:cq K K') (qn:∀ i b,(bV i).blk=some b->(∃ j,(β j).blk=some b)\/w.heap.size<=b):fQ K' bV w':=by
 obtain ⟨⟨m,h1⟩,h2,h3,h4⟩:=h
 have key:∀ {b n:Nat},sA w b n->¬ S b->sA w' b n:=fun ⟨cs,E,z,a,e⟩ hn=>⟨cs,E,z,hx.blk a hn,e⟩
 refine ⟨⟨m,h1.trans hk⟩,key h2 (fun hs=>?_),key h3 (fun hs=>?_),fun i b hb=>?_⟩
 ·obtain ⟨i,hi⟩:=hS _ hs;exact (h4 i _ hi).1 rfl
 ·obtain ⟨i,hi⟩:=hS _ hs;exact (h4 i _ hi).2 rfl
 ·rcases qn i b hb with ⟨j,hj⟩ | hs
  ·exact h4 j b hj
  ·have:=h2.lt;have:=h3.lt;exact ⟨by omega,by omega⟩
structure Bs where
 w0:World
 foot:Nat->Prop
 K0:Fz
 β0:Bt
 m:Nat
structure Inv (B:Bs) (K:Fz) (β:Bt) (Γ:List Ob) (w:World):Prop where
 ext:Ext B.foot B.w0 w
 kle:cq B.K0 K
 ble:cZ B.β0 β
 loc:∀ i,B.m<=i->B.β0 i=.no
 fz:ir K w
 ob:∀ i x,Γ[i]?=some x->km K β w i x
 out:∀ i,Γ.length<=i->β i=.no
 dis:∀ i j b,(β i).blk=some b->(β j).blk=some b->i=j
 own:∀ i b,(β i).blk=some b->B.foot b\/B.w0.heap.size<=b
 kn:∀ b o g,K b o=some g->B.K0 b o=some g\/B.foot b\/B.w0.heap.size<=b
 tab:fQ K β w
section
variable {B:Bs} {K:Fz} {β:Bt} {Γ:List Ob} {w:World}
theorem km.lt {i:Nat} {x:Ob} (h:km K β w i x) {b:Nat} (hb:(β i).blk=some b):b < w.heap.size:=by
 cases x with
 | gone=>simp only [km] at h;rw [h] at hb;cases hb
 | box E cs =>
  obtain ⟨b',vs,h1,h2,_⟩:=h;rw [h1] at hb;cases hb;exact rq h2
 | vec E k fz rows =>
  obtain ⟨h',xs,h1,h2,_⟩:=h;rw [h1] at hb;exact (h2.lt hb).2
 | vech E k rows x =>
  obtain ⟨xs,h1,h2,_⟩:=h;rw [h1] at hb;exact (h2.lt hb).2
 | lost=>exact h b hb
theorem Inv.lt (h:Inv B K β Γ w) {i b:Nat} (hb:(β i).blk=some b):b < w.heap.size:=by
 by_cases hi:i < Γ.length
 ·exact (h.ob i Γ[i] (by simp [hi])).lt hb
 ·rw [h.out i (by omega)] at hb;cases hb
theorem ir.lt (h:ir K w) {b o:Nat} {g:GV} (hg:K b o=some g):b < w.heap.size:=by
 obtain ⟨_,v,hv,_⟩:=h b o g hg;exact Et hv
def blocks (β:Bt):Nat->Prop:=fun b=>∃ i,(β i).blk=some b
def cur (K:Fz) (β:Bt) (Γ:List Ob) (w:World):Bs:=⟨w,blocks β,K,β,Γ.length⟩
theorem Inv.here (h:Inv B K β Γ w):Inv (cur K β Γ w) K β Γ w :=
 ⟨Ext.refl w,cq.refl K,cZ.refl β,h.out,h.fz,h.ob,h.out,h.dis,fun i b hb=>.inl ⟨i,hb⟩,fun _ _ _ h=>.inl h,h.tab⟩
theorem Inv.NM {K':Fz} {bV:Bt} {aL Ye:List Ob} {w':World} (h:Inv B K β Γ w) (k:Inv (cur K β Ye w) K' bV aL w'):Inv B K' bV aL w' :=
 ⟨h.ext.step k.ext (fun j hj=>by obtain ⟨i,hi⟩:=hj;exact (h.own i j hi).symm),h.kle.trans k.kle,h.ble.trans k.ble,h.loc,k.fz,k.ob,k.out,k.dis,
  fun i b hb=>by
   rcases k.own i b hb with h1 | h1
   ·obtain ⟨j,hj⟩:=h1;exact h.own j b hj
   ·exact .inr (Nat.le_trans h.ext.size h1),
  fun b o g hg=>by
   rcases k.kn b o g hg with h1 | ⟨j,hj⟩ | h1
   ·exact h.kn b o g h1
   ·exact .inr (h.own j b hj)
   ·exact .inr (.inr (Nat.le_trans h.ext.size h1)),k.tab⟩
theorem km.ext {S:Nat->Prop} {K':Fz} {bV:Bt} {w':World} {i:Nat} {x:Ob} (h:km K β w i x) (hx:Ext S w w') (hs:∀ b,(β i).blk=some b->¬ S b) (hk:cq K K') (hb:cZ β bV)
  (he:bV i=β i) (hn:∀ b o,(β i).blk=some b->K b o=none->K' b o=none):km K' bV w' i x:=by
 cases x with
 | gone=>simp only [km] at h |-;rw [he,h]
 | box E cs =>
  obtain ⟨b,vs,h1,h2,h3,h4⟩:=h
  have eo:(β i).blk=some b:=by rw [h1];rfl
  exact ⟨b,vs,he.trans h1,hx.blk h2 (hs b eo),h3.mono hk hb,fun o=>hn b o eo (h4 o)⟩
 | vec E k fz rows =>
  obtain ⟨h',xs,h1,h2,h3,h4,h5,h6⟩:=h
  have eo:∀ b,h'.ownBlock=some b->(β i).blk=some b:=fun b hb=>by rw [h1];exact hb
  exact ⟨h',xs,he.trans h1,h2.ext hx (fun b bt=>hs b (eo b bt)),h3.mono hk hb,h4,fun b bt=>⟨fun o ho=>hn b o (eo b bt) ((h5 b bt).1 o ho),fun o g ho hg=>hk _ _ _ ((h5 b bt).2 o g ho hg)⟩,h6⟩
 | vech E k rows x =>
  obtain ⟨xs,h1,h2,h3,h4,h5⟩:=h
  have eo:∀ b,x.ownBlock=some b->(β i).blk=some b:=fun b hb=>by rw [h1];exact hb
  exact ⟨xs,he.trans h1,h2.ext hx (fun b bt=>hs b (eo b bt)),h3.mono hk hb,h4,fun b bt o=>hn b o (eo b bt) (h5 b bt o)⟩
 | lost=>exact fun b bt=>Nat.lt_of_lt_of_le (h b (by rw [<-he];exact bt)) hx.size
theorem ir.ext {S:Nat->Prop} {w':World} (h:ir K w) (hx:Ext S w w') (hs:∀ b o g,K b o=some g->¬ S b):ir K w':=fun b o g hg=>by
 obtain ⟨h1,v,hv,hr⟩:=h b o g hg;exact ⟨h1,v,hx.c hv (hs b o g hg),hr⟩
theorem Inv.same {w':World} (h:Inv B K β Γ w) (hx:Ext ic w w'):Inv B K β Γ w' :=
 ⟨h.ext.step hx (fun j hj=>hj.elim),h.kle,h.ble,h.loc,h.fz.ext hx (fun _ _ _ _ h=>h),fun i x hi=>(h.ob i x hi).ext hx (fun _ _ h=>h) (cq.refl K) (cZ.refl β) rfl (fun _ _ _ h=>h),h.out,h.dis,h.own,h.kn,h.tab.step hx (fun _ h=>h.elim) (cq.refl K) (fun i b h=>.inl ⟨i,h⟩)⟩
def fj (p:Nat->Bool) (β:Bt):Bt:=fun i=>match p i with
 | true=>β i
 | false=>.no
theorem iw {p:Nat->Bool} {β:Bt} {i:Nat} (h:p i=true):fj p β i=β i:=by simp [fj,h]
theorem sk {p:Nat->Bool} {β:Bt} {i:Nat} (h:p i=false):fj p β i=.no:=by simp [fj,h]
end
section
variable {B:Bs} {K:Fz} {β:Bt} {Γ:List Ob} {w:World}
def eC (β:Bt) (i:Nat) (x:Bk):Bt:=fun j=>if j=i then x else β j
theorem bm {i:Nat} {x:Bk}:eC β i x i=x:=by simp [eC]
theorem bE {i j:Nat} {x:Bk} (h:j≠i):eC β i x j=β j:=by simp [eC,h]
theorem lU {i j b:Nat} {x:Bk} (h:(eC β i x j).blk=some b):x.blk=some b\/(β j).blk=some b:=by
 by_cases hj:j=i
 ·subst hj;rw [bm] at h;exact .inl h
 ·rw [bE hj] at h;exact .inr h
theorem fV {i:Nat} {x:Bk} (h:su (β i) x):cZ β (eC β i x):=fun j=>by
 by_cases hj:j=i
 ·subst hj;rw [bm];exact h
 ·rw [bE hj];exact su.refl _
theorem bb.self {vs:List Value}:bb K β vs (vs.map .v):=⟨by simp,fun i v g h1 h2=>by
 rw [getElem?_map,h1] at h2;cases h2;exact .v _⟩
theorem Inv.add {w':World} {b:Nat} {vs:List Value} {cs:List GV} {E:TypeId} (h:Inv B K β Γ w) (hn:uI w w' b (.cells vs.toArray E)) (hr:bb K β vs cs) :
  Inv B K (eC β Γ.length (.fix b)) (Γ++[.box E cs]) w':=by
 have bN:β Γ.length=.no:=h.out _ (Nat.le_refl _);have hle:cZ β (eC β Γ.length (.fix b)):=fV (by rw [bN];trivial)
 have ao:∀ i b',(β i).blk=some b'->b'≠b:=fun i b' bt=>by have:=h.lt bt;have:=hn.fresh;omega
 have hK:∀ o,K b o=none:=fun o=>by
  cases hk:K b o with
  | none=>rfl
  | some g=>have:=h.fz.lt hk;have:=hn.fresh;omega
 refine ⟨h.ext.step hn.ext (fun j hj=>hj.elim),h.kle,h.ble.trans hle,h.loc,h.fz.ext hn.ext (fun _ _ _ _ h=>h),fun i x hi=>?_,fun i hi=>?_,fun i j b' hi hj=>?_,fun i b' hi=>?_,h.kn,h.tab.step hn.ext (fun _ h=>h.elim) (cq.refl K) (fun i b2 hi=>by rcases lU hi with h1 | h1;(· cases h1;exact .inr (by have:=hn.fresh;omega));exact .inl ⟨i,h1⟩)⟩
 ·by_cases u9:i < Γ.length
  ·rw [getElem?_append_left u9] at hi
   have bJ:i≠Γ.length:=by omega
   exact (h.ob i x hi).ext hn.ext (fun _ _ h=>h) (cq.refl K) hle (bE bJ) (fun _ _ _ h=>h)
  ·have:i=Γ.length:=by have:=(List.getElem?_eq_some_iff.1 hi).1;simp at this;omega
   subst this;simp at hi;subst hi;exact ⟨b,vs,bm,hn.blk,hr.mono (cq.refl K) hle,hK⟩
 ·simp at hi;rw [bE (by omega)];exact h.out i (by omega)
 ·by_cases h1:i=Γ.length <;> by_cases h2:j=Γ.length
  ·omega
  ·subst h1;rw [bm] at hi;rw [bE h2] at hj;cases hi;exact absurd rfl (ao j _ hj)
  ·subst h2;rw [bm] at hj;rw [bE h1] at hi;cases hj;exact absurd rfl (ao i _ hi)
  ·rw [bE h1] at hi;rw [bE h2] at hj;exact h.dis i j b' hi hj
 ·by_cases h1:i=Γ.length
  ·subst h1;rw [bm] at hi;cases hi;exact .inr (by have:=hn.fresh;have:=h.ext.size;omega)
  ·rw [bE h1] at hi;exact h.own i b' hi
theorem Inv.BJ {w':World} {E k:Nat} {x:Value} {xs:List Value} {rows:List (List GV)} (h:Inv B K β Γ w) (hx:Ext ic w w') (ho:gC w' 0 E k x rows.length xs) (hf:∀ b,x.ownBlock=some b->w.heap.size<=b)
  (hr:bb K β xs rows.flatten) (hk:fy k rows):Inv B K (eC β Γ.length (.gr x rows.length)) (Γ++[.vec E k 0 rows]) w':=by
 have bN:β Γ.length=.no:=h.out _ (Nat.le_refl _);have hle:cZ β (eC β Γ.length (.gr x rows.length)):=fV (by rw [bN];trivial)
 have ao:∀ i b',(β i).blk=some b'->x.ownBlock≠some b':=fun i b' bt he=>by have:=h.lt bt;have:=hf b' he;omega
 have hK:∀ b,x.ownBlock=some b->∀ o,K b o=none:=fun b hb o=>by
  cases hk:K b o with
  | none=>rfl
  | some g=>have:=h.fz.lt hk;have:=hf b hb;omega
 refine ⟨h.ext.step hx (fun j hj=>hj.elim),h.kle,h.ble.trans hle,h.loc,h.fz.ext hx (fun _ _ _ _ h=>h),fun i y hi=>?_,fun i hi=>?_,fun i j b' hi hj=>?_,fun i b' hi=>?_,h.kn,h.tab.step hx (fun _ h=>h.elim) (cq.refl K) (fun i b2 hi=>by rcases lU hi with h1 | h1;(· exact .inr (hf b2 h1));exact .inl ⟨i,h1⟩)⟩
 ·by_cases u9:i < Γ.length
  ·rw [getElem?_append_left u9] at hi
   have bJ:i≠Γ.length:=by omega
   exact (h.ob i y hi).ext hx (fun _ _ h=>h) (cq.refl K) hle (bE bJ) (fun _ _ _ h=>h)
  ·have:i=Γ.length:=by have:=(List.getElem?_eq_some_iff.1 hi).1;simp at this;omega
   subst this;simp at hi;subst hi;exact ⟨x,xs,bm,ho,hr.mono (cq.refl K) hle,hk,fun b hb=>⟨fun o _=>hK b hb o,fun o g ho _=>by omega⟩,Nat.zero_le _⟩
 ·simp at hi;rw [bE (by omega)];exact h.out i (by omega)
 ·by_cases h1:i=Γ.length <;> by_cases h2:j=Γ.length
  ·omega
  ·subst h1;rw [bm] at hi;rw [bE h2] at hj;exact absurd hi (ao j _ hj)
  ·subst h2;rw [bm] at hj;rw [bE h1] at hi;exact absurd hj (ao i _ hi)
  ·rw [bE h1] at hi;rw [bE h2] at hj;exact h.dis i j b' hi hj
 ·by_cases h1:i=Γ.length
  ·subst h1;rw [bm] at hi;exact .inr (Nat.le_trans h.ext.size (hf b' hi))
  ·rw [bE h1] at hi;exact h.own i b' hi
def kU (K:Fz) (b:Nat) (cs:List GV):Fz:=fun b' o=>if b'=b then cs[o]? else K b' o
theorem uK {b o:Nat} {cs:List GV} {g:GV} (h:cs[o]?=some g):kU K b cs b o=some g:=by simp [kU,h]
theorem Inv.tR {w':World} {b:Nat} {vs:List Value} {cs:List GV} {E:TypeId} (h:Inv B K β Γ w) (hn:uI w w' b (.cells vs.toArray E)) (hr:bb K β vs cs) (hp:∀ g∈cs,g.pc=true) :
  cq K (kU K b cs)/\Inv B (kU K b cs) β Γ w':=by
 have Ui:∀ o,K b o=none:=fun o=>by
  cases hk:K b o with
  | none=>rfl
  | some g=>have:=h.fz.lt hk;have:=hn.fresh;omega
 have hle:cq K (kU K b cs):=fun b' o g hg=>by
  by_cases hb:b'=b
  ·subst hb;rw [Ui] at hg;cases hg
  ·simp [kU,hb,hg]
 refine ⟨hle,h.ext.step hn.ext (fun j hj=>hj.elim),h.kle.trans hle,h.ble,h.loc,fun b' o g hg=>?_,fun i x hi=>?_,h.out,h.dis,h.own,fun b' o g hg=>?_,h.tab.step hn.ext (fun _ h=>h.elim) hle (fun i b2 h=>.inl ⟨i,h⟩)⟩
 ·by_cases hb:b'=b
  ·subst hb;simp [kU] at hg;obtain ⟨v,hv,eT⟩:=hr.at hg;have xK:=hp g (mem_of_getElem? hg);exact ⟨xK,v,vN hn.blk (by simpa using hv),(eT.mono hle (cZ.refl β)).pc xK⟩
  ·have jQ:K b' o=some g:=by simpa [kU,hb] using hg
   obtain ⟨h1,v,h2,h3⟩:=h.fz b' o g jQ;exact ⟨h1,v,hn.ext.c h2 (fun h=>h),h3.mono hle (cZ.refl _)⟩
 ·refine (h.ob i x hi).ext hn.ext (fun _ _ h=>h) hle (cZ.refl β) rfl (fun b' o hb hk=>?_)
  have:b'≠b:=by have:=h.lt hb;have:=hn.fresh;omega
  simp [kU,this,hk]
 ·by_cases hb:b'=b
  ·exact .inr (.inr (by have:=hn.fresh;have:=h.ext.size;omega))
  ·exact h.kn b' o g (by simpa [kU,hb] using hg)
theorem Inv.store {w':World} {i b:Nat} {E:TypeId} {cs y5:List GV} {VU:List Value} (h:Inv B K β Γ w) (hi:Γ[i]?=some (.box E cs)) (hb:β i=.fix b) (hs:tL w w' b VU.toArray E)
  (hr:bb K β VU y5):Inv B K β (Γ.set i (.box E y5)) w':=by
 obtain ⟨b0,vs,h1,h2,h3,h4⟩:=h.ob i _ hi;rw [hb] at h1;cases h1
 have eo:(β i).blk=some b:=by rw [hb];rfl
 refine ⟨h.ext.step hs.ext (fun j hj=>?_),h.kle,h.ble,h.loc,h.fz.ext hs.ext (fun b' o g hg he=>?_),fun j x hj=>?_,fun j hj=>h.out j (by simpa using hj),h.dis,h.own,h.kn,h.tab.step hs.ext (fun j hj=>⟨i,by subst hj;exact eo⟩) (cq.refl K) (fun i b2 h=>.inl ⟨i,h⟩)⟩
 ·subst hj;exact (h.own i _ eo).symm
 ·subst he;rw [h4] at hg;cases hg
 ·rw [getElem?_set] at hj;split at hj
  ·rename_i fq;split at hj
   ·cases hj;subst fq
    exact ⟨b,VU,hb,hs.blk,hr,h4⟩
   ·cases hj
  ·rename_i fq;refine (h.ob j x hj).ext hs.ext (fun b' bt he=>?_) (cq.refl K) (cZ.refl β) rfl (fun _ _ _ h=>h);subst he;exact fq (h.dis i j _ eo bt)
def AF (K:Fz) (x:Value) (n:Nat) (fl:List GV):Fz:=fun b o=>if x.ownBlock=some b/\o < n then fl[o]? else K b o
theorem yy {x:Value} {n b o:Nat} {fl:List GV} (h1:x.ownBlock=some b) (h2:o < n):AF K x n fl b o=fl[o]?:=by unfold AF;rw [if_pos ⟨h1,h2⟩]
theorem vW {x:Value} {n b o:Nat} {fl:List GV} (h:¬ (x.ownBlock=some b/\o < n)):AF K x n fl b o=K b o:=by unfold AF;rw [if_neg h]
theorem AG {x:Value} {n b o:Nat} {fl:List GV} {g:GV} (h:AF K x n fl b o=some g):(x.ownBlock=some b/\o < n/\fl[o]?=some g)\/(¬ (x.ownBlock=some b/\o < n)/\K b o=some g):=by
 by_cases hc:x.ownBlock=some b/\o < n
 ·rw [yy hc.1 hc.2] at h;exact .inl ⟨hc.1,hc.2,h⟩
 ·rw [vW hc] at h;exact .inr ⟨hc,h⟩
theorem Inv.grow {w':World} {i:Nat} {E k fz:Nat} {rows news:List (List GV)} {h0 x:Value} {xs ns:List Value} (h:Inv B K β Γ w) (hi:Γ[i]?=some (.vec E k fz rows)) (hb:β i=.gr h0 rows.length)
  (nC:gC w 0 E k h0 rows.length xs/\bb K β xs rows.flatten) (ho:gC w' 0 E k x (rows.length+news.length) (xs++ns)) (hx:Ext (fun b=>h0.ownBlock=some b) w w') (hf:∀ b,x.ownBlock=some b->h0.ownBlock=some b\/w.heap.size<=b)
  (hr:bb K β ns news.flatten) (hk:fy k news) (bJ:news≠[]) (ln:∀ b,h0.ownBlock=some b->∀ o v,o < fz * k->fG w.heap b o=some v->fG w'.heap b o=some v) :
  ∃ K',cq K K'/\cZ β (eC β i (.gr x (rows++news).length))/\Inv B K' (eC β i (.gr x (rows++news).length)) (Γ.set i (.vec E k fz (rows++news))) w':=by
 obtain ⟨sM,xs',h1,h2,h3,h4,h5,h6⟩:=h.ob i _ hi;rw [hb] at h1;cases h1;clear h2 h3
 have hlen:news.length≠0:=fun h=>bJ (eq_nil_of_length_eq_zero h)
 have hle:cZ β (eC β i (.gr x (rows++news).length)):=fV (by rw [hb];exact ⟨x,_,rfl,by simp,fun he=>by rw [List.length_append] at he;omega⟩)
 have xz:∀ b,h0.ownBlock=some b->(β i).blk=some b:=fun b bt=>by rw [hb];exact bt
 have JP:rows.flatten.length=rows.length * k:=by rw [<-nC.2.1];exact nC.1.1
 have aaj:fz * k<=rows.flatten.length:=by rw [JP];exact Nat.mul_le_mul_right k h6
 have C4:cq K (AF K x (fz * k) rows.flatten):=fun b o g hg=>by
  by_cases hc:x.ownBlock=some b/\o < fz * k
  ·rw [yy hc.1 hc.2]
   rcases hf b hc.1 with h7 | h7
   ·have Re:o < rows.flatten.length:=by omega
    have:=(h5 b h7).2 o rows.flatten[o] hc.2 (by simp [Re]);rw [this] at hg;cases hg;simp [Re]
   ·have:=h.fz.lt hg;omega
  ·rw [vW hc];exact hg
 refine ⟨AF K x (fz * k) rows.flatten,C4,hle,h.ext.step hx (fun j hj=>(h.own i j (xz j hj)).symm),h.kle.trans C4,h.ble.trans hle,h.loc,fun b o g hg=>?_,fun j y hj=>?_,fun j hj=>?_,fun j j' b hj lQ=>?_,fun j b hj=>?_,fun b o g hg=>?_,h.tab.step hx (fun j hj=>⟨i,xz j hj⟩) C4 (fun j b2 hi=>by rcases lU hi with h1 | h1;(· exact (hf b2 h1).imp (fun h2=>⟨i,xz b2 h2⟩) id);exact .inl ⟨j,h1⟩)⟩
 ·rcases AG hg with ⟨bt,zj,hg⟩ | ⟨hc,hg⟩
  ·have xK:g.pc=true:=by
    obtain ⟨r,gh,dd⟩:=List.mem_flatten.1 (mem_of_getElem? hg);exact (h4 r gh).2 g dd
   obtain ⟨v,hv,eT⟩:=nC.2.at hg;obtain ⟨b2,c,rn,_,_,jP⟩:=ho.cells.2 (by intro h0;have:xs=[]:=(List.append_eq_nil_iff.1 h0).1;rw [this] at hv;simp at hv)
   have eL:b2=b:=by rw [rn] at bt;cases bt;rfl
   subst eL;have ao:o < xs.length:=(List.getElem?_eq_some_iff.1 hv).1;refine ⟨xK,v,?_,(eT.mono C4 hle).pc xK⟩;rw [<-fb];exact jP o v (by rw [getElem?_append_left ao];exact hv)
  ·obtain ⟨hp,v,hv,eT⟩:=h.fz b o g hg;refine ⟨hp,v,?_,eT.mono C4 (cZ.refl _)⟩
   by_cases h7:h0.ownBlock=some b
   ·by_cases h8:o < fz * k
    ·exact ln b h7 o v h8 hv
    ·rw [(h5 b h7).1 o (by omega)] at hg;cases hg
   ·exact hx.c hv h7
 ·rw [getElem?_set] at hj;split at hj
  ·rename_i fq;split at hj
   ·cases hj;subst fq
    refine ⟨x,xs++ns,bm,by simpa using ho,?_,?_,fun b bt=>⟨fun o zj=>?_,fun o g zj hg=>?_⟩,by simp;omega⟩
    ·rw [List.flatten_append];exact (nC.2.mono C4 hle).app (hr.mono C4 hle)
    ·intro r MS
     rcases List.mem_append.1 MS with h7 | h7
     ·exact h4 r h7
     ·exact hk r h7
    ·rw [vW (by omega)]
     rcases hf b bt with h7 | h7
     ·exact (h5 b h7).1 o zj
     ·cases lz:K b o with
      | none=>rfl
      | some g=>have:=h.fz.lt lz;omega
    ·rw [yy bt zj];rw [List.flatten_append,getElem?_append_left (by omega)] at hg;exact hg
   ·cases hj
  ·rename_i fq;refine (h.ob j y hj).ext hx (fun b bt he=>?_) C4 hle (bE (fun he=>fq he.symm)) (fun b o bt lz=>?_)
   ·exact fq (h.dis i j b (xz b he) bt)
   ·rw [vW];exact lz;rintro ⟨h7,_⟩
    rcases hf b h7 with h8 | h8
    ·exact fq (h.dis i j b (xz b h8) bt)
    ·have:=h.lt bt;omega
 ·have lQ:Γ.length<=j:=by simpa using hj
  have:i < Γ.length:=(List.getElem?_eq_some_iff.1 hi).1;rw [bE (by omega)];exact h.out j lQ
 ·have key:∀ j b,j≠i->(β j).blk=some b->x.ownBlock≠some b:=fun j b Ff bt he=>by
   rcases hf b he with h7 | h7
   ·exact Ff (h.dis j i b bt (xz b h7))
   ·have:=h.lt bt;omega
  by_cases h1:j=i <;> by_cases h2:j'=i
  ·omega
  ·subst h1;rw [bm] at hj;rw [bE h2] at lQ;exact absurd hj (key j' b h2 lQ)
  ·subst h2;rw [bm] at lQ;rw [bE h1] at hj;exact absurd lQ (key j b h1 hj)
  ·rw [bE h1] at hj;rw [bE h2] at lQ;exact h.dis j j' b hj lQ
 ·by_cases h1:j=i
  ·subst h1;rw [bm] at hj
   rcases hf b hj with h7 | h7
   ·exact h.own j b (xz b h7)
   ·exact .inr (Nat.le_trans h.ext.size h7)
  ·rw [bE h1] at hj;exact h.own j b hj
 ·rcases AG hg with ⟨bt,_,_⟩ | ⟨_,hg⟩
  ·rcases hf b bt with h7 | h7
   ·exact .inr (h.own i b (xz b h7))
   ·exact .inr (.inr (Nat.le_trans h.ext.size h7))
  ·exact h.kn b o g hg
theorem Inv.jy {i E k fz:Nat} {rows:List (List GV)} (h:Inv B K β Γ w) (hi:Γ[i]?=some (.vec E k fz rows)) :
  ∃ K',cq K K'/\(∀ x b,β i=.gr x rows.length->x.ownBlock=some b->∀ (o:Nat) g,rows.flatten[o]?=some g->K' b o=some g)/\Inv B K' β (Γ.set i (.vec E k rows.length rows)) w:=by
 obtain ⟨x,xs,h1,h2,h3,h4,h5,h6⟩:=h.ob i _ hi
 have JP:rows.flatten.length=rows.length * k:=by rw [<-h3.1];exact h2.1
 have eo:∀ b,x.ownBlock=some b->(β i).blk=some b:=fun b hb=>by rw [h1];exact hb
 have hle:cq K (AF K x (rows.length * k) rows.flatten):=fun b o g hg=>by
  by_cases hc:x.ownBlock=some b/\o < rows.length * k
  ·rw [yy hc.1 hc.2]
   have ao:o < rows.flatten.length:=by omega
   by_cases ho:o < fz * k
   ·have:=(h5 b hc.1).2 o rows.flatten[o] ho (by simp [ao]);rw [this] at hg;cases hg;simp [ao]
   ·rw [(h5 b hc.1).1 o (by omega)] at hg;cases hg
  ·rw [vW hc];exact hg
 refine ⟨AF K x (rows.length * k) rows.flatten,hle,fun x' b Il hb o g hg=>?_,h.ext,h.kle.trans hle,h.ble,h.loc,fun b o g hg=>?_,fun j y hj=>?_,fun j hj=>h.out j (by simpa using hj),h.dis,h.own,fun b o g hg=>?_,h.tab.step (S:=ic) (Ext.refl w) (fun _ h=>h.elim) hle (fun i b2 h=>.inl ⟨i,h⟩)⟩
 ·rw [h1] at Il;cases Il;rw [yy hb (by rw [<-JP];exact (List.getElem?_eq_some_iff.1 hg).1)];exact hg
 ·rcases AG hg with ⟨bt,zj,hg⟩ | ⟨hc,hg⟩
  ·have xK:g.pc=true:=by
    obtain ⟨r,gh,dd⟩:=List.mem_flatten.1 (mem_of_getElem? hg);exact (h4 r gh).2 g dd
   obtain ⟨v,hv,eT⟩:=h3.at hg;obtain ⟨b2,c,rn,_,_,jP⟩:=h2.cells.2 (by intro h0;rw [h0] at hv;simp at hv)
   have eL:b2=b:=by rw [rn] at bt;cases bt;rfl
   subst eL;exact ⟨xK,v,by rw [<-fb];exact jP o v hv,(eT.mono hle (cZ.refl β)).pc xK⟩
  ·obtain ⟨h7,v,h8,h9⟩:=h.fz b o g hg;exact ⟨h7,v,h8,h9.mono hle (cZ.refl _)⟩
 ·rw [getElem?_set] at hj;split at hj
  ·rename_i fq;split at hj
   ·cases hj;subst fq
    refine ⟨x,xs,h1,h2,h3.mono hle (cZ.refl β),h4,fun b hb=>⟨fun o ho=>?_,fun o g ho hg=>?_⟩,Nat.le_refl _⟩
    ·rw [vW (by omega)];exact (h5 b hb).1 o (Nat.le_trans (Nat.mul_le_mul_right k h6) ho)
    ·rw [yy hb ho];exact hg
   ·cases hj
  ·rename_i fq;refine (h.ob j y hj).ext (Ext.refl w) (fun _ _ h=>h) hle (cZ.refl β) rfl (fun b o bt lz=>?_) (S:=ic);rw [vW];exact lz;rintro ⟨h7,_⟩;exact fq (h.dis i j b (eo b h7) bt)
 ·rcases AG hg with ⟨bt,_,_⟩ | ⟨_,hg⟩
  ·exact .inr (h.own i b (eo b bt))
  ·exact h.kn b o g hg
end
mutual
def dz (f:Nat->Nat):GV->GV
 | .v x=>.v x
 | .U=>.U
 | .agg cs=>.agg (lG f cs)
 | .tup cs=>.tup (lG f cs)
 | .sl k rows=>.sl k rows
 | .box cs o=>.box cs o
 | .loc i o=>.loc (f i) o
 | .vec i n=>.vec (f i) n
 | .vp i n k idx off=>.vp (f i) n k idx off
 | .arr i o n=>.arr (f i) o n
 | .fn g a c=>.fn g (lG f a) (lG f c)
def lG (f:Nat->Nat):List GV->List GV
 | []=>[]
 | g::gs=>dz f g::lG f gs
end
theorem jY (f:Nat->Nat) (gs:List GV):lG f gs=gs.map (dz f):=by
 induction gs with
 | nil=>rfl
 | cons g gs ih=>simp [lG,ih]
theorem Rel.Bz {K:Fz} {β:Bt} {f:Nat->Nat} {x:Value} {g:GV} (h:Rel K (fun j=>β (f j)) x g):Rel K β x (dz f g):=by
 induction h with
 | v x=>exact .v x
 | U x=>exact .U x
 | agg vs cs hl h ih =>
  rw [dz,jY]
  refine .agg vs _ (by simpa using hl) fun i v g h1 h2=>?_
  rw [getElem?_map] at h2
  cases hc:cs[i]? with
  | none=>rw [hc] at h2;cases h2
  | some c=>rw [hc] at h2;cases h2;exact ih i v c h1 hc
 | tup vs cs hl h ih =>
  rw [dz,jY]
  refine .tup vs _ (by simpa using hl) fun i v g h1 h2=>?_
  rw [getElem?_map] at h2
  cases hc:cs[i]? with
  | none=>rw [hc] at h2;cases h2
  | some c=>rw [hc] at h2;cases h2;exact ih i v c h1 hc
 | sl0 a c k=>exact .sl0 a c k
 | sl b o c k rows h hc=>exact .sl b o c k rows h hc
 | box b o' o cs h=>exact .box b o' o cs h
 | loc i o b h=>exact .loc _ o b h
 | vec i n a c h=>exact .vec _ n a c h
 | vp i n k idx off x h=>exact .vp _ n k idx off x h
 | arr i o n b c h=>exact .arr _ o n b c h
 | fn g xs ys first cap hl iM h h' ih ih' =>
  rw [dz,jY,jY];refine .fn g xs ys _ _ (by simpa using hl) (by simpa using iM) (fun i v g h1 h2=>?_) (fun i v g h1 h2=>?_)
  ·rw [getElem?_map] at h2
   cases hc:first[i]? with
   | none=>rw [hc] at h2;cases h2
   | some c=>rw [hc] at h2;cases h2;exact ih i v c h1 hc
  ·rw [getElem?_map] at h2
   cases hc:cap[i]? with
   | none=>rw [hc] at h2;cases h2
   | some c=>rw [hc] at h2;cases h2;exact ih' i v c h1 hc
theorem Rel.Bl {K:Fz} {β:Bt} {f:Nat->Nat} {x:Value} {g:GV} (h:Rel K β x (dz f g)):Rel K (fun j=>β (f j)) x g:=by
 generalize he:dz f g=g' at h
 induction h generalizing g with
 | v x =>
  cases g <;> simp only [dz] at he <;> first | (cases he;done) | skip
  cases he;exact .v x
 | U x =>
  cases g <;> simp only [dz] at he <;> first | (cases he;done) | skip
  exact .U x
 | agg vs cs hl h ih =>
  cases g <;> simp only [dz] at he <;> first | (cases he;done) | skip
  rename_i ds;rw [jY] at he;cases he
  exact .agg vs ds (by simpa using hl) fun i v g h1 h2=>ih i v (dz f g) h1 (by rw [getElem?_map,h2];rfl) rfl
 | tup vs cs hl h ih =>
  cases g <;> simp only [dz] at he <;> first | (cases he;done) | skip
  rename_i ds;rw [jY] at he;cases he
  exact .tup vs ds (by simpa using hl) fun i v g h1 h2=>ih i v (dz f g) h1 (by rw [getElem?_map,h2];rfl) rfl
 | sl0 a c k =>
  cases g <;> simp only [dz] at he <;> first | (cases he;done) | skip
  cases he;exact .sl0 a c _
 | sl b o c k rows h hc =>
  cases g <;> simp only [dz] at he <;> first | (cases he;done) | skip
  cases he;exact .sl b o c k rows h hc
 | box b o' o cs h =>
  cases g <;> simp only [dz] at he <;> first | (cases he;done) | skip
  cases he;exact .box b o' o cs h
 | loc i o b h =>
  cases g <;> simp only [dz] at he <;> first | (cases he;done) | skip
  cases he;exact .loc _ o b h
 | vec i n a c h =>
  cases g <;> simp only [dz] at he <;> first | (cases he;done) | skip
  cases he;exact .vec _ n a c h
 | vp i n k idx off x h =>
  cases g <;> simp only [dz] at he <;> first | (cases he;done) | skip
  cases he;exact .vp _ n k idx off x h
 | arr i o n b c h =>
  cases g <;> simp only [dz] at he <;> first | (cases he;done) | skip
  cases he;exact .arr _ o n b c h
 | fn g' xs ys first cap hl iM h h' ih ih' =>
  cases g <;> simp only [dz] at he <;> first | (cases he;done) | skip
  rename_i f' ds es;rw [jY,jY] at he;cases he;exact .fn _ xs ys ds es (by simpa using hl) (by simpa using iM) (fun i v g h1 h2=>ih i v (dz f g) h1 (by rw [getElem?_map,h2];rfl) rfl)
   (fun i v g h1 h2=>ih' i v (dz f g) h1 (by rw [getElem?_map,h2];rfl) rfl)
mutual
def GV.ok (p:Nat->Bool):GV->Bool
 | .loc i _=>p i
 | .vec i _=>p i
 | .vp i _ _ _ _=>p i
 | .arr i _ _=>p i
 | .agg cs=>Dw p cs
 | .tup cs=>Dw p cs
 | .fn _ a c=>Dw p a&&Dw p c
 | .v _=>true
 | .U=>true
 | .sl _ _=>true
 | .box _ _=>true
def Dw (p:Nat->Bool):List GV->Bool
 | []=>true
 | g::gs=>GV.ok p g&&Dw p gs
end
def below (n:Nat):Nat->Bool:=fun i=>Nat.blt i n
def other (n:Nat):Nat->Bool:=fun i=>!Nat.beq i n
abbrev GV.lt (n:Nat) (g:GV):Bool:=g.ok (below n)
theorem vl {p:Nat->Bool} {gs:List GV} (h:Dw p gs=true) {g:GV} (hg:g∈gs):g.ok p=true:=by
 induction gs with
 | nil=>cases hg
 | cons x gs ih =>
  simp only [Dw,Bool.and_eq_true] at h
  rcases List.mem_cons.1 hg with rfl | hg
  ·exact h.1
  ·exact ih h.2 hg
theorem Rel.res {K:Fz} {β:Bt} {p:Nat->Bool} {x:Value} {g:GV} (h:Rel K β x g) (hl:g.ok p=true):Rel K (fj p β) x g:=by
 induction h with
 | v x=>exact .v x
 | U x=>exact .U x
 | agg vs cs pL h ih=>simp only [GV.ok] at hl;exact .agg vs cs pL fun i v g h1 h2=>ih i v g h1 h2 (vl hl (mem_of_getElem? h2))
 | tup vs cs pL h ih=>simp only [GV.ok] at hl;exact .tup vs cs pL fun i v g h1 h2=>ih i v g h1 h2 (vl hl (mem_of_getElem? h2))
 | sl0 a c k=>exact .sl0 a c k
 | sl b o c k rows h hc=>exact .sl b o c k rows h hc
 | box b o' o cs h=>exact .box b o' o cs h
 | loc i o b h=>simp only [GV.ok] at hl;exact .loc _ o b (by rw [iw hl,h])
 | vec i m a c h=>simp only [GV.ok] at hl;exact .vec _ m a c (by rw [iw hl];exact h)
 | vp i m k idx off x h=>simp only [GV.ok] at hl;exact .vp _ m k idx off x (by rw [iw hl];exact h)
 | arr i o m b c h=>simp only [GV.ok] at hl;exact .arr _ o m b c (by rw [iw hl,h])
 | fn g' xs ys first cap pL iM h h' ih ih' =>
  simp only [GV.ok,Bool.and_eq_true] at hl
  exact .fn _ xs ys first cap pL iM (fun i v g h1 h2=>ih i v g h1 h2 (vl hl.1 (mem_of_getElem? h2))) (fun i v g h1 h2=>ih' i v g h1 h2 (vl hl.2 (mem_of_getElem? h2)))
def Ob.ok (p:Nat->Bool):Ob->Bool
 | .box _ cs=>Dw p cs
 | _=>true
def Ob.dz (f:Nat->Nat):Ob->Ob
 | .box E cs=>.box E (lG f cs)
 | x=>x
def Dv (p:Nat->Bool):List Ob->Bool
 | []=>true
 | x::r=>Ob.ok p x&&Dv p r
abbrev zt (n:Nat) (Γ:List Ob):Bool:=Dv (below n) Γ
theorem IP {p:Nat->Bool} {gs:List Ob} (h:Dv p gs=true) {g:Ob} (hg:g∈gs):g.ok p=true:=by
 induction gs with
 | nil=>cases hg
 | cons x gs ih =>
  simp only [Dv,Bool.and_eq_true] at h
  rcases List.mem_cons.1 hg with rfl | hg
  ·exact h.1
  ·exact ih h.2 hg
def KC (p:Nat->Bool):List GV->List GV
 | []=>[]
 | g::gs=>(match GV.ok p g with | true=>g | false=>.U)::KC p gs
abbrev TI (n:Nat) (fr:List GV):List GV:=KC (below n) fr
theorem FR.res {K:Fz} {β:Bt} {p:Nat->Bool} {fr:List GV} {l:List Value} (h:FR K β fr l):FR K (fj p β) (KC p fr) l:=by
 induction h with
 | nil=>exact .nil
 | cons h t ih =>
  rw [KC];split
  ·rename_i hl;exact .cons (h.res hl) ih
  ·exact .cons (.U _) ih
theorem km.res {K:Fz} {β:Bt} {w:World} {p:Nat->Bool} {i:Nat} {x:Ob} (h:km K β w i x) (hi:p i=true) (hx:x.ok p=true):km K (fj p β) w i x:=by
 cases x with
 | gone=>simp only [km] at h |-;rw [iw hi,h]
 | box E cs =>
  obtain ⟨b,vs,h1,h2,h3,h4⟩:=h;exact ⟨b,vs,by rw [iw hi,h1],h2,⟨h3.1,fun i v g h5 h6=>(h3.2 i v g h5 h6).res (vl hx (mem_of_getElem? h6))⟩,h4⟩
 | vec E k fz rows =>
  obtain ⟨h0,xs,h1,h2,h3,h4,h5⟩:=h;refine ⟨h0,xs,by rw [iw hi,h1],h2,⟨h3.1,fun i v g h6 h7=>(h3.2 i v g h6 h7).pc ?_⟩,h4,h5⟩;obtain ⟨r,gh,dd⟩:=List.mem_flatten.1 (mem_of_getElem? h7);exact (h4 r gh).2 g dd
 | vech E k rows x =>
  obtain ⟨xs,h1,h2,h3,h4,h5⟩:=h;refine ⟨xs,by rw [iw hi,h1],h2,⟨h3.1,fun i v g h6 h7=>(h3.2 i v g h6 h7).pc ?_⟩,h4,h5⟩;obtain ⟨r,gh,dd⟩:=List.mem_flatten.1 (mem_of_getElem? h7);exact (h4 r gh).2 g dd
 | lost=>exact fun b hb=>h b (by rw [iw hi] at hb;exact hb)
section
variable {B:Bs} {K:Fz} {β:Bt} {Γ:List Ob} {w:World}
theorem yk {n i:Nat} (h:i < n):below n i=true:=by simpa [below] using h
theorem yj {n i:Nat} (h:n<=i):below n i=false:=by
 cases hb:below n i with
 | false=>rfl
 | true=>simp [below] at hb;omega
theorem Inv.cut {n:Nat} (h:Inv B K β Γ w) (hm:B.m<=n) (hl:zt n (Γ.take n)=true):Inv B K (fj (below n) β) (Γ.take n) w:=by
 have dA:∀ i b,(fj (below n) β i).blk=some b->(β i).blk=some b:=fun i b hi=>by
  simp only [fj] at hi;split at hi
  ·exact hi
  ·cases hi
 refine ⟨h.ext,h.kle,fun i=>?_,h.loc,h.fz,fun i x hi=>?_,fun i hi=>?_,fun i j b hi hj=>h.dis i j b (dA i b hi) (dA j b hj),fun i b hi=>h.own i b (dA i b hi),h.kn,h.tab.step (S:=ic) (Ext.refl w) (fun _ h=>h.elim) (cq.refl K) (fun i b2 h2=>.inl ⟨i,dA i b2 h2⟩)⟩
 ·by_cases gV:i < n
  ·rw [iw (yk gV)];exact h.ble i
  ·rw [h.loc i (by omega)];trivial
 ·have ao:=IP hl (mem_of_getElem? hi);rw [getElem?_take] at hi;split at hi
  ·rename_i gV;exact (h.ob i x hi).res (yk gV) ao
  ·cases hi
 ·by_cases gV:i < n
  ·rw [iw (yk gV)];exact h.out i (by simp at hi;omega)
  ·exact sk (yj (by omega))
theorem IU {i:Nat}:other i i=false:=by simp [other]
theorem vm {i j:Nat} (h:j≠i):other i j=true:=by
 cases hb:Nat.beq j i with
 | false=>simp [other,hb]
 | true=>exact absurd (Nat.eq_of_beq_eq_true hb) h
theorem Inv.freeze {i:Nat} {E:TypeId} {cs:List GV} (h:Inv B K β Γ w) (hi:Γ[i]?=some (.box E cs)) (hp:∀ g∈cs,g.pc=true) (bN:Dv (other i) (Γ.set i .gone)=true) (hm:B.m<=i) :
  ∃ K',cq K K'/\(∀ b,β i=.fix b->∀ (j:Nat) g,cs[j]?=some g->K' b j=some g)/\Inv B K' (fj (other i) β) (Γ.set i .gone) w:=by
 obtain ⟨b,vs,h1,h2,h3,h4⟩:=h.ob i _ hi
 have eo:(β i).blk=some b:=by rw [h1];rfl
 have hle:cq K (kU K b cs):=fun b' o g hg=>by
  by_cases hb:b'=b
  ·subst hb;rw [h4] at hg;cases hg
  ·simp [kU,hb,hg]
 have dA:∀ j b',(fj (other i) β j).blk=some b'->j≠i/\(β j).blk=some b':=fun j b' hj=>by
  by_cases oa:j=i
  ·subst oa;rw [sk IU] at hj;cases hj
  ·rw [iw (vm oa)] at hj;exact ⟨oa,hj⟩
 refine ⟨kU K b cs,hle,fun b' bt j g hg=>?_,h.ext,h.kle.trans hle,fun j=>?_,h.loc,fun b' o g hg=>?_,fun j x hj=>?_,fun j hj=>?_,fun j j' b' hj lQ=>?_,fun j b' hj=>?_,fun b' o g hg=>?_,h.tab.step (S:=ic) (Ext.refl w) (fun _ h=>h.elim) hle (fun i b2 h2=>.inl ⟨i,(dA i b2 h2).2⟩)⟩
 ·rw [h1] at bt;cases bt;exact uK hg
 ·by_cases oa:j=i
  ·subst oa;rw [h.loc j hm];trivial
  ·rw [iw (vm oa)];exact h.ble j
 ·by_cases hb:b'=b
  ·subst hb;simp [kU] at hg;obtain ⟨v,hv,eT⟩:=h3.at hg;have xK:=hp g (mem_of_getElem? hg);exact ⟨xK,v,vN h2 (by simpa using hv),(eT.mono hle (cZ.refl β)).pc xK⟩
  ·have jQ:K b' o=some g:=by simpa [kU,hb] using hg
   obtain ⟨h5,v,h6,h7⟩:=h.fz b' o g jQ;exact ⟨h5,v,h6,h7.mono hle (cZ.refl _)⟩
 ·have eH:=IP bN (mem_of_getElem? hj);rw [getElem?_set] at hj;split at hj
  ·rename_i fq;split at hj
   ·cases hj;subst fq;exact sk IU
   ·cases hj
  ·rename_i fq;refine km.res ?_ (vm (fun he=>fq he.symm)) eH;refine (h.ob j x hj).ext (Ext.refl w) (fun _ _ h=>h) hle (cZ.refl β) rfl (fun b' o bt hk=>?_) (S:=ic)
   have:b'≠b:=fun he=>by subst he;exact fq (h.dis i j _ eo bt)
   simp [kU,this,hk]
 ·have:i < Γ.length:=(List.getElem?_eq_some_iff.1 hi).1
  have lQ:Γ.length<=j:=by simpa using hj
  rw [iw (vm (by omega))];exact h.out j lQ
 ·exact h.dis j j' b' (dA j b' hj).2 (dA j' b' lQ).2
 ·exact h.own j b' (dA j b' hj).2
 ·by_cases hb:b'=b
  ·subst hb;exact .inr (h.own i _ eo)
  ·exact h.kn b' o g (by simpa [kU,hb] using hg)
end
abbrev dP:=Exit->List GV->List Ob->Prop
def gl (B:Bs) (Q:dP):lx:=fun e l w=>∃ K β fr Γ,Inv B K β Γ w/\FR K β fr l/\Q e fr Γ
def GW (P:Program) (m:Nat) (c:Code) (Q:dP) (fr:List GV) (Γ:List Ob):Prop :=
 ∀ B K β w l,B.m=m->Inv B K β Γ w->FR K β fr l->W P c (gl B Q) l w
def GL (P:Program) (m:Nat) (ops:Array Oper) (Q:dP) (rest:List Oper) (fr:List GV) (Γ:List Ob):Prop :=
 ∀ B K β w l,B.m=m->Inv B K β Γ w->FR K β fr l->WL P ops (gl B Q) rest l w
def aY (next:List GV->List Ob->Prop) (Q:dP):dP
 | .normal,fr,Γ=>next fr Γ
 | e,fr,Γ=>Q e fr Γ
def ba (id:Nat) (Q:dP):dP
 | .exit wZ,fr,Γ=>if wZ=id then Q .normal fr Γ else Q (.exit wZ) fr Γ
 | e,fr,Γ=>Q e fr Γ
def Wk (m:Nat) (fr:List GV) (Γ:List Ob) (cj:List GV) (aL:List Ob):Prop :=
 ∀ B K β w l,B.m=m->Inv B K β Γ w->FR K β fr l->∃ K' bV,Inv B K' bV aL w/\FR K' bV cj l
section
variable {P:Program} {m:Nat} {Q:dP} {fr:List GV} {Γ:List Ob} {ops:Array Oper} {rest:List Oper}
theorem Wk.trans {cj Mk:List GV} {aL DM:List Ob} (h:Wk m fr Γ cj aL) (k:Wk m cj aL Mk DM):Wk m fr Γ Mk DM:=fun B K β w l hm hI hF=>by
 obtain ⟨K',bV,bj,uY⟩:=h B K β w l hm hI hF;exact k B K' bV w l hm bj uY
theorem GW.wk {c:Code} {cj:List GV} {aL:List Ob} (h:Wk m fr Γ cj aL) (k:GW P m c Q cj aL):GW P m c Q fr Γ:=fun B K β w l hm hI hF=>by
 obtain ⟨K',bV,bj,uY⟩:=h B K β w l hm hI hF;exact k B K' bV w l hm bj uY
theorem GL.wk {cj:List GV} {aL:List Ob} (h:Wk m fr Γ cj aL) (k:GL P m ops Q rest cj aL):GL P m ops Q rest fr Γ:=fun B K β w l hm hI hF=>by
 obtain ⟨K',bV,bj,uY⟩:=h B K β w l hm hI hF;exact k B K' bV w l hm bj uY
theorem Wk.cut {n:Nat} (hm:m<=n) (hl:zt n (Γ.take n)=true):Wk m fr Γ (TI n fr) (Γ.take n):=fun B K β w l hB hI hF =>
 ⟨K,fj (below n) β,hI.cut (by omega) hl,hF.res⟩
inductive sB:List GV->List GV->Prop
 | nil:sB [] []
 | U {f:GV} {fs gs:List GV} (h:sB fs gs):sB (f::fs) (.U::gs)
 | eq {f g:GV} {fs gs:List GV} (he:f=g) (h:sB fs gs):sB (f::fs) (g::gs)
theorem FR.ZM {K:Fz} {β:Bt} {l:List Value} {fr cj:List GV} (h:sB fr cj) (k:FR K β fr l):FR K β cj l:=by
 induction h generalizing l with
 | nil=>exact k
 | U h ih=>cases k with | cons k1 k2=>exact .cons (.U _) (ih k2)
 | eq he h ih=>subst he;cases k with | cons k1 k2=>exact .cons k1 (ih k2)
theorem Wk.aD {cj:List GV} (h:sB fr cj):Wk m fr Γ cj Γ:=fun B K β w l _ hI hF=>⟨K,β,hI,hF.ZM h⟩
theorem GW.seq {x y:Code} (h:GW P m x (aY (GW P m y Q) Q) fr Γ):GW P m (.seq x y) Q fr Γ:=fun B K β w l hm hI hF=>by
 refine W.seq (W.mono (h B K β w l hm hI hF) ?_);rintro e l w ⟨K,β,fr,Γ,hI,hF,hq⟩
 cases e with
 | normal=>exact hq B K β w l hm hI hF
 | _=>exact ⟨K,β,fr,Γ,hI,hF,hq⟩
theorem GW.skip (h:Q .normal fr Γ):GW P m .skip Q fr Γ:=fun B K β w l hm hI hF=>W.skip ⟨K,β,fr,Γ,hI,hF,h⟩
theorem GW.exit {n:Nat} (h:Q (.exit n) fr Γ):GW P m (.exit n) Q fr Γ:=fun B K β w l hm hI hF=>W.exit ⟨K,β,fr,Γ,hI,hF,h⟩
theorem GW.ret (h:Q .ret fr Γ):GW P m .ret Q fr Γ:=fun B K β w l hm hI hF=>W.ret ⟨K,β,fr,Γ,hI,hF,h⟩
theorem GW.block {id:Nat} {c:Code} (h:GW P m c (ba id Q) fr Γ):GW P m (.block id c) Q fr Γ:=fun B K β w l hm hI hF=>by
 refine W.block (W.mono (h B K β w l hm hI hF) ?_);rintro e l w ⟨K,β,fr,Γ,hI,hF,hq⟩
 cases e with
 | exit wZ =>
  simp only [ba] at hq;simp only [U9];split <;> rename_i hh
  ·rw [if_pos hh] at hq;exact ⟨K,β,fr,Γ,hI,hF,hq⟩
  ·rw [if_neg hh] at hq;exact ⟨K,β,fr,Γ,hI,hF,hq⟩
 | _=>exact ⟨K,β,fr,Γ,hI,hF,hq⟩
theorem Rel.eD {K:Fz} {β:Bt} {x a:Value} (h:Rel K β x (.v a)):x=a:=by cases h;rfl
theorem FR.gy {K:Fz} {β:Bt} {l:List Value} {x:Operand} {a:Value} (h:FR K β fr l) (hx:aV fr x=.v a):Xw.ev l x=a:=Rel.eD (by rw [<-hx];exact h.ev x)
theorem GW.cond {c:Operand} {x y:Code} {t:Bool} (hc:aV fr c=.v (.bool t)) (ht:t=true->GW P m x Q fr Γ) (hf:t=false->GW P m y Q fr Γ):GW P m (.cond c x y) Q fr Γ:=fun B K β w l hm hI hF =>
 W.cond (hF.gy hc) (fun h=>ht h B K β w l hm hI hF) (fun h=>hf h B K β w l hm hI hF)
theorem Ll {c:Operand} {x y:Code} {t:Bool} (hc:aV fr c=.v (.bool t)) (ht:t=true) (h:GW P m x Q fr Γ):GW P m (.cond c x y) Q fr Γ:=GW.cond hc (fun _=>h) (fun h2=>by rw [ht] at h2;cases h2)
theorem Lk {c:Operand} {x y:Code} {t:Bool} (hc:aV fr c=.v (.bool t)) (ht:t=false) (h:GW P m y Q fr Γ):GW P m (.cond c x y) Q fr Γ:=GW.cond hc (fun h2=>by rw [ht] at h2;cases h2) (fun _=>h)
theorem GW.mono {c:Code} {Q':dP} (h:GW P m c Q fr Γ) (hq:∀ e fr Γ,Q e fr Γ->Q' e fr Γ):GW P m c Q' fr Γ:=fun B K β w l hm hI hF =>
 W.mono (h B K β w l hm hI hF) fun e l w ⟨K,β,fr,Γ,hI,hF,q⟩=>⟨K,β,fr,Γ,hI,hF,hq _ _ _ q⟩
def yU (m:Nat) (K:List GV->List Ob->Prop) (fr:List GV) (Γ:List Ob):Prop:=∃ cj aL,Wk m fr Γ cj aL/\K cj aL
theorem GW.loop {c:Code} {α:Type} (μ:α->Nat) (I:α->List GV->List Ob->Prop) (x:α) (h0:yU m (I x) fr Γ)
  (round:∀ x fr Γ,I x fr Γ->GW P m c (aY (fun cj aL=>∃ y,yU m (I y) cj aL/\μ y < μ x) Q) fr Γ):GW P m (.loop c) Q fr Γ:=fun B K β w l hm hI hF=>by
 obtain ⟨cj,aL,hw,h0⟩:=h0;obtain ⟨K',bV,bj,uY⟩:=hw B K β w l hm hI hF;refine W.loop μ (fun x l w=>∃ K β fr Γ,Inv B K β Γ w/\FR K β fr l/\I x fr Γ) x ⟨K',bV,cj,aL,bj,uY,h0⟩ ?_;rintro x l w ⟨K,β,fr,Γ,hI,hF,hi⟩;refine W.mono (round x fr Γ hi B K β w l hm hI hF) ?_;rintro e l w ⟨K,β,fr,Γ,hI,hF,hq⟩
 cases e with
 | normal =>
  obtain ⟨y,⟨cj,aL,hw,hy⟩,ao⟩:=hq;obtain ⟨K',bV,bj,uY⟩:=hw B K β w l hm hI hF;exact ⟨y,⟨K',bV,cj,aL,bj,uY,hy⟩,ao⟩
 | _=>exact ⟨K,β,fr,Γ,hI,hF,hq⟩
theorem GW.region {id:Nat} {ol:List Oper} (h:GL P m ol.toArray Q ol fr Γ):GW P m (.region id ol.toArray false) Q fr Γ:=fun B K β w l hm hI hF=>W.region (h B K β w l hm hI hF)
theorem GL.nil (h:Q .normal fr Γ):GL P m ops Q [] fr Γ:=fun B K β w l hm hI hF=>WL.nil ⟨K,β,fr,Γ,hI,hF,h⟩
end
section
variable {next:List GV->List Ob->Prop} {Q:dP} {fr:List GV} {Γ:List Ob} {id wZ:Nat}
theorem be (h:next fr Γ):aY next Q .normal fr Γ:=h
theorem ER (h:Q (.exit id) fr Γ):aY next Q (.exit id) fr Γ:=h
theorem mr (h:Q .ret fr Γ):aY next Q .ret fr Γ:=h
theorem gE (h:Q .normal fr Γ):ba id Q .normal fr Γ:=h
theorem mq (h:Q .ret fr Γ):ba id Q .ret fr Γ:=h
theorem H5 (h:Q .normal fr Γ):ba id Q (.exit id) fr Γ:=by simpa [ba] using h
theorem Ss (hn:(wZ==id)=false) (h:Q (.exit wZ) fr Γ):ba id Q (.exit wZ) fr Γ:=by
 simp only [ba];rw [if_neg (by simpa using hn)];exact h
end
def GC (P:Program) (f:FuncId) (gs:List GV) (Γ:List Ob) (R:GV->List Ob->Prop):Prop :=
 ∀ B K β w vs,B.m=Γ.length->Inv B K β Γ w->bb K β vs gs->mi P f vs w fun v w'=>∃ K' bV g aL,Inv B K' bV aL w'/\Rel K' bV v g/\R g aL
abbrev GF (P:Program) (f:FuncId) (gs:List GV) (Γ:List Ob) (g:GV) (aL:List Ob):Prop:=GC P f gs Γ fun x Δ=>x=g/\Δ=aL
theorem GC.mono {P:Program} {f:FuncId} {gs:List GV} {Γ:List Ob} {R R':GV->List Ob->Prop} (h:GC P f gs Γ R) (hr:∀ g Γ,R g Γ->R' g Γ):GC P f gs Γ R':=fun B K β w vs hm hI hF =>
 (h B K β w vs hm hI hF).mono fun v w' ⟨K',bV,g,aL,h1,h2,h3⟩=>⟨K',bV,g,aL,h1,h2,hr _ _ h3⟩
def EP:Nat->List GV
 | 0=>[]
 | n+1=>.v undef::EP n
def xt:List GV->Nat->List GV
 | [],n=>EP n
 | a::r,n=>a::xt r (n - 1)
theorem FR.FZ {K:Fz} {β:Bt} (n:Nat):FR K β (EP n) (FZ n):=by
 induction n with
 | zero=>exact .nil
 | succ n ih=>exact .cons (.v _) ih
theorem FR.frame {K:Fz} {β:Bt} {vs:List Value} {gs:List GV} (h:bb K β vs gs) (n:Nat):FR K β (xt gs n) (frame vs n):=by
 induction gs generalizing vs n with
 | nil =>
  have:vs=[]:=eq_nil_of_length_eq_zero h.1;subst this;exact FR.FZ n
 | cons g gs ih =>
  cases vs with
  | nil=>have:=h.1;simp at this
  | cons v vs=>obtain ⟨h1,h2⟩:=h.nL;exact .cons h1 (ih h2 _)
def sL (P:Program) (fn:Func) (m:Nat) (R:GV->List Ob->Prop):dP:=fun e fr Γ =>
 (e=.normal\/e=.ret)/\∀ B K β w l,B.m=m->Inv B K β Γ w->FR K β fr l->∃ v K' bV g aL,(results fn l.toArray).run P w=.ok v w/\Inv B K' bV aL w/\Rel K' bV v g/\R g aL
theorem GC.enter {P:Program} {f:FuncId} {fn:Func} {c:Code} {gs:List GV} {Γ:List Ob} {R:GV->List Ob->Prop} {n:Nat} {fr:List GV}
  (hf:P.funcs[f]?=some fn) (hn:fn.ntmps=n) (hb:fn.body=some c) (hl:xt gs n=fr) (h:GW P Γ.length c (sL P fn Γ.length R) fr Γ):GC P f gs Γ R:=fun B K β w vs hm hI hF=>by
 subst hl;refine mi.enter hf hn hb rfl (W.mono (h B K β w _ hm hI (FR.frame hF n)) ?_);rintro e l w ⟨K,β,fr,Γ,hI,hF,he,hq⟩;obtain ⟨v,K',bV,g,aL,h1,h2,h3,h4⟩:=hq B K β w l hm hI hF
 rcases he with rfl | rfl
 ·exact ⟨v,h1,K',bV,g,aL,h2,h3,h4⟩
 ·exact ⟨v,h1,K',bV,g,aL,h2,h3,h4⟩
section
variable {P:Program} {fn:Func} {m:Nat} {R:GV->List Ob->Prop} {fr:List GV} {Γ:List Ob} {e:Exit}
theorem TY {n:Nat} (hr:fn.results=#[]) (he:e=.normal\/e=.ret) (hm:m<=n) (hl:zt n (Γ.take n)=true) (h:R (.tup []) (Γ.take n)):sL P fn m R e fr Γ :=
 ⟨he,fun B K β w l hB hI hF=>⟨.tuple #[],K,fj (below n) β,.tup [],Γ.take n,by rw [results_none hr],hI.cut (by omega) hl,.tup [] [] rfl (fun i v g h=>by simp at h),h⟩⟩
theorem rG {n:Nat} {t:Tmp} {g:GV} (hr:fn.results=#[.tmp t]) (he:e=.normal\/e=.ret) (hg:cH fr t=g) (hm:m<=n) (hl:zt n (Γ.take n)=true) (jR:g.lt n=true) (h:R g (Γ.take n)):sL P fn m R e fr Γ :=
 ⟨he,fun B K β w l hB hI hF=>⟨nth l t,K,fj (below n) β,g,Γ.take n,by rw [results_tmp hr,jW],hI.cut (by omega) hl,by rw [<-hg] at jR |-;exact (hF.nth t).res jR,h⟩⟩
theorem TZ {n:Nat} {t u:Tmp} {g g':GV} (hr:fn.results=#[.tmp t,.tmp u]) (he:e=.normal\/e=.ret) (hg:cH fr t=g) (jQ:cH fr u=g') (hm:m<=n) (hl:zt n (Γ.take n)=true) (jR:(GV.tup [g,g']).lt n=true) (h:R (.tup [g,g']) (Γ.take n)):sL P fn m R e fr Γ :=
 ⟨he,fun B K β w l hB hI hF=>⟨.tuple #[nth l t,nth l u],K,fj (below n) β,.tup [g,g'],Γ.take n,by rw [results_tmp2 hr,jW,jW],hI.cut (by omega) hl,by
  refine Rel.res ?_ jR;subst hg jQ;have hc:bb K β [nth l t,nth l u] [cH fr t,cH fr u]:=.cons (hF.nth t) (.cons (hF.nth u) .nil)
  exact .tup [nth l t,nth l u] _ hc.1 hc.2,h⟩⟩
theorem T0 {n:Nat} {t u s:Tmp} {g g' g2:GV} (hr:fn.results=#[.tmp t,.tmp u,.tmp s]) (he:e=.normal\/e=.ret) (hg:cH fr t=g) (jQ:cH fr u=g') (fZ:cH fr s=g2) (hm:m<=n) (hl:zt n (Γ.take n)=true) (jR:(GV.tup [g,g',g2]).lt n=true)
  (h:R (.tup [g,g',g2]) (Γ.take n)):sL P fn m R e fr Γ :=
 ⟨he,fun B K β w l hB hI hF=>⟨.tuple #[nth l t,nth l u,nth l s],K,fj (below n) β,.tup [g,g',g2],Γ.take n,by
   rw [<-jW l t,<-jW l u,<-jW l s];simp [results,hr],hI.cut (by omega) hl,by
  refine Rel.res ?_ jR;subst hg jQ fZ;have hc:bb K β [nth l t,nth l u,nth l s] [cH fr t,cH fr u,cH fr s]:=.cons (hF.nth t) (.cons (hF.nth u) (.cons (hF.nth s) .nil))
  exact .tup [nth l t,nth l u,nth l s] _ hc.1 hc.2,h⟩⟩
theorem T8 {n:Nat} {t:Tmp} {T:TypeId} {k:Nat} [hT:Ty P T true k] {i:Nat} {E:TypeId} {cs:List GV} (hr:fn.results=#[.cell t T]) (he:e=.normal\/e=.ret) (hg:cH fr t=.loc i 0) (bB:Γ[i]?=some (.box E cs)) (hk:cs.length=k)
  (hm:m<=n) (hl:zt n (Γ.take n)=true) (jR:(GV.agg cs).lt n=true) (h:R (.agg cs) (Γ.take n)):sL P fn m R e fr Γ :=
 ⟨he,fun B K β w l hB hI hF=>by
  obtain ⟨b,vs,h1,h2,h3,h4⟩:=hI.ob i _ bB
  have hp:nth l t=.pointer (some ⟨b,0,none⟩):=by
   have:=hF.nth t;rw [hg] at this;generalize nth l t=v at this
   cases this with
   | loc _ _ b' bt=>rw [h1] at bt;cases bt;rfl
  have iT:l.toArray.getD t undef=.pointer (some ⟨b,0,none⟩):=by rw [jW,hp]
  have Fa:=nG (P:=P) (w:=w) (t:=T) (b:=b) (o:=0) (vs:=vs) (k:=k) (by rw [h3.1,hk]) (fun j v hj=>by
   rw [Nat.zero_add,cell_of_row w b j _ E (0,0) h2];simpa using hj)
  have zR:l[t]?.getD undef=.pointer (some ⟨b,0,none⟩):=by simpa using iT
  exact ⟨.agg vs.toArray,K,fj (below n) β,.agg cs,Γ.take n,by simp [results,hr,zR,asAddr,Fa],hI.cut (by omega) hl,Rel.res (.agg vs cs h3.1 h3.2) jR,h⟩⟩
end
def YG (P:Program) (op:Op) (fr:List GV) (Γ:List Ob) (g:GV):Prop :=
 ∀ B K β w l,Inv B K β Γ w->FR K β fr l->∃ v,ep P l w op v/\Rel K β v g
section
variable {P:Program} {m:Nat} {Q:dP} {fr:List GV} {Γ:List Ob} {ops:Array Oper} {rest:List Oper} {d:Option Tmp} {op:Op} {ty:TypeId} {pos:String} {af:Array Edge}
theorem GL.q {g:GV} (hy:YG P op fr Γ g) (h:GL P m ops Q rest (bu fr d g) Γ):GL P m ops Q (⟨d,op,ty,pos,af,none⟩::rest) fr Γ:=fun B K β w l hm hI hF=>by
 obtain ⟨v,hr,hv⟩:=hy B K β w l hI hF;exact WL.v hr (h B K β w _ hm hI (hF.put d hv))
theorem rK {cj:List GV} {aL:List Ob} (h1:fr=cj) (h2:Γ=aL) (h:GL P m ops Q rest cj aL):GL P m ops Q rest fr Γ:=by subst h1;subst h2;exact h
theorem GN {cj:List GV} (h1:fr=cj) (h:GL P m ops Q rest cj Γ):GL P m ops Q rest fr Γ:=by subst h1;exact h
theorem YG.v1 {x:Operand} {a v:Value} (hx:aV fr x=.v a) (h:∀ l w,ev l x=a->ep P l w op v):YG P op fr Γ (.v v):=fun B K β w l hI hF=>⟨v,h l w (hF.gy hx),.v v⟩
theorem YG.v2 {x y:Operand} {a b v:Value} (hx:aV fr x=.v a) (hy:aV fr y=.v b) (h:∀ l w,ev l x=a->ev l y=b->ep P l w op v):YG P op fr Γ (.v v):=fun B K β w l hI hF=>⟨v,h l w (hF.gy hx) (hF.gy hy),.v v⟩
theorem YG.mv {x:Operand}:YG P (.move x) fr Γ (aV fr x):=fun B K β w l hI hF=>⟨_,R.mv,hF.ev x⟩
theorem YG.wL {x:Operand}:YG P (.assign x) fr Γ (aV fr x):=fun B K β w l hI hF=>⟨_,R.wL,hF.ev x⟩
theorem YG.Ce {fn:Fn} {first cap:List Operand}:YG P (.makeFunc fn first.toArray cap.toArray) fr Γ (.fn fn (first.map (aV fr)) (cap.map (aV fr))):=fun B K β w l hI hF =>
 ⟨_,R.Ce,by
  have h1:=hF.args first
  have h2:=hF.args cap
  simpa using Rel.fn fn _ _ _ _ h1.1 h2.1 h1.2 h2.2⟩
def B4:GV->Value
 | .v x=>x
 | _=>.nilFunc
def Ua (ρ:Operand->Value) (op:Op):Option Value :=
 match op with
 | .binOp _ _ _ _ _=>go ρ op
 | .unOp _ _ _=>go ρ op
 | _=>none
theorem Sz {K:Fz} {β:Bt} {x:Value} {g:GV} (h:Rel K β x g):B4 g=x\/B4 g=.nilFunc:=by
 cases h <;> first | exact .inl rfl | exact .inr rfl
theorem YG.go {v:Value} (h:Ua (fun x=>B4 (aV fr x)) op=some v):YG P op fr Γ (.v v):=fun B K β w l hI hF=>by
 refine ⟨v,Su ?_,.v v⟩
 have key:∀ x,B4 (aV fr x)=ev l x\/B4 (aV fr x)=.nilFunc:=fun x=>Sz (hF.ev x)
 unfold Ua at h;split at h
 ·rename_i o t x y t';simp only [Xw.go] at h |-
  rcases key x with hx | hx <;> rcases key y with hy | hy <;> rw [hx,hy] at h
  ·exact h
  ·cases hv:ev l x <;> rw [hv] at h <;> cases h
  ·cases h
  ·cases h
 ·rename_i o t x;simp only [Xw.go,vV] at h |-
  rcases key x with hx | hx <;> rw [hx] at h
  ·exact h
  ·cases o <;> simp only at h <;> cases h
 ·cases h
theorem YG.RC {c a b:Operand} {t:Bool} (hc:aV fr c=.v (.bool t)) (ht:t=true):YG P (.pick c a b) fr Γ (aV fr a):=fun B K β w l hI hF=>⟨_,R.RC (hF.gy hc) ht,hF.ev a⟩
theorem YG.RB {c a b:Operand} {t:Bool} (hc:aV fr c=.v (.bool t)) (ht:t=false):YG P (.pick c a b) fr Γ (aV fr b):=fun B K β w l hI hF=>⟨_,R.RB (hF.gy hc) ht,hF.ev b⟩
theorem YG.ZF {x:Operand} {i o:Nat} (hx:aV fr x=.loc i o):YG P (.nilCheck x) fr Γ (.loc i o):=fun B K β w l hI hF=>by
 have h:=hF.ev x;rw [hx] at h;generalize hv:ev l x=v at h
 cases h with | loc _ _ b hb=>exact ⟨_,R.Kq hv,.loc i o b hb⟩
theorem YG.ZE {x:Operand} {cs:List GV} {o:Nat} (hx:aV fr x=.box cs o):YG P (.nilCheck x) fr Γ (.box cs o):=fun B K β w l hI hF=>by
 have h:=hF.ev x;rw [hx] at h;generalize hv:ev l x=v at h
 cases h with | box b o' _ _ hb=>exact ⟨_,R.Kq hv,.box b o' o cs hb⟩
theorem YG.PL {x:Operand} {t:TypeId} [hT:pB P t] {s:ai} (hx:aV fr x=.v (sv s)):YG P (.call ⟨.builtin .len,#[x],#[t]⟩) fr Γ (.v (ii s.length)):=YG.v1 hx fun l w h=>R.PL h
theorem YG.WK {x:Operand} {t e:TypeId} {k:Nat} [hT:mj P t e k] {k':Nat} {rows:List (List GV)} (hx:aV fr x=.sl k' rows):YG P (.call ⟨.builtin .len,#[x],#[t]⟩) fr Γ (.v (ii rows.length)):=fun B K β w l hI hF=>by
 have h:=hF.ev x;rw [hx] at h;generalize hv:ev l x=v at h
 cases h with
 | sl0 a c=>exact ⟨_,R.Kg hv,.v _⟩
 | sl b o c _ _ h _=>exact ⟨_,R.Kg hv,.v _⟩
theorem YG.ZB {x:Operand} {t e:TypeId} {k:Nat} [hT:mj P t e k] {i n:Nat} (hx:aV fr x=.vec i n):YG P (.call ⟨.builtin .len,#[x],#[t]⟩) fr Γ (.v (ii n)):=fun B K β w l hI hF=>by
 have h:=hF.ev x;rw [hx] at h;generalize hv:ev l x=v at h
 cases h with | vec _ _ a c h=>exact ⟨_,R.Kg hv,.v _⟩
theorem YG.ZA {x:Operand} {t e:TypeId} {k:Nat} [hT:mj P t e k] {a:Option Addr} {n c:Nat} (hx:aV fr x=.v (.slice a n c)):YG P (.call ⟨.builtin .len,#[x],#[t]⟩) fr Γ (.v (ii n)):=YG.v1 hx fun l w h=>R.Kg h
theorem YG.EB {x y:Operand} {t t':TypeId} {a b:ai} (hx:aV fr x=.v (sv a)) (hy:aV fr y=.v (sv b)):YG P (.binOp .eql t x y t') fr Γ (.v (.bool (a==b))):=YG.v2 hx hy fun l w h k=>R.EB h k
theorem YG.FN {x y:Operand} {t t':TypeId} {a b:ai} (hx:aV fr x=.v (sv a)) (hy:aV fr y=.v (sv b)):YG P (.binOp .neq t x y t') fr Γ (.v (.bool (!(a==b)))):=YG.v2 hx hy fun l w h k=>R.FN h k
theorem YG.sZ {x y:Operand} {t:TypeId} [hT:pB P t] {s:ai} {k:IntKind} {i:Nat} {c:UInt8} (hx:aV fr x=.v (sv s)) (hy:aV fr y=.v (.int k i)) (hc:s[i]?=some c):YG P (.index t x y) fr Γ (.v (.int .u8 c.toNat)):=YG.v2 hx hy fun l w h k=>R.sZ h k hc
theorem YG.add {x y:Operand} {t t':TypeId} {a b:Int} (hx:aV fr x=.v (ii a)) (hy:aV fr y=.v (ii b)) (hb : -9223372036854775808<=a+b/\a+b<=9223372036854775807):YG P (.binOp .add t x y t') fr Γ (.v (ii (a+b))):=YG.v2 hx hy fun l w h k=>R.add h k hb.1 hb.2
theorem YG.dx {x y:Operand} {t t':TypeId} {a b:Nat} (hx:aV fr x=.v (ii a)) (hy:aV fr y=.v (ii b)) (hb:a+b<=9223372036854775807):YG P (.binOp .add t x y t') fr Γ (.v (ii ((a+b:Nat):Int))):=YG.v2 hx hy fun l w h k=>R.dx h k hb
theorem YG.xf {x y:Operand} {t t':TypeId} {a:Nat} (hx:aV fr x=.v (ii a)) (hy:aV fr y=.v (ii 1)) (hb:a+1<=9223372036854775807):YG P (.binOp .add t x y t') fr Γ (.v (ii ((a+1:Nat):Int))):=YG.v2 hx hy fun l w h k=>R.xf h k hb
theorem YG.sub {x y:Operand} {t t':TypeId} {a b:Int} (hx:aV fr x=.v (ii a)) (hy:aV fr y=.v (ii b)) (hb : -9223372036854775808<=a - b/\a - b<=9223372036854775807):YG P (.binOp .sub t x y t') fr Γ (.v (ii (a - b))):=YG.v2 hx hy fun l w h k=>R.sub h k hb.1 hb.2
theorem YG.mul {x y:Operand} {t t':TypeId} {a b:Int} (hx:aV fr x=.v (ii a)) (hy:aV fr y=.v (ii b)) (hb : -9223372036854775808<=a * b/\a * b<=9223372036854775807):YG P (.binOp .mul t x y t') fr Γ (.v (ii (a * b))):=YG.v2 hx hy fun l w h k=>R.mul h k hb.1 hb.2
theorem YG.cat {x y:Operand} {t t':TypeId} {a b:ai} (hx:aV fr x=.v (sv a)) (hy:aV fr y=.v (sv b)) (hb:a.length+b.length<=9223372036854775807):YG P (.binOp .add t x y t') fr Γ (.v (sv (a++b))):=YG.v2 hx hy fun l w h k=>R.cat h k hb
theorem YG.Gi {x:Operand} {t:TypeId} [hT:pB P t] {s:ai} {lo hi:Operand} {k k':IntKind} {i j:Nat} (hx:aV fr x=.v (sv s)) (ik:aV fr lo=.v (.int k i)) (u7:aV fr hi=.v (.int k' j)) (hb:i<=j/\j<=s.length):YG P (.slice t x (some lo) (some hi) none) fr Γ (.v (sv ((s.take j).drop i))) :=
 fun B K β w l hI hF=>⟨_,R.Qh (hF.gy hx) ⟨k,hF.gy ik⟩ ⟨k',hF.gy u7⟩ hb.1 hb.2,.v _⟩
theorem YG.Gh {x:Operand} {t:TypeId} [hT:pB P t] {s:ai} {lo:Operand} {k:IntKind} {i:Nat} (hx:aV fr x=.v (sv s)) (ik:aV fr lo=.v (.int k i)) (hb:i<=s.length):YG P (.slice t x (some lo) none none) fr Γ (.v (sv (s.drop i))) :=
 fun B K β w l hI hF=>⟨_,by
  have:=R.Qh (P:=P) (w:=w) (l:=l) (t:=t) (lo:=some lo) (hi:=none) (i:=i) (j:=s.length) (hF.gy hx) ⟨k,hF.gy ik⟩ rfl hb (Nat.le_refl _);rw [List.take_length] at this
  exact this,.v _⟩
theorem YG.Gg {x:Operand} {t:TypeId} [hT:pB P t] {s:ai} {hi:Operand} {k:IntKind} {j:Nat} (hx:aV fr x=.v (sv s)) (u7:aV fr hi=.v (.int k j)) (hb:j<=s.length):YG P (.slice t x none (some hi) none) fr Γ (.v (sv (s.take j))) :=
 fun B K β w l hI hF=>⟨_,R.Qh (P:=P) (w:=w) (l:=l) (t:=t) (lo:=none) (hi:=some hi) (i:=0) (j:=j) (hF.gy hx) rfl ⟨k,hF.gy u7⟩ (Nat.zero_le _) hb,.v _⟩
theorem YG.ext {x:Operand} {i:Nat} {cs:List GV} {g:GV} (hx:aV fr x=.tup cs) (hg:cs[i]?=some g):YG P (.extract x i) fr Γ g:=fun B K β w l hI hF=>by
 have h:=hF.ev x;rw [hx] at h;generalize hv:ev l x=v at h
 cases h with
 | tup vs _ hl h =>
  have hi:i < vs.length:=by rw [hl];exact (List.getElem?_eq_some_iff.1 hg).1
  exact ⟨vs[i],R.extract hv (by simp [hi]),h i _ g (by simp [hi]) hg⟩
theorem YG.v7 {x y:Operand} {t e:TypeId} {k:Nat} [hT:mj P t e k] {rows:List (List GV)} {kk:IntKind} {i:Nat} {r:List GV} (hx:aV fr x=.sl k rows) (hy:aV fr y=.v (.int kk i)) (hr:rows[i]?=some r):YG P (.indexAddr t x y) fr Γ (.box r 0):=fun B K β w l hI hF=>by
 have h:=hF.ev x;rw [hx] at h;have hi:=(List.getElem?_eq_some_iff.1 hr).1;generalize hv:ev l x=v at h
 cases h with
 | sl0 a c=>simp at hi
 | sl b o c _ _ h _=>exact ⟨_,R.xO hv (hF.gy hy) hi,.box b (o+i * k) 0 r (h i r hr).2⟩
theorem YG.TT {x:Operand} {s:TypeId} {f off k:Nat} {agg:Bool} [hT:dp P s f off k agg] {i o:Nat} (hx:aV fr x=.loc i o):YG P (.fieldAddr s x f) fr Γ (.loc i (o+off)):=fun B K β w l hI hF=>by
 have h:=hF.ev x;rw [hx] at h;generalize hv:ev l x=v at h
 cases h with | loc _ _ b hb=>exact ⟨_,R.O1 hv,.loc i _ b hb⟩
theorem YG.TR {x:Operand} {s:TypeId} {f off k:Nat} {agg:Bool} [hT:dp P s f off k agg] {cs:List GV} {o:Nat} (hx:aV fr x=.box cs o):YG P (.fieldAddr s x f) fr Γ (.box cs (o+off)):=fun B K β w l hI hF=>by
 have h:=hF.ev x;rw [hx] at h;generalize hv:ev l x=v at h
 cases h with | box b o' _ _ hb=>exact ⟨_,R.O1 hv,by rw [Nat.add_assoc];exact .box b o' _ cs hb⟩
theorem YG.X7 {x:Operand} {t:TypeId} [hT:Ty P t false 1] {i o:Nat} {E:TypeId} {cs:List GV} {g:GV} (hx:aV fr x=.loc i o) (bB:Γ[i]?=some (.box E cs)) (hg:cs[o]?=some g):YG P (.load t x) fr Γ g:=fun B K β w l hI hF=>by
 have h:=hF.ev x;rw [hx] at h;generalize hv:ev l x=v at h
 cases h with
 | loc _ _ b hb =>
  obtain ⟨b',vs,h1,h2,h3,h4⟩:=hI.ob i _ bB;rw [hb] at h1;cases h1;obtain ⟨u,hu,hr⟩:=h3.at hg;exact ⟨u,R.ld hv (vN h2 (by simpa using hu)),hr⟩
theorem YG.X5 {x:Operand} {t:TypeId} [hT:Ty P t false 1] {cs:List GV} {o:Nat} {g:GV} (hx:aV fr x=.box cs o) (hg:cs[o]?=some g):YG P (.load t x) fr Γ g:=fun B K β w l hI hF=>by
 have h:=hF.ev x;rw [hx] at h;generalize hv:ev l x=v at h
 cases h with
 | box b o' _ _ hb =>
  obtain ⟨hp,u,hu,hr⟩:=hI.fz _ _ _ (hb o g hg);exact ⟨u,R.ld hv hu,hr.pc hp⟩
theorem tt {k:Nat} {rows:List (List GV)} (hk:fy k rows) {i j:Nat} {r:List GV} {g:GV} (hr:rows[i]?=some r) (hg:r[j]?=some g):rows.flatten[i * k+j]?=some g:=by
 induction rows generalizing i with
 | nil=>simp at hr
 | cons a rows ih =>
  have ha:a.length=k:=(hk a (mem_cons_self)).1
  cases i with
  | zero =>
   cases hr;have hj:=(List.getElem?_eq_some_iff.1 hg).1;rw [Nat.zero_mul,Nat.zero_add,flatten_cons,getElem?_append_left hj];exact hg
  | succ i =>
   rw [flatten_cons,List.getElem?_append_right (by rw [ha,Nat.succ_mul];omega),ha];rw [show (i+1) * k+j - k=i * k+j by rw [Nat.succ_mul];omega];exact ih (fun r hr=>hk r (mem_cons_of_mem _ hr)) (by simpa using hr)
theorem YG.Vf {x:Operand} {t:TypeId} {k:Nat} [hT:Ty P t true k] {i o:Nat} {E:TypeId} {cs gs:List GV} (hx:aV fr x=.loc i o) (bB:Γ[i]?=some (.box E cs)) (hg:(cs.drop o).take k=gs) (hk:gs.length=k):YG P (.load t x) fr Γ (.agg gs):=fun B K β w l hI hF=>by
 have h:=hF.ev x;rw [hx] at h;generalize hv:ev l x=v at h
 cases h with
 | loc _ _ b hb =>
  obtain ⟨b',vs,h1,h2,h3,h4⟩:=hI.ob i _ bB;rw [hb] at h1;cases h1;have h5:=(h3.drop o).take k;rw [hg] at h5;refine ⟨.agg ((vs.drop o).take k).toArray,R.X8 hv (by rw [h5.1,hk]) (fun j v hj=>?_),.agg _ _ h5.1 h5.2⟩;rw [getElem?_take] at hj;split at hj
  ·rw [getElem?_drop] at hj;exact vN h2 (by simpa using hj)
  ·cases hj
theorem vQ {K:Fz} {β:Bt} {H:Array Obj} {b:Nat}:∀ (gs:List GV) (o:Nat),(∀ (j:Nat) g,gs[j]?=some g->∃ v,fG H b (o+j)=some v/\Rel K β v g)->∃ vs:List Value,bb K β vs gs/\∀ (j:Nat) v,vs[j]?=some v->fG H b (o+j)=some v
 | [],o,_=>⟨[],.nil,fun j v h=>by simp at h⟩
 | g::gs,o,h=>by
  obtain ⟨v,hv,hr⟩:=h 0 g rfl;obtain ⟨vs,h1,h2⟩:=vQ gs (o+1) (fun j g' hg=>by rw [show o+1+j=o+(j+1) by omega];exact h (j+1) g' hg);refine ⟨v::vs,.cons hr h1,fun j u hj=>?_⟩
  cases j with
  | zero=>cases hj;exact hv
  | succ j=>rw [show o+(j+1)=o+1+j by omega];exact h2 j u hj
theorem YG.Ve {x:Operand} {t:TypeId} {k:Nat} [hT:Ty P t true k] {cs gs:List GV} {o:Nat} (hx:aV fr x=.box cs o) (hg:(cs.drop o).take k=gs) (hk:gs.length=k):YG P (.load t x) fr Γ (.agg gs):=fun B K β w l hI hF=>by
 have h:=hF.ev x;rw [hx] at h;generalize hv:ev l x=v at h
 cases h with
 | box b o' _ _ hb =>
  obtain ⟨vs,h1,h2⟩:=vQ (K:=K) (β:=β) (H:=w.heap) (b:=b) gs (o'+o) (fun j g hj=>by
   have lQ:cs[o+j]?=some g:=by
    rw [<-hg,getElem?_take] at hj;split at hj
    ·rw [getElem?_drop] at hj;exact hj
    ·cases hj
   obtain ⟨hp,u,hu,hr⟩:=hI.fz _ _ _ (hb (o+j) g lQ)
   exact ⟨u,by rw [Nat.add_assoc];exact hu,hr.pc hp⟩)
  exact ⟨.agg vs.toArray,R.X8 hv (by rw [h1.1,hk]) h2,.agg _ _ h1.1 h1.2⟩
def mo:GV->Option (List GV)
 | .v x=>match Kw x with
  | true=>some [.v x]
  | false=>none
 | .agg cs=>some cs
 | .U=>none
 | .tup _=>none
 | .vp _ _ _ _ _=>none
 | .sl k rows=>some [.sl k rows]
 | .box cs o=>some [.box cs o]
 | .loc i o=>some [.loc i o]
 | .vec i n=>some [.vec i n]
 | .arr i o n=>some [.arr i o n]
 | .fn f a c=>some [.fn f a c]
def nS:List GV->Nat->List GV->List GV
 | cs,_,[]=>cs
 | cs,o,v::r=>nS (bx cs o v) (o+1) r
def yx (pl:Nat->Option (Nat × Nat)):List GV->List (Nat × GV)->Option (List GV)
 | cs,[]=>some cs
 | cs,(i,g)::r=>match pl i with
  | none=>none
  | some (o,k)=>match mo g with
   | none=>none
   | some gs=>if gs.length≠k || decide (o+gs.length > cs.length) then none else yx pl (nS cs o gs) r
theorem Rel.cells {K:Fz} {β:Bt} {x:Value} {g:GV} {gs:List GV} (h:Rel K β x g) (hg:mo g=some gs):∃ vs:List Value,x.cells=vs.toArray/\bb K β vs gs:=by
 have one:∀ {x:Value} {g:GV},Rel K β x g->x.cells=#[x]->∃ vs:List Value,x.cells=vs.toArray/\bb K β vs [g]:=fun hr hc=>⟨[_],hc,.cons hr .nil⟩
 cases h with
 | v x =>
  simp only [mo] at hg;split at hg
  ·rename_i ho;cases hg;exact one (.v _) (wz ho).1
  ·cases hg
 | U x=>cases hg
 | agg vs cs hl h=>cases hg;exact ⟨vs,rfl,hl,h⟩
 | tup vs cs hl h=>cases hg
 | sl0 a c k=>cases hg;exact one (.sl0 a c k) rfl
 | sl b o c k rows h hc=>cases hg;exact one (.sl b o c k rows h hc) rfl
 | box b o' o cs h=>cases hg;exact one (.box b o' o cs h) rfl
 | loc i o b h=>cases hg;exact one (.loc i o b h) rfl
 | vec i n a c h=>cases hg;exact one (.vec i n a c h) rfl
 | vp i n k idx off x h=>cases hg
 | arr i o n b c h=>cases hg;exact one (.arr i o n b c h) rfl
 | fn f xs ys first cap hl iM h h'=>cases hg;exact one (.fn f xs ys first cap hl iM h h') rfl
def l8:List GV->Bool
 | []=>true
 | g::gs=>g.one&&l8 gs
def rv:List GV->Bool
 | []=>true
 | g::gs=>g.pc&&rv gs
theorem mN {gs:List GV} (h:rv gs=true):∀ g∈gs,g.pc=true:=by
 induction gs with
 | nil=>intro g hg;cases hg
 | cons x gs ih =>
  simp only [rv,Bool.and_eq_true] at h;intro g hg
  rcases List.mem_cons.1 hg with rfl | hg
  ·exact h.1
  ·exact ih h.2 g hg
theorem bb.lD {K:Fz} {β:Bt} {vs:List Value} {gs:List GV} (h:bb K β vs gs) (ho:l8 gs=true):lD vs=true:=by
 induction gs generalizing vs with
 | nil=>have:vs=[]:=eq_nil_of_length_eq_zero h.1;subst this;rfl
 | cons g gs ih =>
  cases vs with
  | nil=>have:=h.1;simp at this
  | cons v vs =>
   simp only [l8,Bool.and_eq_true] at ho;obtain ⟨h1,h2⟩:=h.nL;have h3:=(wz (h1.one ho.1)).2;have h4:=ih h2 ho.2;simp only [Xw.lD,all_cons,Bool.and_eq_true] at h4 |-;exact ⟨h3,h4⟩
end
theorem bb.gK {K:Fz} {β:Bt} {us:List Value} {hs:List GV} (k:bb K β us hs):∀ {vs:List Value} {gs:List GV} (o:Nat),bb K β vs gs->bb K β (gK vs o us) (nS gs o hs):=by
 have hu:∀ {vs:List Value} {gs:List GV} (o:Nat) {v:Value} {g:GV},Rel K β v g->bb K β vs gs->bb K β (eS vs o v) (bx gs o g):=by
  intro vs
  induction vs with
  | nil =>
   intro gs o v g hv h;have:gs=[]:=eq_nil_of_length_eq_zero h.1.symm;subst this;exact .nil
  | cons x vs ih =>
   intro gs o v g hv h
   cases gs with
   | nil=>have:=h.1;simp at this
   | cons y gs =>
    obtain ⟨h1,h2⟩:=h.nL
    cases o with
    | zero=>exact .cons hv h2
    | succ o=>exact .cons h1 (ih o hv h2)
 induction us generalizing hs with
 | nil =>
  intro vs gs o h;have:hs=[]:=eq_nil_of_length_eq_zero k.1.symm;subst this;exact h
 | cons u us ih =>
  intro vs gs o h
  cases hs with
  | nil=>have:=k.1;simp at this
  | cons g hs =>
   obtain ⟨h1,h2⟩:=k.nL;exact ih h2 (o+1) (hu o h1 h)
theorem vU {K:Fz} {β:Bt} {pl:Nat->Option (Nat × Nat)} {l:List Value} {fr:List GV} (hF:FR K β fr l):∀ (parts:List (Nat × Operand)) (vs:List Value) (gs cs:List GV),bb K β vs gs ->
  yx pl gs (parts.map fun x=>(x.1,aV fr x.2))=some cs->∃ us,pH pl vs (parts.map fun x=>(x.1,ev l x.2))=some us/\bb K β us cs
 | [],vs,gs,cs,h,hf=>by cases hf;exact ⟨vs,rfl,h⟩
 | (i,x)::r,vs,gs,cs,h,hf=>by
  simp only [List.map_cons,yx] at hf;simp only [List.map_cons,pH]
  cases hp:pl i with
  | none=>rw [hp] at hf;cases hf
  | some y =>
   obtain ⟨o,k⟩:=y;rw [hp] at hf;simp only at hf |-
   cases hg:mo (aV fr x) with
   | none=>rw [hg] at hf;cases hf
   | some hs =>
    rw [hg] at hf;simp only at hf;obtain ⟨us,kj,kK⟩:=(hF.ev x).cells hg
    have cR:(ev l x).cells.size=hs.length:=by rw [kj];simpa using kK.1
    rw [cR,h.1];split at hf
    ·cases hf
    ·rename_i hc;rw [if_neg hc]
     have jC:(ev l x).cells.toList=us:=by rw [kj]
     rw [jC];exact vU hF r _ _ cs (kK.gK o h) hf
section
variable {P:Program} {m:Nat} {Q:dP} {fr:List GV} {Γ:List Ob} {ops:Array Oper} {rest:List Oper} {d:Option Tmp} {op:Op} {ty:TypeId} {pos:String} {af:Array Edge}
def ll (z:List Value):List GV:=z.map .v
theorem YG.build {t:TypeId} {pl:List (Nat × Nat)} {z:List Value} [hT:tK P t pl z] {parts:List (Nat × Operand)} {cs:List GV} (hf:yx (fun i=>pl[i]?) (ll z) (parts.map fun x=>(x.1,aV fr x.2))=some cs) :
  YG P (.build t parts.toArray) fr Γ (.agg cs):=fun B K β w l hI hF=>by
 obtain ⟨us,h1,h2⟩:=vU hF parts z _ cs bb.self hf;exact ⟨_,R.build h1,.agg us cs h2.1 h2.2⟩
theorem mz {K:Fz} {β:Bt} {l:List Value} {t:Nat} (h:FR K β fr l) (ht:jE fr t=true):jE l t=true:=by
 induction h generalizing t with
 | nil=>cases ht
 | cons _ _ ih=>cases t with | zero=>rfl | succ t=>exact ih ht
theorem sj {l:List Value} {t:Nat} (h:jE l t=true) (u:Value):nth (eS l t u) t=u:=by
 induction l generalizing t with
 | nil=>cases h
 | cons x l ih=>cases t with | zero=>rfl | succ t=>exact ih h
theorem nU {l:List Value} {t t':Nat} (h:t'≠t) (u:Value):nth (eS l t u) t'=nth l t':=by
 induction l generalizing t t' with
 | nil=>rfl
 | cons x l ih=>cases t with
  | zero=>cases t' with | zero=>exact absurd rfl h | succ t'=>rfl
  | succ t=>cases t' with | zero=>rfl | succ t'=>exact ih (fun e=>h (by rw [e]))
theorem GL.alloc {t:TypeId} {z:Value} {cs:List GV} [hT:pb P t z] (hz:ll z.cells.toList=cs) (h:GL P m ops Q rest (bu fr d (.loc Γ.length 0)) (Γ++[.box t cs])):GL P m ops Q (⟨d,.alloc t,ty,pos,af,none⟩::rest) fr Γ:=fun B K β w l hm hI hF=>by
 refine WL.alloc (z:=z) fun b w' hn=>?_
 have bj:=hI.add (vs:=z.cells.toList) (cs:=cs) (E:=t) (by simpa using hn) (by rw [<-hz];exact bb.self);exact h B K _ w' _ hm bj ((hF.mono (cq.refl K) (fV (by rw [hI.out _ (Nat.le_refl _)];trivial))).put d (.loc _ 0 b bm))
theorem GL.box {t:TypeId} {x:Operand} {cs:List GV} (hx:mo (aV fr x)=some cs) (h:GL P m ops Q rest (bu fr d (.loc Γ.length 0)) (Γ++[.box t cs])):GL P m ops Q (⟨d,.box t x,ty,pos,af,none⟩::rest) fr Γ:=fun B K β w l hm hI hF=>by
 obtain ⟨vs,h1,h2⟩:=(hF.ev x).cells hx
 refine WL.box rfl fun b w' hn=>?_
 rw [h1] at hn;have bj:=hI.add hn h2;exact h B K _ w' _ hm bj ((hF.mono (cq.refl K) (fV (by rw [hI.out _ (Nat.le_refl _)];trivial))).put d (.loc _ 0 b bm))
def oset:List Ob->Nat->Ob->List Ob
 | [],_,_=>[]
 | _::l,0,x=>x::l
 | y::l,n+1,x=>y::oset l n x
theorem bc (l:List Ob) (i:Nat) (x:Ob):oset l i x=l.set i x:=by
 induction l generalizing i with
 | nil=>rfl
 | cons y l ih=>cases i with | zero=>rfl | succ i=>simp [oset,ih]
theorem uj:∀ (us:List Value) (vs:List Value) (o:Nat),uE vs.toArray o us=(gK vs o us).toArray
 | [],vs,o=>rfl
 | u::us,vs,o=>by rw [uE,gK,ye];exact uj us _ _
theorem GL.st {x y:Operand} {t:TypeId} {agg:Bool} {k:Nat} [hT:Ty P t agg k] {i o:Nat} {E:TypeId} {cs gs:List GV} (hx:aV fr x=.loc i o) (bB:Γ[i]?=some (.box E cs)) (hy:mo (aV fr y)=some gs) (hk:gs.length=k) (h1:l8 gs=true)
  (hl:Nat.ble (o+k) cs.length=true) (h:GL P m ops Q rest (bu fr d (.v undef)) (oset Γ i (.box E (nS cs o gs)))):GL P m ops Q (⟨d,.store t x y,ty,pos,af,none⟩::rest) fr Γ:=fun B K β w l hm hI hF=>by
 have hr:=hF.ev x;rw [hx] at hr;generalize hv:ev l x=v at hr
 cases hr with
 | loc _ _ b hb =>
  obtain ⟨b',vs,h2,h3,h4,h5⟩:=hI.ob i _ bB;rw [hb] at h2;cases h2;obtain ⟨us,kj,kK⟩:=(hF.ev y).cells hy
  have iM:o+k<=cs.length:=by simpa using hl
  refine WL.st (t:=t) hv rfl h3 (by rw [kj];simpa [hk] using kK.1) (by rw [size_toArray,h4.1];exact iM) (by rw [kj];simpa using kK.lD h1) fun w' hs=>?_
  rw [kj,List.toList_toArray,uj] at hs;have bj:=hI.store bB hb hs (kK.gK o h4);rw [<-bc] at bj;exact h B K β w' _ hm bj (hF.put d (.v _))
def chunk:Nat->Nat->List GV->List (List GV)
 | 0,_,_=>[]
 | n+1,k,gs=>gs.take k::chunk n k (gs.drop k)
theorem vR {k:Nat}:∀ (n:Nat) (gs:List GV),gs.length=n * k->(chunk n k gs).flatten=gs/\(chunk n k gs).length=n/\∀ r∈chunk n k gs,r.length=k/\∀ g∈r,g∈gs
 | 0,gs,h=>by
  have:gs=[]:=eq_nil_of_length_eq_zero (by simpa using h);subst this;exact ⟨rfl,rfl,fun r hr=>by cases hr⟩
 | n+1,gs,h=>by
  have hk:k<=gs.length:=by rw [h,Nat.succ_mul];omega
  obtain ⟨h1,h2,h3⟩:=vR (k:=k) n (gs.drop k) (by rw [List.length_drop,h,Nat.succ_mul];omega);refine ⟨by rw [chunk,flatten_cons,h1,List.take_append_drop],by rw [chunk,length_cons,h2],fun r hr=>?_⟩;rw [chunk] at hr
  rcases List.mem_cons.1 hr with rfl | hr
  ·exact ⟨by simp [hk],fun g hg=>List.mem_of_mem_take hg⟩
  ·obtain ⟨h4,h5⟩:=h3 r hr;exact ⟨h4,fun g hg=>List.mem_of_mem_drop (h5 g hg)⟩
def zs:Nat->List Value->List GV
 | 0,_=>[]
 | n+1,z=>ll z++zs n z
theorem GG {K:Fz} {β:Bt} {n k:Nat} {z:List Value} (hz:z.length=k) (hk:0 < k):bb K β ((List.range (n * k)).map fun j=>z.getD (j % k) undef) (zs n z):=by
 induction n with
 | zero=>simpa [zs] using bb.nil
 | succ n ih =>
  have he:(List.range ((n+1) * k)).map (fun j=>z.getD (j % k) undef)=(List.range k).map (fun j=>z.getD (j % k) undef)++(List.range (n * k)).map fun j=>z.getD (j % k) undef:=by
   rw [Nat.succ_mul,Nat.add_comm,List.range_add,List.map_append,List.map_map]
   congr 1
   apply List.map_congr_left;intro j _;simp
  rw [he,zs];refine bb.app ?_ ih
  have:(List.range k).map (fun j=>z.getD (j % k) undef)=z:=by
   apply List.ext_getElem
   ·simp [hz]
   ·intro j h1 h2;simp at h1;simp [Nat.mod_eq_of_lt h1,List.getElem?_eq_getElem h2]
  rw [this];exact bb.self
theorem GL.X9 {t e:TypeId} {k:Nat} {z:List Value} [hT:o9 P t e k z] {n:Nat} {parts:List (Nat × Operand)} {cs:List GV} (hn:Nat.ble (n * k) 16777216=true) (hf:yx (fun i=>some (i * k,k)) (zs n z) (parts.map fun x=>(x.1,aV fr x.2))=some cs)
  (hl:Nat.beq cs.length (n * k)=true) (hp:rv cs=true) (h:GL P m ops Q rest (bu fr d (.sl k (chunk n k cs))) Γ):GL P m ops Q (⟨d,.buildSlice t n parts.toArray,ty,pos,af,none⟩::rest) fr Γ:=fun B K β w l hm hI hF=>by
 obtain ⟨us,h1,h2⟩:=vU hF parts _ _ cs (GG (n:=n) hT.zl hT.pos) hf
 have iM:cs.length=n * k:=by simpa using hl
 refine WL.Cg (by simpa using hn) h1 fun b w' rQ=>?_
 obtain ⟨hle,bj⟩:=hI.tR rQ h2 (mN hp);obtain ⟨c1,c2,c3⟩:=vR n cs iM;refine h B _ β w' _ hm bj ((hF.mono hle (cZ.refl β)).put d ?_)
 have ke:fy k (chunk n k cs):=fun r hr=>⟨(c3 r hr).1,fun g hg=>mN hp g ((c3 r hr).2 g hg)⟩
 have:=Rel.sl (K:=kU K b cs) (β:=β) b 0 n k (chunk n k cs) (fun i r hr=>⟨(ke r (mem_of_getElem? hr)).1,fun j g hg=>by
  rw [Nat.zero_add];exact uK (by have:=tt ke hr hg;rw [c1] at this;exact this)⟩) (by rw [c2];exact Nat.le_refl _)
 rw [c2] at this;exact this
theorem GL.Ru {t e:TypeId} {k:Nat} {z:List Value} [hT:o9 P t e k z] {n:Nat} {parts:List (Nat × Operand)} {cs:List GV} (hn:Nat.ble (n * k) 16777216=true) (hf:yx (fun i=>some (i * k,k)) (zs n z) (parts.map fun x=>(x.1,aV fr x.2))=some cs)
  (hl:Nat.beq cs.length (n * k)=true) (hp:rv cs=true) (h:GL P m ops Q rest (bu fr d (.vec Γ.length n)) (Γ++[.vec e k 0 (chunk n k cs)])):GL P m ops Q (⟨d,.buildSlice t n parts.toArray,ty,pos,af,none⟩::rest) fr Γ:=fun B K β w l hm hI hF=>by
 obtain ⟨us,h1,h2⟩:=vU hF parts _ _ cs (GG (n:=n) hT.zl hT.pos) hf
 have iM:cs.length=n * k:=by simpa using hl
 have A1:n * k<=16777216:=by simpa using hn
 have bP:n<=16777216:=Nat.le_trans (Nat.le_mul_of_pos_right n hT.pos) A1
 refine WL.Cg A1 h1 fun b w' rQ=>?_
 obtain ⟨c1,c2,c3⟩:=vR n cs iM
 have ke:fy k (chunk n k cs):=fun r hr=>⟨(c3 r hr).1,fun g hg=>mN hp g ((c3 r hr).2 g hg)⟩
 have how:=gC.Vp rQ (n:=n) (k:=k) (by rw [h2.1,iM]) (by simp only [maxLen];omega);have bj:=hI.BJ (x:=.slice (some ⟨b,0,none⟩) n n) (xs:=us) (rows:=chunk n k cs) rQ.ext (by rw [c2];exact how.base (Nat.zero_le _)) (fun b' bt=>by cases bt;rw [rQ.fresh];exact Nat.le_refl _) (by rw [c1];exact h2) ke;refine h B K _ w' _ hm bj ((hF.mono (cq.refl K) (fV (by rw [hI.out _ (Nat.le_refl _)];trivial))).put d ?_);exact .vec _ n _ n ⟨_,_,bm,by rw [c2];exact Nat.le_refl _,fun _=>rfl⟩
def P9 (x:Operand) (t:Tmp):Bool :=
 match x with
 | .tmp t'=>!Nat.beq t' t
 | _=>true
theorem TM {l:List Value} {x:Operand} {t:Tmp} (h:P9 x t=true) (u:Value):ev (put l (some t) u) x=ev l x:=by
 cases x with
 | tmp t'=>exact nU (fun e=>by subst e;simp [P9] at h) u
 | _=>rfl
theorem GL.push {x s:Operand} {t e k gS:Nat} {z:List Value} [hT:nZ P t e k gS] [hZ:o9 P t e k z] {d1:Tmp} {Oa:TypeId} {FW:String} {Lt:Array Edge} {i n fz:Nat} {rows:List (List GV)} {gs:List GV}
  (hx:mo (aV fr x)=some gs) (hk:Nat.beq gs.length k=true) (h1:l8 gs=true) (hp:rv gs=true) (hs:aV fr s=.vec i n) (US:P9 s d1=true) (hd:jE fr d1=true) (bB:Γ[i]?=some (.vec e k fz rows)) (hn:rows.length=n)
  (hb:(n+1<=9223372036854775807/\(n+1) * gS<=140737488355328)/\k<=16777216)
  (h:GL P m ops Q rest (bu (bu fr (some d1) .U) d (.vec i (n+1))) (oset Γ i (.vec e k fz (rows++[gs])))) :
  GL P m ops Q (⟨some d1,.buildSlice t 1 #[(0,x)],Oa,FW,Lt,none⟩::⟨d,.call ⟨.builtin .append,#[s,.tmp d1],#[t,t]⟩,ty,pos,af,none⟩::rest) fr Γ:=fun B K β w l hm hI hF=>by
 subst hn;obtain ⟨us,kj,kK⟩:=(hF.ev x).cells hx;obtain ⟨h0,xs,o1,o2,o3,o4,o5,o6⟩:=hI.ob i _ bB;have sW:=hF.ev s;rw [hs] at sW
 have qm:ev l s=h0:=by
  generalize hv:ev l s=v at sW
  cases sW with
  | vec _ _ a c hh =>
   obtain ⟨h',m',e1,e2,e3⟩:=hh;rw [o1] at e1;cases e1;exact e3 rfl
 have MG:=mz hF hd
 have lz:gs.length=k:=by simpa using hk
 refine WL.push (base:=0) (v:=h0) (vs:=us) (val:=ev l x) (xs:=xs) (n:=rows.length) rfl (fun u=>by rw [TM US];exact qm) (fun u=>sj MG u) kj (by rw [kK.1,lz]) (kK.lD h1) o2 hb.1.1 hb.1.2 hb.2 (Nat.zero_le _) ?_;intro u v' w' how gI oD va
 obtain ⟨K',hK,qn,bj⟩:=hI.grow bB o1 ⟨o2,o3⟩ (news:=[gs]) (ns:=us) how gI oD (by simpa using kK) (fun r hr=>by simp at hr;subst hr;exact ⟨lz,mN hp⟩) (by simp) (fun b bt o v ho hv=>by
  rcases va with h7 | h7
  ·exact h7.c hv (fun h=>h)
  ·have ik:o < xs.length:=by rw [o2.1];exact Nat.lt_of_lt_of_le ho (Nat.mul_le_mul_right k o6)
   obtain ⟨b2,c2,pg,_,_,jP⟩:=o2.cells.2 (by intro h0;rw [h0] at ik;simp at ik)
   have eL:b2=b:=by rw [pg] at bt;cases bt;rfl
   subst eL;have Dh:=jP o xs[o] (by simp [ik]);rw [fb,hv] at Dh;cases Dh;obtain ⟨b3,c3,MI,_,_,ME⟩:=how.cells.2 (by intro h0;have:xs=[]:=(List.append_eq_nil_iff.1 h0).1;rw [this] at ik;simp at ik)
   have xy:b3=b2:=by rw [MI,bt] at h7;cases h7;rfl
   subst xy
   rw [<-fb];exact ME o _ (by rw [getElem?_append_left ik];simp [ik]))
 rw [<-bc] at bj;refine h B K' _ w' _ hm bj (((hF.mono hK qn).put (some d1) (.U u)).put d ?_);obtain ⟨a,c,rfl⟩:=how.shape;exact .vec i _ a c ⟨_,_,bm,by simp,fun _=>rfl⟩
theorem Wk.Ci {t:Nat} {a:Option Addr} {c:Nat} (E k:Nat) (ht:cH fr t=.v (.slice none 0 0)):Wk m fr Γ (bx fr t (.vec Γ.length 0)) (Γ++[.vec E k 0 []]):=fun B K β w l hm hI hF=>by
 have bN:β Γ.length=.no:=hI.out _ (Nat.le_refl _);have bj:=hI.BJ (w':=w) (E:=E) (k:=k) (x:=.slice none 0 0) (xs:=[]) (rows:=[]) (Ext.refl w) (gC.nil w 0 E k) (fun b hb=>by cases hb) bb.nil (fun r hr=>by cases hr);refine ⟨K,_,bj,?_⟩;have uY:=hF.mono (cq.refl K) (fV (i:=Γ.length) (x:=.gr (.slice none 0 0) ([]:List (List GV)).length) (by rw [bN];trivial));have hv:nth l t=.slice none 0 0:=Rel.eD (by rw [<-ht];exact hF.nth t)
 have hu:∀ (l:List Value) (t:Nat) (v:Value),nth l t=v->(∃ a n c,v=.slice a n c)->eS l t v=l:=by
  intro l
  induction l with
  | nil=>intro t v _ _;rfl
  | cons x l ih =>
   intro t v h1 h2
   cases t with
   | zero=>simp only [nth] at h1;subst h1;rfl
   | succ t=>simp only [nth] at h1;simp only [eS];rw [ih t v h1 h2]
 have:=uY.eS t (v:=.slice none 0 0) (g:=.vec Γ.length 0) (.vec _ 0 none 0 ⟨_,_,bm,Nat.le_refl _,fun _=>rfl⟩);rw [hu l t _ hv ⟨_,_,_,rfl⟩] at this;exact this
theorem An {l:List Value} {t:Nat} (h:jE l t=true):eS l t (nth l t)=l:=by
 induction l generalizing t with
 | nil=>cases h
 | cons x l ih=>cases t with | zero=>rfl | succ t=>simp only [eS,nth];rw [ih h]
theorem Wk.jy {t i n E k fz:Nat} {rows:List (List GV)} (ht:cH fr t=.vec i n) (gV:jE fr t=true) (bB:Γ[i]?=some (.vec E k fz rows)) (hn:rows.length=n):Wk m fr Γ (bx fr t (.sl k rows)) (oset Γ i (.vec E k n rows)):=fun B K β w l hm hI hF=>by
 subst hn;obtain ⟨h0,xs,o1,o2,o3,o4,o5,o6⟩:=hI.ob i _ bB;obtain ⟨K',hK,C6,bj⟩:=hI.jy bB;rw [<-bc] at bj;refine ⟨K',β,bj,?_⟩;have hr:=hF.nth t;rw [ht] at hr
 have eT:Rel K' β (nth l t) (.sl k rows):=by
  generalize nth l t=v at hr
  cases hr with
  | vec _ _ a c hh =>
   obtain ⟨h',m',e1,e2,e3⟩:=hh;rw [o1] at e1;cases e1;have e4:=e3 rfl
   rcases o2.2 with ⟨e5,e6⟩ | ⟨g,cap,cu,e5,_,_,oH,_⟩
   ·have:rows=[]:=eq_nil_of_length_eq_zero e6;subst this;exact .sl0 _ _ _
   ·rw [e5] at e4;cases e4;refine .sl g 0 _ k rows (fun j r hr=>⟨(o4 r (mem_of_getElem? hr)).1,fun q g' jQ=>?_⟩) oH;rw [Nat.zero_add];exact C6 _ g o1 (by rw [e5];rfl) _ g' (tt o4 hr jQ)
 have:=(hF.mono hK (cZ.refl β)).eS t eT;rw [An (mz hF gV)] at this;exact this
def nw (i:Nat) (cs:List GV):GV->GV
 | .loc j o=>match Nat.beq j i with
  | true=>.box cs o
  | false=>.loc j o
 | g=>match g.ok (other i) with
  | true=>g
  | false=>.U
theorem Rel.frz {K K':Fz} {β:Bt} {i b:Nat} {cs:List GV} {x:Value} {g:GV} (h:Rel K β x g) (hk:cq K K') (hb:β i=.fix b) (hc:∀ (j:Nat) g,cs[j]?=some g->K' b j=some g):Rel K' (fj (other i) β) x (nw i cs g):=by
 have gen:∀ {g:GV},Rel K β x g->Rel K' (fj (other i) β) x (match g.ok (other i) with | true=>g | false=>.U):=by
  intro g h;split
  ·rename_i ho;exact (h.mono hk (cZ.refl β)).res ho
  ·exact .U _
 cases g with
 | loc j o =>
  simp only [nw];split
  ·rename_i hj
   have hj:j=i:=by simpa using hj
   subst hj
   cases h with
   | loc _ _ b' bt =>
    rw [hb] at bt;cases bt;have:=Rel.box (K:=K') (β:=fj (other j) β) b 0 o cs (fun q g hg=>by rw [Nat.zero_add];exact hc q g hg);rw [Nat.zero_add] at this;exact this
  ·rename_i hj
   have hj:j≠i:=by intro e;subst e;simp at hj
   exact (h.mono hk (cZ.refl β)).res (vm hj)
 | _=>exact gen h
def om (i:Nat) (cs:List GV):List GV->List GV
 | []=>[]
 | g::gs=>nw i cs g::om i cs gs
theorem Wk.freeze {i:Nat} {E:TypeId} {cs:List GV} (bB:Γ[i]?=some (.box E cs)) (hp:rv cs=true) (bN:Dv (other i) (oset Γ i .gone)=true) (hm:m<=i):Wk m fr Γ (om i cs fr) (oset Γ i .gone):=fun B K β w l hB hI hF=>by
 rw [bc] at bN |-;obtain ⟨b,vs,h1,h2,h3,h4⟩:=hI.ob i _ bB;obtain ⟨K',hK,C6,bj⟩:=hI.freeze bB (mN hp) bN (by omega);refine ⟨K',_,bj,?_⟩;clear hI bj bN bB
 induction hF with
 | nil=>exact .nil
 | cons h t ih=>exact .cons (h.frz hK h1 (C6 b h1)) ih
end
def bW:List Nat->Nat->Nat->Nat
 | [],n,j=>n+j
 | i::_,_,0=>i
 | _::r,n,j+1=>bW r n j
def dS:List Ob->List Nat->List Ob->List Ob
 | Γ,[],xs=>Γ++xs
 | Γ,_::_,[]=>Γ
 | Γ,i::r,x::xs=>dS (oset Γ i x) r xs
def ig:List Nat->Nat->Bool
 | [],_=>true
 | i::r,n=>Nat.blt i n&&!(r.contains i)&&ig r n
theorem Ct {aQ:List Nat} {n j:Nat} (h:aQ.length<=j):bW aQ n j=n+(j - aQ.length):=by
 induction aQ generalizing j with
 | nil=>simp [bW]
 | cons i r ih =>
  cases j with
  | zero=>simp at h
  | succ j=>rw [bW,ih (by simpa using h)];simp
theorem S6 {aQ:List Nat} {n j:Nat} (h:j < aQ.length):∃ i∈aQ,bW aQ n j=i:=by
 induction aQ generalizing j with
 | nil=>simp at h
 | cons i r ih =>
  cases j with
  | zero=>exact ⟨i,by simp,rfl⟩
  | succ j=>obtain ⟨x,h1,h2⟩:=ih (j:=j) (by simpa using h);exact ⟨x,by simp [h1],h2⟩
theorem FP {aQ:List Nat} {n:Nat} (h:ig aQ n=true):∀ i∈aQ,i < n:=by
 induction aQ with
 | nil=>intro i hi;cases hi
 | cons x r ih =>
  simp only [ig,Bool.and_eq_true] at h;intro i hi
  rcases List.mem_cons.1 hi with rfl | hi
  ·simpa using h.1.1
  ·exact ih h.2 i hi
theorem Ah {aQ:List Nat} {n:Nat} (h:ig aQ n=true):∀ {j j':Nat},bW aQ n j=bW aQ n j'->j=j':=by
 induction aQ with
 | nil=>intro j j' he;simp only [bW] at he;omega
 | cons x r ih =>
  have ao:=FP h;simp only [ig,Bool.and_eq_true,Bool.not_eq_true'] at h
  have hx:∀ j,bW r n j≠x:=fun j he=>by
   by_cases hj:j < r.length
   ·obtain ⟨i,hi,h2⟩:=S6 (n:=n) hj;rw [he] at h2;subst h2;have:=h.1.2;rw [List.contains_iff_mem.2 hi] at this;cases this
   ·have:=Ct (n:=n) (Nat.le_of_not_lt hj);have:=ao x (by simp);omega
  intro j j' he
  cases j with
  | zero=>cases j' with
   | zero=>rfl
   | succ j'=>exact absurd he.symm (hx j')
  | succ j=>cases j' with
   | zero=>exact absurd he (hx j)
   | succ j'=>rw [ih h.2 he]
theorem Hp {aQ:List Nat} {n:Nat}:∀ {Γ xs:List Ob},Γ.length=n->ig aQ n=true->aQ.length<=xs.length ->
  (∀ j,(dS Γ aQ xs)[bW aQ n j]?=xs[j]?)/\(∀ i,(∀ j,bW aQ n j≠i)->(dS Γ aQ xs)[i]?=Γ[i]?)/\(dS Γ aQ xs).length=n+(xs.length - aQ.length):=by
 induction aQ with
 | nil =>
  intro Γ xs hn _ _;refine ⟨fun j=>?_,fun i hi=>?_,by simp [dS,hn]⟩
  ·simp only [dS,bW];rw [List.getElem?_append_right (by omega)];congr 1;omega
  ·simp only [dS,bW] at hi |-
   by_cases ao:i < n
   ·rw [getElem?_append_left (by omega)]
   ·exact absurd (by omega) (hi (i - n))
 | cons x r ih =>
  intro Γ xs hn eH hl;have E9:=@Ah (x::r) n eH;have ao:=FP eH x (by simp)
  cases xs with
  | nil=>simp at hl
  | cons y ys =>
   simp only [ig,Bool.and_eq_true,Bool.not_eq_true'] at eH;obtain ⟨h1,h2,h3⟩:=ih (Γ:=oset Γ x y) (xs:=ys) (by rw [bc];simpa using hn) eH.2 (by simpa using hl)
   have hx:∀ j,bW r n j≠x:=fun j he=>by
    have:=@E9 (j+1) 0 he;omega
   refine ⟨fun j=>?_,fun i hi=>?_,by simp only [dS,h3,length_cons];omega⟩
   ·cases j with
    | zero =>
     simp only [dS,bW];rw [h2 x hx,bc,getElem?_set];simp [hn,ao]
    | succ j=>simp only [dS,bW];exact h1 j
   ·simp only [dS];rw [h2 i (fun j=>hi (j+1)),bc,getElem?_set];rw [if_neg (by intro e;exact hi 0 e)]
theorem km.Bl {K:Fz} {β:Bt} {w:World} {f:Nat->Nat} {j:Nat} {x:Ob} (h:km K β w (f j) (x.dz f)):km K (fun j=>β (f j)) w j x:=by
 cases x with
 | gone=>exact h
 | box E cs =>
  obtain ⟨b,vs,h1,h2,h3,h4⟩:=h;rw [jY] at h3;exact ⟨b,vs,h1,h2,⟨by simpa using h3.1,fun i v g h5 h6=>(h3.2 i v (dz f g) h5 (by rw [getElem?_map,h6];rfl)).Bl⟩,h4⟩
 | vec E k fz rows =>
  obtain ⟨h0,xs,h1,h2,h3,h4,h5⟩:=h;refine ⟨h0,xs,h1,h2,⟨h3.1,fun i v g h6 h7=>(h3.2 i v g h6 h7).pc ?_⟩,h4,h5⟩;obtain ⟨r,gh,dd⟩:=List.mem_flatten.1 (mem_of_getElem? h7);exact (h4 r gh).2 g dd
 | vech E k rows x =>
  obtain ⟨xs,h1,h2,h3,h4,h5⟩:=h;refine ⟨xs,h1,h2,⟨h3.1,fun i v g h6 h7=>(h3.2 i v g h6 h7).pc ?_⟩,h4,h5⟩;obtain ⟨r,gh,dd⟩:=List.mem_flatten.1 (mem_of_getElem? h7);exact (h4 r gh).2 g dd
 | lost=>exact h
theorem km.Bz {K:Fz} {β:Bt} {w:World} {f:Nat->Nat} {j:Nat} {x:Ob} (h:km K (fun j=>β (f j)) w j x):km K β w (f j) (x.dz f):=by
 cases x with
 | gone=>exact h
 | box E cs =>
  obtain ⟨b,vs,h1,h2,h3,h4⟩:=h;refine ⟨b,vs,h1,h2,?_,h4⟩;rw [jY];refine ⟨by simpa using h3.1,fun i v g h5 h6=>?_⟩;rw [getElem?_map] at h6
  cases hc:cs[i]? with
  | none=>rw [hc] at h6;cases h6
  | some c=>rw [hc] at h6;cases h6;exact (h3.2 i v c h5 hc).Bz
 | vec E k fz rows =>
  obtain ⟨h0,xs,h1,h2,h3,h4,h5⟩:=h;refine ⟨h0,xs,h1,h2,⟨h3.1,fun i v g h6 h7=>(h3.2 i v g h6 h7).pc ?_⟩,h4,h5⟩;obtain ⟨r,gh,dd⟩:=List.mem_flatten.1 (mem_of_getElem? h7);exact (h4 r gh).2 g dd
 | vech E k rows x =>
  obtain ⟨xs,h1,h2,h3,h4,h5⟩:=h;refine ⟨xs,h1,h2,⟨h3.1,fun i v g h6 h7=>(h3.2 i v g h6 h7).pc ?_⟩,h4,h5⟩;obtain ⟨r,gh,dd⟩:=List.mem_flatten.1 (mem_of_getElem? h7);exact (h4 r gh).2 g dd
 | lost=>exact h
section
variable {K:Fz} {β:Bt} {Γ:List Ob} {w:World} {B:Bs}
theorem Inv.enter {aQ:List Nat} {gO:List Ob} (h:Inv B K β Γ w) (eH:ig aQ Γ.length=true) (hl:gO.length=aQ.length) (bB:∀ j x,gO[j]?=some x->Γ[bW aQ Γ.length j]?=some (x.dz (bW aQ Γ.length))) :
  Inv (cur K (fun j=>β (bW aQ Γ.length j)) gO w) K (fun j=>β (bW aQ Γ.length j)) gO w:=by
 have bN:∀ i,gO.length<=i->β (bW aQ Γ.length i)=.no:=fun i hi=>by
  rw [Ct (by omega)];exact h.out _ (by omega)
 exact ⟨Ext.refl w,cq.refl K,cZ.refl _,bN,h.fz,fun i x hi=>(h.ob _ _ (bB i x hi)).Bl,bN,fun i j b hi hj=>Ah eH (h.dis _ _ b hi hj),fun i b hb=>.inl ⟨i,hb⟩,fun _ _ _ h=>.inl h,h.tab.step (S:=ic) (Ext.refl w) (fun _ h=>h.elim) (cq.refl K) (fun i b2 h2=>.inl ⟨_,h2⟩)⟩
theorem Inv.leave {aQ:List Nat} {gO qM:List Ob} {K':Fz} {Aq:Bt} {w':World} (h:Inv B K β Γ w) (eH:ig aQ Γ.length=true) (hl:gO.length=aQ.length) (iM:aQ.length<=qM.length)
  (hI:Inv (cur K (fun j=>β (bW aQ Γ.length j)) gO w) K' Aq qM w') :
  ∃ bV,cq K K'/\cZ β bV/\(∀ j,bV (bW aQ Γ.length j)=Aq j)/\Inv B K' bV (dS Γ aQ (qM.map (Ob.dz (bW aQ Γ.length)))) w':=by
 obtain ⟨s1,s2,s3⟩:=Hp (aQ:=aQ) (n:=Γ.length) (Γ:=Γ) (xs:=qM.map (Ob.dz (bW aQ Γ.length))) rfl eH (by simpa using iM);rw [List.length_map] at s3;generalize hf:bW aQ Γ.length=f at *
 have E9:∀ {j j'},f j=f j'->j=j':=by subst hf;exact Ah eH
 have ly:∀ j,aQ.length<=j->f j=Γ.length+(j - aQ.length):=fun j hj=>by subst hf;exact Ct hj
 have YZ:∀ i,Γ.length<=i->f (aQ.length+(i - Γ.length))=i:=fun i hi=>by rw [ly _ (by omega)];omega
 have ⟨bV,hβ1,hβ2⟩:∃ bV:Bt,(∀ j,bV (f j)=Aq j)/\∀ i,(∀ j,f j≠i)->bV i=β i:=by
  classical
  refine ⟨fun i=>if h:∃ j,f j=i then Aq (Classical.choose h) else β i,fun j=>?_,fun i hi=>?_⟩
  ·have hex:∃ j',f j'=f j:=⟨j,rfl⟩;simp only;rw [dif_pos hex,E9 (Classical.choose_spec hex)]
  ·simp only;rw [dif_neg (fun ⟨j,hj⟩=>hi j hj)]
 have Ue:cZ β bV:=fun i=>by
  by_cases hi:∃ j,f j=i
  ·obtain ⟨j,rfl⟩:=hi;rw [hβ1];exact hI.ble j
  ·rw [hβ2 i (fun j hj=>hi ⟨j,hj⟩)];exact su.refl _
 have JQ:∀ b,blocks (fun j=>β (f j)) b->blocks β b:=fun b ⟨j,hj⟩=>⟨f j,hj⟩
 have fa:∀ i b,(bV i).blk=some b->blocks β b\/w.heap.size<=b:=fun i b hb=>by
  by_cases hi:∃ j,f j=i
  ·obtain ⟨j,rfl⟩:=hi;rw [hβ1] at hb;exact (hI.own j b hb).imp (JQ b) id
  ·rw [hβ2 i (fun j hj=>hi ⟨j,hj⟩)] at hb;exact .inl ⟨i,hb⟩
 have rj:∀ i b,(∀ j,f j≠i)->(β i).blk=some b->¬ blocks (fun j=>β (f j)) b:=fun i b hi hb ⟨j,hj⟩=>hi j (h.dis _ _ b hj hb)
 refine ⟨bV,hI.kle,Ue,hβ1,h.NM (Ye:=Γ) ?_⟩;refine ⟨hI.ext.mono (fun k _ hk=>JQ k hk),hI.kle,Ue,h.out,hI.fz,fun i x hi=>?_,fun i hi=>?_,fun i i' b hi oE=>?_,fa,fun b o g hg=>?_,⟨hI.tab.le,hI.tab.pow,hI.tab.spc,fun i b hb=>(fa i b hb).elim (fun ⟨j,hj⟩=>h.tab.free j b hj) (fun hs=>⟨by have:=h.tab.pow.lt;have hs:w.heap.size<=b:=hs;omega,by have:=h.tab.spc.lt;have hs:w.heap.size<=b:=hs;omega⟩)⟩⟩
 ·by_cases hj:∃ j,f j=i
  ·obtain ⟨j,rfl⟩:=hj;rw [s1 j,getElem?_map] at hi
   cases hc:qM[j]? with
   | none=>rw [hc] at hi;cases hi
   | some c =>
    rw [hc] at hi;cases hi;refine km.Bz ?_;have:=hI.ob j c hc;rw [show (fun j=>bV (f j))=Aq from funext hβ1];exact this
  ·have lQ:∀ j,f j≠i:=fun j h=>hj ⟨j,h⟩
   rw [s2 i lQ] at hi;refine (h.ob i x hi).ext hI.ext (fun b hb=>rj i b lQ hb) hI.kle Ue (hβ2 i lQ) (fun b o hb hk=>?_)
   cases lz:K' b o with
   | none=>rfl
   | some g =>
    rcases hI.kn b o g lz with h7 | h7 | h7
    ·have h7:K b o=some g:=h7;rw [hk] at h7;cases h7
    ·exact absurd h7 (rj i b lQ hb)
    ·have:=h.lt hb;have h7:w.heap.size<=b:=h7;omega
 ·rw [s3] at hi;have h1:=YZ i (by omega);rw [<-h1,hβ1];exact hI.out _ (by omega)
 ·by_cases h1:∃ j,f j=i <;> by_cases h2:∃ j,f j=i'
  ·obtain ⟨j,rfl⟩:=h1;obtain ⟨j',rfl⟩:=h2;rw [hβ1] at hi oE;rw [hI.dis j j' b hi oE]
  ·obtain ⟨j,rfl⟩:=h1
   have qh:∀ j,f j≠i':=fun j h=>h2 ⟨j,h⟩
   rw [hβ1] at hi;rw [hβ2 i' qh] at oE
   rcases hI.own j b hi with h7 | h7
   ·exact absurd h7 (rj i' b qh oE)
   ·have:=h.lt oE;have h7:w.heap.size<=b:=h7;omega
  ·obtain ⟨j,rfl⟩:=h2
   have cI:∀ j,f j≠i:=fun j h=>h1 ⟨j,h⟩
   rw [hβ1] at oE;rw [hβ2 i cI] at hi
   rcases hI.own j b oE with h7 | h7
   ·exact absurd h7 (rj i b cI hi)
   ·have:=h.lt hi;have h7:w.heap.size<=b:=h7;omega
  ·rw [hβ2 i (fun j h=>h1 ⟨j,h⟩)] at hi;rw [hβ2 i' (fun j h=>h2 ⟨j,h⟩)] at oE;exact h.dis i i' b hi oE
 ·rcases hI.kn b o g hg with h7 | h7 | h7
  ·exact .inl h7
  ·exact .inr (.inl (JQ b h7))
  ·exact .inr (.inr h7)
end
section
variable {P:Program} {m:Nat} {Q:dP} {fr:List GV} {Γ:List Ob} {ops:Array Oper} {rest:List Oper} {d:Option Tmp} {op:Op} {ty:TypeId} {pos:String} {af:Array Edge}
def seen (f:Nat->Nat) (Γ:List Ob):List Nat->List Ob->Prop
 | [],[]=>True
 | i::r,x::xs=>Γ[i]?=some (x.dz f)/\seen f Γ r xs
 | _,_=>False
theorem DF {f:Nat->Nat} {Γ:List Ob} {n:Nat}:∀ {aQ:List Nat} {gO:List Ob},seen f Γ aQ gO->gO.length=aQ.length/\∀ j x,gO[j]?=some x->Γ[bW aQ n j]?=some (x.dz f)
 | [],[],_=>⟨rfl,fun j x h=>by simp at h⟩
 | i::r,y::ys,h=>by
  obtain ⟨h1,h2⟩:=h;obtain ⟨h3,h4⟩:=DF (n:=n) h2;refine ⟨by simp [h3],fun j x hx=>?_⟩
  cases j with
  | zero=>cases hx;exact h1
  | succ j=>exact h4 j x hx
 | [],_::_,h=>h.elim
 | _::_,[],h=>h.elim
theorem GL.calls {f:FuncId} {aQ:List Nat} {gs:List GV} {gO:List Ob} {R:GV->List Ob->Prop} {vs:List Value->List Value} (hr:∀ K β w l,FR K β fr l->bb K β (vs l) (lG (bW aQ Γ.length) gs)/\(execOp (ev l) ⟨d,op,ty,pos,af,none⟩).run P w=.ok (.enter f (vs l).toArray) w)
  (eH:ig aQ Γ.length=true) (bB:seen (bW aQ Γ.length) Γ aQ gO) (hc:GC P f gs gO R)
  (h:∀ g aL,R g aL->aQ.length<=aL.length/\GL P m ops Q rest (bu fr d (dz (bW aQ Γ.length) g)) (dS Γ aQ (aL.map (Ob.dz (bW aQ Γ.length))))) :
  GL P m ops Q (⟨d,op,ty,pos,af,none⟩::rest) fr Γ:=fun B K β w l hm hI hF=>by
 obtain ⟨hl,hs⟩:=DF (n:=Γ.length) bB;obtain ⟨ha,hr⟩:=hr K β w l hF;have hIc:=hI.enter eH hl hs
 have AR:bb K (fun j=>β (bW aQ Γ.length j)) (vs l) gs:=by
  rw [jY] at ha;exact ⟨by simpa using ha.1,fun i v g h5 h6=>(ha.2 i v (dz _ g) h5 (by rw [getElem?_map,h6];rfl)).Bl⟩
 refine WL.calls hr (hc _ K _ w _ rfl hIc AR) ?_;rintro v w' ⟨K',Aq,g,aL,bj,eT,hR⟩;obtain ⟨iM,h⟩:=h g aL hR;obtain ⟨bV,hK,hB,qn,n7⟩:=hI.leave eH hl iM bj;refine h B K' bV w' _ hm n7 ((hF.mono hK hB).put d (Rel.Bz ?_));rw [show (fun j=>bV (bW aQ Γ.length j))=Aq from funext qn];exact eT
theorem GL.vO {f:FuncId} [hf:aI P f] (aQ:List Nat) {x:Operand} {first cap:List GV} {args:List Operand} {mG:Array TypeId} {gs:List GV} {gO:List Ob} {R:GV->List Ob->Prop} (hc:GC P f gs gO R) (hx:aV fr x=.fn (.func f) first cap) (ha:first++args.map (aV fr)++cap=lG (bW aQ Γ.length) gs) (eH:ig aQ Γ.length=true)
  (bB:seen (bW aQ Γ.length) Γ aQ gO) (h:∀ g aL,R g aL->aQ.length<=aL.length/\GL P m ops Q rest (bu fr d (dz (bW aQ Γ.length) g)) (dS Γ aQ (aL.map (Ob.dz (bW aQ Γ.length))))) :
  GL P m ops Q (⟨d,.call ⟨.value x,args.toArray,mG⟩,ty,pos,af,none⟩::rest) fr Γ :=
 GL.calls (vs:=fun l=>match ev l x with | .func _ a c=>a.toList++args.map (ev l)++c.toList | _=>[]) (fun K β w l hF=>by
  have hr:=hF.ev x;rw [hx] at hr;generalize hv:ev l x=v at hr
  cases hr with
  | fn _ xs ys _ _ h1 h2 h3 h4 =>
   refine ⟨?_,?_⟩
   ·rw [<-ha];exact (bb.app (bb.app ⟨h1,h3⟩ (hF.args args)) ⟨h2,h4⟩)
   ·simp [execOp,resolve,hv,Deferred.ofValue,invoke,lH]) eH bB hc h
theorem GL.Wc {f:FuncId} [hf:aI P f] (aQ:List Nat) {x:Operand} {args:List Operand} {mG:Array TypeId} {gs:List GV} {gO:List Ob} {R:GV->List Ob->Prop} (hc:GC P f gs gO R) (hx:aV fr x=.v (.func (.func f) #[] #[])) (ha:args.map (aV fr)=lG (bW aQ Γ.length) gs) (eH:ig aQ Γ.length=true)
  (bB:seen (bW aQ Γ.length) Γ aQ gO) (h:∀ g aL,R g aL->aQ.length<=aL.length/\GL P m ops Q rest (bu fr d (dz (bW aQ Γ.length) g)) (dS Γ aQ (aL.map (Ob.dz (bW aQ Γ.length))))) :
  GL P m ops Q (⟨d,.call ⟨.value x,args.toArray,mG⟩,ty,pos,af,none⟩::rest) fr Γ :=
 GL.calls (vs:=fun l=>args.map (ev l)) (fun K β w l hF=>⟨by rw [<-ha];exact hF.args args,by
  have hv:=hF.gy hx
  simp [execOp,resolve,hv,Deferred.ofValue,invoke,lH]⟩) eH bB hc h
end
def ny (ops:List Oper) (fr:List GV):Nat->Option (Option Bool):=fun j =>
 match jE ops j,(rH ops j).dst with
 | true,some t=>match jE fr t,cH fr t with
  | true,.v (.bool c)=>some (some c)
  | true,.v (.tuple _)=>some none
  | _,_=>none
 | _,_=>none
section
variable {P:Program} {m:Nat} {Q:dP} {fr:List GV} {Γ:List Ob} {ops:Array Oper} {rest:List Oper} {d:Option Tmp} {op:Op} {ty:TypeId} {pos:String} {af:Array Edge}
theorem uX {K:Fz} {β:Bt} {l:List Value} {j:Nat} {b:Bool} {c:Option Bool} (hF:FR K β fr l) (h:ny ops.toList fr j=some c):Dj (some (j,b)) ops.toList l=true/\gv ops.toList l (j,b)=c:=by
 unfold ny at h;split at h
 ·rename_i t h1 h2;split at h
  ·rename_i c' h3 h4;cases h;have hv:nth l t=.bool c':=Rel.eD (by rw [<-h4];exact hF.nth t);have hl:=mz hF h3;simp only [Dj,gv,h1,h2,hl,hv,Bool.and_self];exact ⟨trivial,trivial⟩
  ·rename_i vs h3 h4;cases h;have hv:nth l t=.tuple vs:=Rel.eD (by rw [<-h4];exact hF.nth t);have hl:=mz hF h3;simp only [Dj,gv,h1,h2,hl,hv,Bool.and_self];exact ⟨trivial,trivial⟩
  ·cases h
 ·cases h
theorem GL.gt {gd:Nat × Bool} {c:Bool} (hv:ny ops.toList fr gd.1=some (some c)) (hc:c=gd.2) (h:GL P m ops Q (⟨d,op,ty,pos,af,none⟩::rest) fr Γ):GL P m ops Q (⟨d,op,ty,pos,af,some gd⟩::rest) fr Γ:=fun B K β w l hm hI hF=>by
 obtain ⟨h1,h2⟩:=uX (b:=gd.2) hF hv;exact Xw.GT h1 h2 hc (h B K β w l hm hI hF)
theorem GL.gf {gd:Nat × Bool} {c:Bool} (hv:ny ops.toList fr gd.1=some (some c)) (hc:c=!gd.2) (h:GL P m ops Q rest (bu fr d (.v undef)) Γ):GL P m ops Q (⟨d,op,ty,pos,af,some gd⟩::rest) fr Γ:=fun B K β w l hm hI hF=>by
 obtain ⟨h1,h2⟩:=uX (b:=gd.2) hF hv;exact Xw.GF h1 h2 hc (h B K β w _ hm hI (hF.put d (.v _)))
theorem GL.gu {gd:Nat × Bool} (hv:ny ops.toList fr gd.1=some none) (h:GL P m ops Q rest (bu fr d (.v undef)) Γ):GL P m ops Q (⟨d,op,ty,pos,af,some gd⟩::rest) fr Γ:=fun B K β w l hm hI hF=>by
 obtain ⟨h1,h2⟩:=uX (b:=gd.2) hF hv;exact Xw.GU h1 h2 (h B K β w _ hm hI (hF.put d (.v _)))
end
def gG (ops:List Oper) (fr:List GV):Option (Nat × Bool)->Option Bool
 | none=>some true
 | some (j,b)=>match ny ops fr j with
  | some (some c)=>some (c==b)
  | some none=>some false
  | none=>none
theorem H3 {ops:Array Oper} {K:Fz} {β:Bt} {fr:List GV} {l:List Value} {o:Oper} {c:Bool} (hF:FR K β fr l) (h:gG ops.toList fr o.guard=some c):Region.wanted o (yielded ops (act l).tmps)=c:=by
 obtain ⟨d,op,ty,pos,af,gd⟩:=o
 cases gd with
 | none=>simp only [gG] at h;cases h;rfl
 | some gd =>
  obtain ⟨j,b⟩:=gd;simp only [gG] at h;split at h
  ·rename_i c' hc;cases h;obtain ⟨h1,h2⟩:=uX (b:=b) hF hc;rw [vH h1]
   cases zd:(c'==b) with
   | true=>exact Ol h2 (by simpa using zd)
   | false=>exact Oj h2 (by cases c' <;> cases b <;> simp_all)
  ·rename_i hc;cases h;obtain ⟨h1,h2⟩:=uX (b:=b) hF hc;rw [vH h1];exact Om h2
  ·cases h
def Dx (P:Program) (o:Oper) (e:Operand->Value) (w:World) (Kv:Value->World->Prop):Prop :=
 match (execOp e o).run P w with
 | .ok (.value v) w'=>Kv v w'
 | .ok .skip w'=>Kv undef w'
 | .ok (.enter f args) w'=>Calls P f args w' fun e RI=>∃ v,e=.returned v/\Kv v RI
 | .ok (.row row args) w'=>Rows P row args w' Kv
 | _=>False
theorem Vq {P:Program} {o:Oper} {a:Act} {w:World} {Kv:Value->World->Prop} {next:Act->World->Prop} {Q:Exit->Act->World->Prop} (h:Dx P o a.eval w Kv) (hn:∀ v w',Kv v w'->next (a.put o.dst v) w'):o.wp P a w next Q:=by
 unfold Dx at h;unfold Oper.wp;generalize (execOp a.eval o).run P w=r at *
 cases r with
 | ok n w' =>
  cases n <;> simp only [Oper.upon] at h |- <;> first
   | exact hn _ _ h
   | exact Calls.mono h (fun e RI ⟨v,he,hv⟩=>by subst he;exact hn _ _ hv)
   | exact Rows.mono h (fun _ _ hv=>hn _ _ hv)
   | exact h.elim
 | halt x w'=>exact h.elim
theorem VW {P:Program} {o:Oper} {a:Act} {w:World} {Kv:Value->World->Prop} {next:Act->World->Prop} {Q:Exit->Act->World->Prop} (h:o.wp P a w next Q) (hQ:∀ c a w,¬ Q (.panic c) a w) (hQ':∀ a w,¬ Q .outgrown a w) (hn:∀ v w',next (a.put o.dst v) w'->Kv v w')
  (hd:∀ d w',¬ next ({ a with defers:=d::a.defers }.put o.dst undef) w'):Dx P o a.eval w Kv:=by
 unfold Dx;unfold Oper.wp at h;generalize (execOp a.eval o).run P w=r at *
 cases r with
 | ok n w' =>
  cases n <;> simp only [Oper.upon] at h |- <;> first
   | exact hn _ _ h
   | exact Calls.mono h (fun e RI he=>by
     cases e with
     | returned v=>exact ⟨v,rfl,hn _ _ he⟩
     | panicked c=>exact (hQ _ _ _ he).elim
     | outgrown=>obtain ⟨a0,w0,hf⟩:=he;exact (hQ' _ _ hf).elim)
   | exact Rows.mono h (fun _ _ hv=>hn _ _ hv)
   | exact h.elim
   | exact absurd h (hd _ _)
 | halt x w' =>
  cases x <;> simp only [Oper.upon] at h
  exact (hQ _ _ _ h).elim
def cK (ts:List Nat):Nat->List GV->List GV
 | _,[]=>[]
 | k,g::gs=>(match ts.contains k with | true=>g | false=>.U)::cK ts (k+1) gs
theorem FR.mask {K:Fz} {β:Bt} {ts:List Nat} {fr:List GV} {l:List Value} (h:FR K β fr l):∀ k,FR K β (cK ts k fr) l:=by
 induction h with
 | nil=>intro k;exact .nil
 | cons h t ih =>
  intro k;rw [cK];split
  ·exact .cons h (ih _)
  ·exact .cons (.U _) (ih _)
theorem PT {ts:List Nat} {d:Option Tmp} {g:GV} (hd:∀ t,d=some t->t ∉ ts) (fr:List GV):cK ts 0 (bu fr d g)=cK ts 0 fr:=by
 cases d with
 | none=>rfl
 | some t =>
  have hd:=hd t rfl
  have gen:∀ (fr:List GV) (k t:Nat),k+t ∉ ts->cK ts k (bx fr t g)=cK ts k fr:=by
   intro fr
   induction fr with
   | nil=>intro k t _;rfl
   | cons x fr ih =>
    intro k t h
    cases t with
    | zero =>
     have hc:ts.contains k=false:=by
      cases hb:ts.contains k with
      | false=>rfl
      | true=>exact absurd (List.contains_iff_mem.1 hb) (by simpa using h)
     simp only [bx,cK,hc]
    | succ t=>simp only [bx,cK];rw [ih (k+1) t (by rw [show k+1+t=k+(t+1) by omega];exact h)]
  exact gen fr 0 t (by simpa using hd)
section
variable {P:Program} {ops:Array Oper}
def YQ (P:Program) (ops:Array Oper) (i:Nat) (g:GV) (fr:List GV) (Γ:List Ob):Prop :=
 ∃ o c,ops[i]?=some o/\gG ops.toList (cK (o.looksAt ops) 0 fr) o.guard=some c/\match c with
  | true=>YG P o.op (cK (o.looksAt ops) 0 fr) Γ g
  | false=>g=.v undef
abbrev kT:=List (Nat × GV × List GV)
def GA (P:Program) (o:Oper) (Kt:GV->List Ob->Prop) (fr:List GV) (Γ:List Ob):Prop :=
 ∀ B K β w l,Inv B K β Γ w->FR K β fr l->Dx P o (ev l) w fun v w'=>∃ K' bV g aL,cq K K'/\cZ β bV/\Inv B K' bV aL w'/\(∀ fr l,FR K' bV fr l->FR K' bV (bu fr o.dst g) (put l o.dst v))/\Kt g aL
def GI (P:Program) (ops:Array Oper) (i:Nat) (Kt:GV->List Ob->Prop) (fr:List GV) (Γ:List Ob):Prop :=
 ∃ o c,ops[i]?=some o/\gG ops.toList fr o.guard=some c/\match c with
  | true=>GA P o Kt fr Γ
  | false=>Kt (.v undef) Γ
def kW (ops:Array Oper) (i:Nat):Option Tmp:=(ops[i]?).bind (·.dst)
def waits (ops:Array Oper) (i j:Nat):Bool:=match ops[i]? with
 | some o=>o.after.any fun e=>Region.binds .any e&&e.on==j
 | none=>false
def stay (ops:Array Oper) (i:Nat) (aW:kT):kT:=aW.filter fun p=>!waits ops i p.1
def pA (P:Program) (ops:Array Oper) (Q:List GV->List Ob->Prop):Nat->kT->Array Bool->List GV->List Ob->Prop
 | 0,_,listed,fr,Γ=>Region.ready .any ops listed=[]/\Q fr Γ
 | n+1,aW,listed,fr,Γ=>(Region.ready .any ops listed=[]->Q fr Γ) /\
   ∀ i∈Region.ready .any ops listed,GI P ops i (fun g aL=>(∀ p∈stay ops i aW,YQ P ops p.1 p.2.1 p.2.2 aL)/\pA P ops Q n (stay ops i aW) (listed.setIfInBounds i true) (bu fr (kW ops i) g) aL) fr Γ
theorem GA.mono {o:Oper} {Kt Eg:GV->List Ob->Prop} {fr:List GV} {Γ:List Ob} (h:GA P o Kt fr Γ) (hk:∀ g aL,Kt g aL->Eg g aL):GA P o Eg fr Γ:=fun B K β w l hI hF=>by
 have:=h B K β w l hI hF;unfold Dx at *;generalize (execOp (ev l) o).run P w=r at *
 have key:∀ v w',(∃ K' bV g aL,cq K K'/\cZ β bV/\Inv B K' bV aL w'/\(∀ fr l,FR K' bV fr l->FR K' bV (bu fr o.dst g) (put l o.dst v))/\Kt g aL)->∃ K' bV g aL,cq K K'/\cZ β bV/\Inv B K' bV aL w'/\(∀ fr l,FR K' bV fr l->FR K' bV (bu fr o.dst g) (put l o.dst v))/\Eg g aL :=
  fun v w' ⟨K',bV,g,aL,h1,h2,h3,h4,h5⟩=>⟨K',bV,g,aL,h1,h2,h3,h4,hk _ _ h5⟩
 cases r with
 | ok n w'=>cases n <;> simp only at this |- <;> first
   | exact key _ _ this
   | exact Calls.mono this (fun e RI ⟨v,he,hv⟩=>⟨v,he,key _ _ hv⟩)
   | exact Rows.mono this (fun _ _ hv=>key _ _ hv)
   | exact this.elim
 | halt x w'=>exact this.elim
theorem GI.mono {i:Nat} {Kt Eg:GV->List Ob->Prop} {fr:List GV} {Γ:List Ob} (h:GI P ops i Kt fr Γ) (hk:∀ g aL,Kt g aL->Eg g aL):GI P ops i Eg fr Γ:=by
 obtain ⟨o,c,h1,h2,h3⟩:=h;refine ⟨o,c,h1,h2,?_⟩
 cases c with
 | true=>exact GA.mono h3 hk
 | false=>exact hk _ _ h3
theorem pA.QN {Q:List GV->List Ob->Prop}:∀ (n:Nat) (aW dI:kT) (listed:Array Bool) (fr:List GV) (Γ:List Ob),(∀ p∈dI,p∈aW)->pA P ops Q n aW listed fr Γ->pA P ops Q n dI listed fr Γ
 | 0,_,_,_,_,_,_,h=>h
 | n+1,aW,dI,listed,fr,Γ,hs,h=>⟨h.1,fun i hi=>(h.2 i hi).mono fun g aL ⟨h1,h2⟩=>by
  have oc:∀ p∈stay ops i dI,p∈stay ops i aW:=fun p hp=>by
   simp only [stay,mem_filter] at hp |-;exact ⟨hs p hp.1,hp.2⟩
  exact ⟨fun p hp=>h1 p (oc p hp),pA.QN n _ _ _ _ _ oc h2⟩⟩
theorem pA.sound {m:Nat} {Q:List GV->List Ob->Prop} {B:Bs} {Q':dP} (hm:B.m=m) (hQ:∀ fr Γ,Q fr Γ->Q' .normal fr Γ):∀ (n:Nat) (aW:kT) (listed:Array Bool) (fr:List GV) (Γ:List Ob) (K:Fz) (β:Bt) (w:World) (l:List Value),
  pA P ops Q n aW listed fr Γ->Inv B K β Γ w->FR K β fr l->wpAny P .any ops (lift (gl B Q')) n listed (act l) w
 | 0,_,_,fr,Γ,K,β,w,l,h,hI,hF=>⟨h.1,l,rfl,K,β,fr,Γ,hI,hF,hQ _ _ h.2⟩
 | n+1,aW,listed,fr,Γ,K,β,w,l,h,hI,hF=>by
  refine ⟨fun h0=>⟨l,rfl,K,β,fr,Γ,hI,hF,hQ _ _ (h.1 h0)⟩,fun i hi=>?_⟩;obtain ⟨o,c,ho,hg,hc⟩:=h.2 i hi;have hw:=H3 hF hg;unfold wpOp;simp only [ho,hw]
  have hd:kW ops i=o.dst:=by simp [kW,ho]
  cases c with
  | true =>
   simp only [if_true];refine .inl (Vq (by rw [nq];exact hc B K β w l hI hF) ?_);rintro v w' ⟨K',bV,g,aL,hK,hB,bj,hf,h1,h2⟩;rw [pd];rw [hd] at h2;exact pA.sound hm hQ n _ _ _ _ K' bV w' _ h2 bj (hf _ _ (hF.mono hK hB))
  | false =>
   simp only [Bool.false_eq_true,if_false];rw [pd];obtain ⟨h1,h2⟩:=hc;rw [hd] at h2;exact pA.sound hm hQ n _ _ _ _ K β w _ h2 hI (hF.put o.dst (.v _))
theorem G5 {fr:List GV} {t t':Nat} (h:t'≠t) (g:GV):cH (bx fr t g) t'=cH fr t':=by
 induction fr generalizing t t' with
 | nil=>rfl
 | cons x l ih=>cases t with
  | zero=>cases t' with | zero=>exact absurd rfl h | succ t'=>rfl
  | succ t=>cases t' with | zero=>rfl | succ t'=>exact ih (fun e=>h (by rw [e]))
theorem Is {fr:List GV} {t t':Nat} {g:GV}:jE (bx fr t g) t'=jE fr t':=by
 induction fr generalizing t t' with
 | nil=>rfl
 | cons x l ih=>cases t with
  | zero=>cases t' <;> rfl
  | succ t=>cases t' with | zero=>rfl | succ t'=>exact ih
theorem TW {o:Oper} {fr:List GV} {d:Option Tmp} {g:GV} (h:∀ t,d=some t->t ∉ o.looksAt ops):gG ops.toList (bu fr d g) o.guard=gG ops.toList fr o.guard:=by
 cases d with
 | none=>rfl
 | some t =>
  have h:=h t rfl;obtain ⟨d',op,ty,pos,af,gd⟩:=o
  cases gd with
  | none=>rfl
  | some gd =>
   obtain ⟨j,b⟩:=gd
   have bJ:∀ t',jE ops.toList j=true->(rH ops.toList j).dst=some t'->t'≠t:=fun t' hj A5 he=>by
    subst he;apply h;have lQ:=IL ops.toList j (A9 hj);simp only [Array.toArray_toList] at lQ;simp [Oper.looksAt,lQ,A5]
   have hv:ny ops.toList (bx fr t g) j=ny ops.toList fr j:=by
    unfold ny
    cases gV:jE ops.toList j with
    | false=>rfl
    | true =>
     cases hd:(rH ops.toList j).dst with
     | none=>rfl
     | some t' =>
      simp only;rw [Is,G5 (bJ t' gV hd)]
   simp only [gG,bu,hv]
theorem YQ.at {i:Nat} {g:GV} {fr:List GV} {Γ:List Ob} {o:Oper} (h:YQ P ops i g fr Γ) (ho:ops[i]?=some o) {B:Bs} {K:Fz} {β:Bt} {w:World} {l:List Value} (hI:Inv B K β Γ w) (hF:FR K β fr l):∃ v,Rel K β v g/\((Region.wanted o (yielded ops (act l).tmps)=true/\(execOp (ev l) o).run P w=.ok (.value v) w)\/(Region.wanted o (yielded ops (act l).tmps)=false/\v=undef)):=by
 obtain ⟨o',c,h1,h2,h3⟩:=h;rw [ho] at h1;cases h1;have hw:=H3 (hF.mask (ts:=o.looksAt ops) 0) h2
 cases c with
 | true =>
  obtain ⟨v,hr,hv⟩:=h3 B K β w l hI (hF.mask 0);exact ⟨v,hv,.inl ⟨hw,by obtain ⟨d,op,ty,pos,af,gd⟩:=o;exact hr d ty pos af⟩⟩
 | false=>subst h3;exact ⟨undef,.v _,.inr ⟨hw,rfl⟩⟩
theorem GI.comm {i j:Nat} {g:GV} {oi oj:Oper} {Kt:GV->List Ob->Prop} {fr:List GV} {Γ:List Ob} (hi:ops[i]?=some oi) (hj:ops[j]?=some oj) (QW:oi.apart ops oj=true) (hsj:∀ cs b,oj.op≠.select cs b) (hy:YQ P ops i g fr Γ)
  (h:GI P ops j Kt (bu fr oi.dst g) Γ):GI P ops j Kt fr Γ:=by
 obtain ⟨a1,a2,a3⟩:=Oper.apart_spec QW;obtain ⟨o,c,h1,h2,h3⟩:=h;rw [hj] at h1;cases h1;rw [TW a1] at h2;refine ⟨oj,c,hj,h2,?_⟩
 cases c with
 | false=>exact h3
 | true =>
  intro B K β w l hI hF;obtain ⟨v,hv,_⟩:=hy.at hi hI hF;have:=h3 B K β w (put l oi.dst v) hI (hF.put _ hv)
  have he:execOp (ev (put l oi.dst v)) oj=execOp (ev l) oj:=by
   have:=execOp_put oj hsj (act l) oi.dst v a1;rw [pd,nq,nq] at this;exact this
  unfold Dx at this |-;rw [he] at this;exact this
theorem pA.first {Q:List GV->List Ob->Prop} {i:Nat} {oi:Oper} {g:GV} {oA:List GV} (hi:ops[i]?=some oi) (Zm:∀ (j:Nat) (o:Oper) cs b,ops[j]?=some o->o.op≠.select cs b) :
  ∀ (n:Nat) (aW:kT) (listed:Array Bool) (fr:List GV) (Γ:List Ob),
   (∀ j oj,ops[j]?=some oj->j≠i->listed.getD j true=false->(∀ e∈oj.after,Region.binds .any e=true->e.on≠i)->oi.apart ops oj=true) ->
   i∈Region.ready .any ops listed->cK (oi.looksAt ops) 0 fr=cK (oi.looksAt ops) 0 oA->YQ P ops i g oA Γ->(∀ p∈aW,YQ P ops p.1 p.2.1 p.2.2 Γ) ->
   pA P ops Q n ((i,g,oA)::aW) (listed.setIfInBounds i true) (bu fr oi.dst g) Γ->pA P ops Q (n+1) aW listed fr Γ:=by
 have hd:kW ops i=oi.dst:=by simp [kW,hi]
 have VS:∀ {fr:List GV} {Γ:List Ob},cK (oi.looksAt ops) 0 fr=cK (oi.looksAt ops) 0 oA->YQ P ops i g oA Γ->YQ P ops i g fr Γ:=by
  rintro fr Γ hm ⟨o,c,h1,h2,h3⟩;rw [hi] at h1;cases h1;exact ⟨oi,c,hi,by rw [hm];exact h2,by rw [hm];exact h3⟩
 have self:∀ (n:Nat) (aW:kT) (listed:Array Bool) (fr:List GV) (Γ:List Ob),cK (oi.looksAt ops) 0 fr=cK (oi.looksAt ops) 0 oA->YQ P ops i g oA Γ->(∀ p∈aW,YQ P ops p.1 p.2.1 p.2.2 Γ) ->
   pA P ops Q n ((i,g,oA)::aW) (listed.setIfInBounds i true) (bu fr oi.dst g) Γ ->
   GI P ops i (fun g aL=>(∀ p∈stay ops i aW,YQ P ops p.1 p.2.1 p.2.2 aL)/\pA P ops Q n (stay ops i aW) (listed.setIfInBounds i true) (bu fr (kW ops i) g) aL) fr Γ:=by
  intro n aW listed fr Γ sT hy hp H
  have b7:∀ p∈stay ops i aW,p∈aW:=fun p hp=>by simp only [stay,mem_filter] at hp;exact hp.1
  have H':pA P ops Q n (stay ops i aW) (listed.setIfInBounds i true) (bu fr (kW ops i) g) Γ:=by
   rw [hd];exact pA.QN n _ _ _ _ _ (fun p hp=>mem_cons_of_mem _ (b7 p hp)) H
  obtain ⟨o,c,h1,h2,h3⟩:=VS sT hy;rw [hi] at h1;cases h1
  have qh:gG ops.toList fr oi.guard=some c:=by
   obtain ⟨d',op,ty,pos,af,gd⟩:=oi
   cases gd with
   | none=>exact h2
   | some gd =>
    obtain ⟨j,b⟩:=gd;simp only [gG] at h2 |-
    have hv:∀ x,ny ops.toList (cK (Oper.looksAt ops ⟨d',op,ty,pos,af,some (j,b)⟩) 0 fr) j=some x->ny ops.toList fr j=some x:=by
     intro x hx;unfold ny at hx |-
     cases gV:jE ops.toList j with
     | false=>rw [gV] at hx;cases hx
     | true =>
      rw [gV] at hx
      cases hdt:(rH ops.toList j).dst with
      | none=>rw [hdt] at hx;cases hx
      | some t =>
       rw [hdt] at hx;simp only at hx |-
       have u9:∀ (ts:List Nat) (fr:List GV) (k t:Nat),jE (cK ts k fr) t=jE fr t:=by
        intro ts fr
        induction fr with
        | nil=>intro k t;rfl
        | cons x fr ih=>intro k t;cases t with | zero=>rfl | succ t=>exact ih (k+1) t
       have Q3:∀ (ts:List Nat) (fr:List GV) (k t:Nat) ,cH (cK ts k fr) t=cH fr t\/cH (cK ts k fr) t=.U:=by
        intro ts fr
        induction fr with
        | nil=>intro k t;exact .inl rfl
        | cons x fr ih =>
         intro k t
         cases t with
         | zero=>simp only [cK,cH];split <;> first | exact .inl rfl | exact .inr rfl
         | succ t=>exact ih (k+1) t
       rw [u9] at hx
       rcases Q3 (Oper.looksAt ops ⟨d',op,ty,pos,af,some (j,b)⟩) fr 0 t with h | h
       ·rw [h] at hx;exact hx
       ·rw [h] at hx
        split at hx <;> first | (rename_i h5;cases h5;done) | cases hx
    split at h2
    ·rename_i c' hc;rw [hv _ hc];exact h2
    ·rename_i hc;rw [hv _ hc];exact h2
    ·cases h2
  refine ⟨oi,c,hi,qh,?_⟩
  have iT:∀ p∈stay ops i aW,YQ P ops p.1 p.2.1 p.2.2 Γ:=fun p hq=>hp p (b7 p hq)
  cases c with
  | true =>
   intro B K β w l hI hF;obtain ⟨v,hr,hv⟩:=h3 B K β w l hI (hF.mask 0)
   have mT:(execOp (ev l) oi).run P w=.ok (.value v) w:=by obtain ⟨d,op,ty,pos,af,gd⟩:=oi;exact hr d ty pos af
   unfold Dx;rw [mT];exact ⟨K,β,g,Γ,cq.refl K,cZ.refl β,hI,fun fr l hf=>hf.put _ hv,iT,H'⟩
  | false =>
   simp only at h3;subst h3;exact ⟨iT,H'⟩
 intro n
 induction n with
 | zero =>
  intro aW listed fr Γ _ hr sT hy hp H;refine ⟨fun h=>(by rw [h] at hr;cases hr),fun j hj=>?_⟩
  by_cases oa:j=i
  ·subst oa;exact self 0 aW listed fr Γ sT hy hp H
  ·have:=ready_mono hj oa;rw [H.1] at this;cases this
 | succ n ih =>
  intro aW listed fr Γ Q1 hr sT hy hp H;refine ⟨fun h=>(by rw [h] at hr;cases hr),fun j hj=>?_⟩
  by_cases oa:j=i
  ·subst oa;exact self (n+1) aW listed fr Γ sT hy hp H
  ·have h1:=H.2 j (ready_mono hj oa);obtain ⟨Uy,oj,MQ,aM⟩:=mem_ready.1 hj
   have UI:∀ e∈oj.after,Region.binds .any e=true->e.on≠i:=fun e he hb heq=>by
    have h1:=aM e he hb;have h0:=(mem_ready.1 hr).1;rw [heq] at h1
    rcases Nat.lt_or_ge i listed.size with h' | h'
    ·simp [h'] at h0 h1;rw [h0] at h1;cases h1
    ·simp [Array.getElem?_eq_none h'] at h1
   have QW:=Q1 j oj MQ oa Uy UI;obtain ⟨a1,a2,a3⟩:=Oper.apart_spec QW
   have rQ:waits ops j i=false:=by
    simp only [waits,MQ];rw [Array.any_eq_false'];intro e he hb;simp only [Bool.and_eq_true,beq_iff_eq] at hb;exact UI e he hb.1 hb.2
   have b7:stay ops j ((i,g,oA)::aW)=(i,g,oA)::stay ops j aW:=by
    simp [stay,List.filter_cons,rQ]
   rw [b7] at h1;have h2:=GI.comm hi MQ QW (fun cs b=>Zm j oj cs b MQ) (VS sT hy) h1
   have XF:kW ops j=oj.dst:=by simp [kW,MQ]
   have Ux:∀ k ok,ops[k]?=some ok->k≠i->(listed.setIfInBounds j true).getD k true=false ->
     (∀ e∈ok.after,Region.binds .any e=true->e.on≠i)->oi.apart ops ok=true:=fun k ok hk b6 XU bN=>by
    refine Q1 k ok hk b6 ?_ bN
    by_cases hjk:j=k
    ·subst hjk;exact Uy
    ·rw [getD_set_ne true hjk] at XU;exact XU
   refine h2.mono fun gj aL ⟨h3,h4⟩=>⟨fun p hp=>h3 p (mem_cons_of_mem _ hp),?_⟩
   refine ih (stay ops j aW) (listed.setIfInBounds j true) (bu fr (kW ops j) gj) aL Ux (ready_mono hr (Ne.symm oa)) ?_ (h3 (i,g,oA) (mem_cons_self)) (fun p hp=>h3 p (mem_cons_of_mem _ hp)) ?_
   ·rw [<-sT,XF];exact PT a3 fr
   ·rw [Array.setIfInBounds_comm _ _ oa]
    have Wu:bu (bu fr (kW ops j) gj) oi.dst g=bu (bu fr oi.dst g) (kW ops j) gj:=by
     rw [XF]
     cases hdi:oi.dst with
     | none=>rfl
     | some t =>
      cases hdj':oj.dst with
      | none=>rfl
      | some u =>
       have bJ:t≠u:=fun e=>a2 t hdi (by rw [hdj',e])
       have gen:∀ (fr:List GV) (t u:Nat),t≠u->bx (bx fr u gj) t g=bx (bx fr t g) u gj:=by
        intro fr
        induction fr with
        | nil=>intro t u _;rfl
        | cons x fr ih =>
         intro t u h
         cases t with
         | zero=>cases u with | zero=>exact absurd rfl h | succ u=>rfl
         | succ t=>cases u with | zero=>rfl | succ u=>simp only [bx];rw [ih t u (fun e=>h (by rw [e]))]
       exact gen fr t u bJ
    rw [Wu];exact h4
inductive Ot where
 | nil
 | q (i:Nat) (r:Ot)
 | a (i:Nat) (r:Ot)
 | f (i:Nat) (r:Ot) (j:Nat) (s:Ot)
def Ot.len:Ot->Nat
 | .nil=>0
 | .q _ r=>r.len+1
 | .a _ r=>r.len+1
 | .f _ r _ _=>r.len+1
def tl (ops:Array Oper):Ot->Array Bool->Bool
 | .nil,listed=>(Region.ready .any ops listed).isEmpty
 | .q i r,listed=>(Region.ready .any ops listed).contains i&&Region.free .any ops listed i&&tl ops r (listed.setIfInBounds i true)
 | .a i r,listed=>(Region.ready .any ops listed==[i])&&tl ops r (listed.setIfInBounds i true)
 | .f i r j s,listed=>(Region.ready .any ops listed==[i,j])&&tl ops r (listed.setIfInBounds i true)&&tl ops s (listed.setIfInBounds j true)&&(r.len==s.len)
def GO (P:Program) (ops:Array Oper) (Q:List GV->List Ob->Prop):Ot->kT->List GV->List Ob->Prop
 | .nil,_,fr,Γ=>Q fr Γ
 | .q i r,aW,fr,Γ=>∃ g,YQ P ops i g fr Γ/\GO P ops Q r ((i,g,fr)::aW) (bu fr (kW ops i) g) Γ
 | .a i r,aW,fr,Γ=>GI P ops i (fun g aL=>(∀ p∈stay ops i aW,YQ P ops p.1 p.2.1 p.2.2 aL)/\GO P ops Q r (stay ops i aW) (bu fr (kW ops i) g) aL) fr Γ
 | .f i r j s,aW,fr,Γ=>GI P ops i (fun g aL=>(∀ p∈stay ops i aW,YQ P ops p.1 p.2.1 p.2.2 aL)/\GO P ops Q r (stay ops i aW) (bu fr (kW ops i) g) aL) fr Γ/\GI P ops j (fun g aL=>(∀ p∈stay ops j aW,YQ P ops p.1 p.2.1 p.2.2 aL)/\GO P ops Q s (stay ops j aW) (bu fr (kW ops j) g) aL) fr Γ
theorem GO.fork {ops:Array Oper} {Q:List GV->List Ob->Prop} {i j:Nat} {r s:Ot} {aW:kT} {fr:List GV} {Γ:List Ob} (h1:GO P ops Q (.a i r) aW fr Γ) (h2:GO P ops Q (.a j s) aW fr Γ):GO P ops Q (.f i r j s) aW fr Γ:=⟨h1,h2⟩
theorem GO.all {ol:List Oper} {Q:List GV->List Ob->Prop} (hs:Region.noSelect ol.toArray=true):∀ (ord:Ot) (aW:kT) (listed:Array Bool) (fr:List GV) (Γ:List Ob),
  tl ol.toArray ord listed=true->(∀ p∈aW,YQ P ol.toArray p.1 p.2.1 p.2.2 Γ)->GO P ol.toArray Q ord aW fr Γ->pA P ol.toArray Q ord.len aW listed fr Γ
 | .nil,aW,listed,fr,Γ,ho,_,h=>⟨by simpa [tl] using ho,h⟩
 | .q i r,aW,listed,fr,Γ,ho,hp,h=>by
  simp only [tl,Bool.and_eq_true] at ho;obtain ⟨⟨hr,hf⟩,ho⟩:=ho;obtain ⟨g,hy,h⟩:=h
  have vZ:i∈Region.ready .any ol.toArray listed:=by simpa using hr
  obtain ⟨_,o,hi,_⟩:=mem_ready.1 vZ
  have hd:kW ol.toArray i=o.dst:=by simp only [kW,hi];rfl
  rw [hd] at h
  exact pA.first hi (Region.noSelect_spec hs) _ aW listed fr Γ (Region.free_spec hi hf) vZ rfl hy hp (GO.all hs r _ _ _ _ ho (fun p iT=>by
   rcases List.mem_cons.1 iT with rfl | iT
   ·exact hy
   ·exact hp p iT) h)
 | .a i r,aW,listed,fr,Γ,ho,hp,h=>by
  simp only [tl,Bool.and_eq_true,beq_iff_eq] at ho;obtain ⟨hr,ho⟩:=ho;refine ⟨fun h0=>by rw [h0] at hr;simp at hr,fun j hj=>?_⟩;rw [hr,List.mem_singleton] at hj;subst hj
  exact GI.mono h fun g aL ⟨h1,h2⟩=>⟨h1,GO.all hs r _ _ _ _ ho h1 h2⟩
 | .f i r j s,aW,listed,fr,Γ,ho,hp,h=>by
  simp only [tl,Bool.and_eq_true,beq_iff_eq] at ho;obtain ⟨⟨⟨hr,ho1⟩,ho2⟩,hl⟩:=ho;refine ⟨fun h0=>by rw [h0] at hr;simp at hr,fun k hk=>?_⟩;rw [hr] at hk;simp only [List.mem_cons,List.not_mem_nil,or_false] at hk
  rcases hk with rfl | rfl
  ·exact GI.mono h.1 fun g aL ⟨h1,h2⟩=>⟨h1,GO.all hs r _ _ _ _ ho1 h1 h2⟩
  ·exact GI.mono h.2 fun g aL ⟨h1,h2⟩=>⟨h1,by
    have:=GO.all hs s _ _ _ _ ho2 h1 h2
    rw [<-hl] at this;exact this⟩
theorem GW.draw {m id:Nat} {ol:List Oper} {Q:dP} {fr:List GV} {Γ:List Ob} (ord:Ot) (hm:P.follows .mixedOrders=true)
  (eH:(Region.noSelect ol.toArray&&(ord.len==ol.length)&&tl ol.toArray ord (Array.replicate ol.toArray.size false))=true)
  (h:GO P ol.toArray (Q .normal) ord [] fr Γ):GW P m (.region id ol.toArray true) Q fr Γ:=fun B K β w l hB hI hF=>by
 simp only [Bool.and_eq_true,beq_iff_eq] at eH;obtain ⟨⟨hs,hl⟩,ho⟩:=eH;refine wp_region_any hm ?_;have h1:=GO.all hs ord [] _ fr Γ ho (fun p hp=>by cases hp) h;rw [hl] at h1;have h2:=pA.sound (Q':=Q) hB (fun fr Γ h=>h) _ _ _ _ _ K β w.drew l h1 (hI.same (Ext.drew w)) hF;simpa using h2
end
def jv:List Oper->Nat->Option Oper
 | [],_=>none
 | o::_,0=>some o
 | _::r,n+1=>jv r n
theorem qv {ol:List Oper} {i:Nat} {o:Oper} (h:jv ol i=some o):ol.toArray[i]?=some o:=by
 have:∀ (ol:List Oper) (i:Nat),jv ol i=ol[i]?:=by
  intro ol
  induction ol with
  | nil=>intro i;rfl
  | cons x ol ih=>intro i;cases i with | zero=>rfl | succ i=>simpa [jv] using ih i
 rw [this] at h;simpa using h
section
variable {P:Program} {Q:List GV->List Ob->Prop} {ol:List Oper} {r:Ot} {aW:kT} {fr:List GV} {Γ:List Ob} {i:Nat} {g:GV} {d:Option Tmp} {op:Op} {ty:TypeId} {pos:String} {af:Array Edge} {gd:Nat × Bool}
theorem uR {o:Oper} (h:jv ol i=some o):kW ol.toArray i=o.dst:=by simp only [kW,qv h];rfl
theorem GO.more {ops:Array Oper}:∀ (r:Ot) (aW dI:kT) (fr:List GV) (Γ:List Ob),(∀ p∈dI,p∈aW\/∀ Γ,YQ P ops p.1 p.2.1 p.2.2 Γ)->GO P ops Q r aW fr Γ->GO P ops Q r dI fr Γ
 | .nil,_,_,_,_,_,h=>h
 | .q i r,aW,dI,fr,Γ,hs,⟨g,h1,h2⟩=>⟨g,h1,GO.more r _ _ _ _ (fun p hp=>by
   rcases List.mem_cons.1 hp with rfl | hp
   ·exact .inl (mem_cons_self)
   ·exact (hs p hp).imp (mem_cons_of_mem _) id) h2⟩
 | .a i r,aW,dI,fr,Γ,hs,h=>GI.mono h fun g aL ⟨h1,h2⟩=>by
   have oc:∀ p∈stay ops i dI,p∈stay ops i aW\/∀ Γ,YQ P ops p.1 p.2.1 p.2.2 Γ:=fun p hp=>by
    simp only [stay,mem_filter] at hp |-;exact (hs p hp.1).imp (fun h=>⟨h,hp.2⟩) id
   exact ⟨fun p hp=>(oc p hp).elim (h1 p) (fun h=>h aL),GO.more r _ _ _ _ oc h2⟩
 | .f i r j s,aW,dI,fr,Γ,hs,h=>by
   have oc:∀ k,∀ p∈stay ops k dI,p∈stay ops k aW\/∀ Γ,YQ P ops p.1 p.2.1 p.2.2 Γ:=fun k p hp=>by
    simp only [stay,mem_filter] at hp |-;exact (hs p hp.1).imp (fun h=>⟨h,hp.2⟩) id
   exact ⟨GI.mono h.1 fun g aL ⟨h1,h2⟩=>⟨fun p hp=>(oc i p hp).elim (h1 p) (fun h=>h aL),GO.more r _ _ _ _ (oc i) h2⟩,GI.mono h.2 fun g aL ⟨h1,h2⟩=>⟨fun p hp=>(oc j p hp).elim (h1 p) (fun h=>h aL),GO.more s _ _ _ _ (oc j) h2⟩⟩
theorem GO.skip {ops:Array Oper} {x:Nat × GV × List GV} (hx:∀ Γ,YQ P ops x.1 x.2.1 x.2.2 Γ) (h:GO P ops Q r aW fr Γ):GO P ops Q r (x::aW) fr Γ:=by
 refine GO.more r aW _ fr Γ (fun p hp=>?_) h
 rcases List.mem_cons.1 hp with he | hp
 ·subst he;exact .inr hx
 ·exact .inl hp
theorem GO.yq {o:Oper} (hi:jv ol i=some o) (hy:YQ P ol.toArray i g fr Γ) (h:GO P ol.toArray Q r ((i,g,fr)::aW) (bu fr o.dst g) Γ):GO P ol.toArray Q (.q i r) aW fr Γ :=
 ⟨g,hy,by rw [uR hi];exact h⟩
theorem GO.yp {o:Oper} (hi:jv ol i=some o) (hy:∀ Γ,YQ P ol.toArray i g fr Γ) (h:GO P ol.toArray Q r aW (bu fr o.dst g) Γ):GO P ol.toArray Q (.q i r) aW fr Γ :=
 GO.yq hi (hy Γ) (GO.skip hy h)
theorem B3 {c:Bool} {ops:List Oper} (hv:ny ops fr gd.1=some (some c)) (hc:c=gd.2):gG ops fr (some gd)=some true:=by
 obtain ⟨j,b⟩:=gd;simp only at hv hc;simp only [gG,hv,hc];simp
theorem EN {c:Bool} {ops:List Oper} (hv:ny ops fr gd.1=some (some c)) (hc:c=!gd.2):gG ops fr (some gd)=some false:=by
 obtain ⟨j,b⟩:=gd;simp only at hv hc;simp only [gG,hv,hc];simp
theorem TX {ops:List Oper} (hv:ny ops fr gd.1=some none):gG ops fr (some gd)=some false:=by
 obtain ⟨j,b⟩:=gd;simp only at hv;simp only [gG,hv]
theorem YQ.t {o:Oper} (hi:jv ol i=some o) (hg:gG ol (cK (o.looksAt ol.toArray) 0 fr) o.guard=some true) (hy:YG P o.op (cK (o.looksAt ol.toArray) 0 fr) Γ g):YQ P ol.toArray i g fr Γ:=⟨o,true,qv hi,hg,hy⟩
theorem YQ.f {o:Oper} (hi:jv ol i=some o) (hg:gG ol (cK (o.looksAt ol.toArray) 0 fr) o.guard=some false):YQ P ol.toArray i (.v undef) fr Γ:=⟨o,false,qv hi,hg,rfl⟩
theorem OQ (hi:jv ol i=some ⟨d,op,ty,pos,af,none⟩) (hy:YG P op (cK (Oper.looksAt ol.toArray ⟨d,op,ty,pos,af,none⟩) 0 fr) Γ g) (h:GO P ol.toArray Q r ((i,g,fr)::aW) (bu fr d g) Γ):GO P ol.toArray Q (.q i r) aW fr Γ :=
 GO.yq hi (YQ.t hi rfl hy) h
theorem OP (hi:jv ol i=some ⟨d,op,ty,pos,af,none⟩) (hy:∀ Γ,YG P op (cK (Oper.looksAt ol.toArray ⟨d,op,ty,pos,af,none⟩) 0 fr) Γ g) (h:GO P ol.toArray Q r aW (bu fr d g) Γ):GO P ol.toArray Q (.q i r) aW fr Γ :=
 GO.yp hi (fun Γ=>YQ.t hi rfl (hy Γ)) h
theorem ZY {c:Bool} (hi:jv ol i=some ⟨d,op,ty,pos,af,some gd⟩) (hv:ny ol (cK (Oper.looksAt ol.toArray ⟨d,op,ty,pos,af,some gd⟩) 0 fr) gd.1=some (some c)) (hc:c=gd.2) (hy:YG P op (cK (Oper.looksAt ol.toArray ⟨d,op,ty,pos,af,some gd⟩) 0 fr) Γ g)
  (h:GO P ol.toArray Q r ((i,g,fr)::aW) (bu fr d g) Γ):GO P ol.toArray Q (.q i r) aW fr Γ :=
 GO.yq hi (YQ.t hi (B3 hv hc) hy) h
theorem Xl {c:Bool} (hi:jv ol i=some ⟨d,op,ty,pos,af,some gd⟩) (hv:ny ol (cK (Oper.looksAt ol.toArray ⟨d,op,ty,pos,af,some gd⟩) 0 fr) gd.1=some (some c)) (hc:c=gd.2) (hy:∀ Γ,YG P op (cK (Oper.looksAt ol.toArray ⟨d,op,ty,pos,af,some gd⟩) 0 fr) Γ g)
  (h:GO P ol.toArray Q r aW (bu fr d g) Γ):GO P ol.toArray Q (.q i r) aW fr Γ :=
 GO.yp hi (fun Γ=>YQ.t hi (B3 hv hc) (hy Γ)) h
theorem ZU {c:Bool} (hi:jv ol i=some ⟨d,op,ty,pos,af,some gd⟩) (hv:ny ol (cK (Oper.looksAt ol.toArray ⟨d,op,ty,pos,af,some gd⟩) 0 fr) gd.1=some (some c)) (hc:c=!gd.2) (h:GO P ol.toArray Q r aW (bu fr d (.v undef)) Γ):GO P ol.toArray Q (.q i r) aW fr Γ :=
 GO.yp hi (fun Γ=>YQ.f hi (EN hv hc)) h
theorem ZV (hi:jv ol i=some ⟨d,op,ty,pos,af,some gd⟩) (hv:ny ol (cK (Oper.looksAt ol.toArray ⟨d,op,ty,pos,af,some gd⟩) 0 fr) gd.1=some none) (h:GO P ol.toArray Q r aW (bu fr d (.v undef)) Γ):GO P ol.toArray Q (.q i r) aW fr Γ :=
 GO.yp hi (fun Γ=>YQ.f hi (TX hv)) h
theorem II:∀ (fr:List GV) (ts:List Nat) (k t:Nat),k+t∈ts->cH (cK ts k fr) t=cH fr t
 | [],_,_,_,_=>rfl
 | g::fr,ts,k,0,h=>by
  have hc:ts.contains k=true:=List.contains_iff_mem.2 (by simpa using h);simp only [cK,hc,cH]
 | g::fr,ts,k,t+1,h=>by
  simp only [cK,cH];exact II fr ts (k+1) t (by rw [show k+1+t=k+(t+1) by omega];exact h)
theorem vh {o:Oper} {ops:Array Oper} {x:Operand} (h:x∈o.op.operands.toList):aV (cK (o.looksAt ops) 0 fr) x=aV fr x:=by
 cases x with
 | tmp t =>
  refine II fr _ 0 t ?_;rw [Nat.zero_add];refine List.mem_append_left _ (List.mem_filterMap.2 ⟨.tmp t,h,rfl⟩)
 | _=>rfl
theorem ZX {x:Operand} (hi:jv ol i=some ⟨d,.move x,ty,pos,af,none⟩) (h:GO P ol.toArray Q r aW (bu fr d (aV fr x)) Γ):GO P ol.toArray Q (.q i r) aW fr Γ :=
 OP hi (fun Γ=>by
  have:=YG.mv (P:=P) (x:=x) (Γ:=Γ) (fr:=cK (Oper.looksAt ol.toArray ⟨d,.move x,ty,pos,af,none⟩) 0 fr)
  rw [vh (by simp [Op.operands])] at this;exact this) h
theorem ZW {x:Operand} (hi:jv ol i=some ⟨d,.assign x,ty,pos,af,none⟩) (h:GO P ol.toArray Q r aW (bu fr d (aV fr x)) Γ):GO P ol.toArray Q (.q i r) aW fr Γ :=
 OP hi (fun Γ=>by
  have:=YG.wL (P:=P) (x:=x) (Γ:=Γ) (fr:=cK (Oper.looksAt ol.toArray ⟨d,.assign x,ty,pos,af,none⟩) 0 fr)
  rw [vh (by simp [Op.operands])] at this;exact this) h
theorem Yh {x:Operand} {c:Bool} (hi:jv ol i=some ⟨d,.move x,ty,pos,af,some gd⟩) (hv:ny ol (cK (Oper.looksAt ol.toArray ⟨d,.move x,ty,pos,af,some gd⟩) 0 fr) gd.1=some (some c)) (hc:c=gd.2) (h:GO P ol.toArray Q r aW (bu fr d (aV fr x)) Γ):GO P ol.toArray Q (.q i r) aW fr Γ :=
 Xl hi hv hc (fun Γ=>by
  have:=YG.mv (P:=P) (x:=x) (Γ:=Γ) (fr:=cK (Oper.looksAt ol.toArray ⟨d,.move x,ty,pos,af,some gd⟩) 0 fr)
  rw [vh (by simp [Op.operands])] at this;exact this) h
theorem Yg {c a b:Operand} {t:Bool} (hi:jv ol i=some ⟨d,.pick c a b,ty,pos,af,none⟩) (hc:aV (cK (Oper.looksAt ol.toArray ⟨d,.pick c a b,ty,pos,af,none⟩) 0 fr) c=.v (.bool t)) (ht:t=true) (h:GO P ol.toArray Q r aW (bu fr d (aV fr a)) Γ):GO P ol.toArray Q (.q i r) aW fr Γ :=
 OP hi (fun Γ=>by
  have:=YG.RC (P:=P) (Γ:=Γ) (a:=a) (b:=b) hc ht
  rw [vh (by simp [Op.operands])] at this;exact this) h
theorem Yf {c a b:Operand} {t:Bool} (hi:jv ol i=some ⟨d,.pick c a b,ty,pos,af,none⟩) (hc:aV (cK (Oper.looksAt ol.toArray ⟨d,.pick c a b,ty,pos,af,none⟩) 0 fr) c=.v (.bool t)) (ht:t=false) (h:GO P ol.toArray Q r aW (bu fr d (aV fr b)) Γ):GO P ol.toArray Q (.q i r) aW fr Γ :=
 OP hi (fun Γ=>by
  have:=YG.RB (P:=P) (Γ:=Γ) (a:=a) (b:=b) hc ht
  rw [vh (by simp [Op.operands])] at this;exact this) h
inductive iR (P:Program) (ops:Array Oper) (i:Nat) (aL:List Ob):kT->kT->Prop
 | n:iR P ops i aL [] []
 | w {j:Nat} {g:GV} {oA:List GV} {aW dI:kT} (hw:waits ops i j=true) (h:iR P ops i aL aW dI):iR P ops i aL ((j,g,oA)::aW) dI
 | y {j:Nat} {g:GV} {oA:List GV} {aW dI:kT} (hy:YQ P ops j g oA aL) (h:iR P ops i aL aW dI):iR P ops i aL ((j,g,oA)::aW) ((j,g,oA)::dI)
theorem uk {ops:Array Oper} {q p:Nat × GV × List GV} (h:p∈stay ops i (q::aW)):(p=q/\waits ops i q.1=false)\/p∈stay ops i aW:=by
 simp only [stay,mem_filter] at h |-
 rcases List.mem_cons.1 h.1 with he | iT
 ·subst he;exact .inl ⟨rfl,by simpa using h.2⟩
 ·exact .inr ⟨iT,h.2⟩
theorem iR.spec {ops:Array Oper} {aL:List Ob} {dI:kT} (h:iR P ops i aL aW dI):(∀ p∈stay ops i aW,YQ P ops p.1 p.2.1 p.2.2 aL)/\∀ p∈stay ops i aW,p∈dI:=by
 induction h with
 | n=>exact ⟨fun p hp=>(by cases hp),fun p hp=>(by cases hp)⟩
 | w hw h ih =>
  refine ⟨fun p hp=>?_,fun p hp=>?_⟩
  ·rcases uk hp with ⟨_,h2⟩ | iT
   ·simp only at h2;rw [hw] at h2;cases h2
   ·exact ih.1 p iT
  ·rcases uk hp with ⟨_,h2⟩ | iT
   ·simp only at h2;rw [hw] at h2;cases h2
   ·exact ih.2 p iT
 | y hy h ih =>
  refine ⟨fun p hp=>?_,fun p hp=>?_⟩
  ·rcases uk hp with ⟨he,_⟩ | iT
   ·subst he;exact hy
   ·exact ih.1 p iT
  ·rcases uk hp with ⟨he,_⟩ | iT
   ·subst he;exact mem_cons_self
   ·exact mem_cons_of_mem _ (ih.2 p iT)
def TJ (fr:List GV):Option Tmp->Bool
 | none=>true
 | some t=>jE fr t
def eJ (P:Program) (Q:List GV->List Ob->Prop) (ol:List Oper) (i:Nat) (r:Ot) (aW:kT) (fr:List GV) (d:Option Tmp) (cj:List GV) (aL:List Ob):Prop :=
 ∃ g dI,cj=bu fr d g/\iR P ol.toArray i aL aW dI/\GO P ol.toArray Q r dI (bu fr d g) aL
theorem GA.of {o:Oper} {Kt:GV->List Ob->Prop} {R:List GV->List Ob->Prop} {ops:Array Oper} (hg:o.guard=none) (hd:TJ fr o.dst=true) (hR:∀ cj aL,R cj aL->∃ g,cj=bu fr o.dst g/\Kt g aL) (h:GL P Γ.length ops (aY R (fun _ _ _=>False)) [o] fr Γ):GA P o Kt fr Γ:=fun B K β w l hI hF=>by
 have h1:=h (cur K β Γ w) K β w l rfl hI.here hF;obtain ⟨d,op,ty,pos,af,gd⟩:=o;simp only at hg;subst hg;simp only at h1 hd;unfold WL wpList at h1;rw [if_pos (by rfl)] at h1
 rcases h1 with h1 | ⟨_,a0,w0,hf⟩
 ·rw [<-nq];refine VW h1 (fun c a w' hf=>?_) (fun a w' hf=>?_) ?_ ?_
  ·obtain ⟨l',_,_,_,_,_,_,_,hq⟩:=hf;exact hq
  ·obtain ⟨l',_,_,_,_,_,_,_,hq⟩:=hf;exact hq
  ·rintro v w' ⟨l',hl,K',bV,cj,aL,bj,uY,hq⟩;obtain ⟨g,rfl,hk⟩:=hR cj aL hq;rw [pd] at hl
   have iM:put l d v=l':=by
    have:=congrArg (fun a:Act=>a.tmps.toList) hl;simpa [act] using this
   subst iM;refine ⟨K',bV,g,aL,bj.kle,bj.ble,hI.NM bj,fun Mk l2 h2=>?_,hk⟩
   cases d with
   | none=>exact h2
   | some t =>
    refine h2.eS t ?_;have hv:=uY.nth t;have h3:nth (put l (some t) v) t=v:=sj (mz hF hd) v
    have h4:cH (bu fr (some t) g) t=g:=by
     have gen:∀ (fr:List GV) (t:Nat),jE fr t=true->cH (bx fr t g) t=g:=by
      intro fr
      induction fr with
      | nil=>intro t h;cases h
      | cons x fr ih=>intro t h;cases t with | zero=>rfl | succ t=>exact ih t h
     exact gen fr t hd
    rw [h3,h4] at hv;exact hv
  ·rintro d' w' ⟨l',hl,_⟩;have:=congrArg (fun a:Act=>a.defers) hl
   cases d <;> simp [act,Act.put] at this
 ·obtain ⟨l',_,_,_,_,_,_,_,hq⟩:=hf;exact hq.elim
theorem eJ.kt {cj:List GV} {aL:List Ob} (h:eJ P Q ol i r aW fr d cj aL):∃ g,cj=bu fr d g/\((∀ p∈stay ol.toArray i aW,YQ P ol.toArray p.1 p.2.1 p.2.2 aL)/\GO P ol.toArray Q r (stay ol.toArray i aW) (bu fr d g) aL):=by
 obtain ⟨g,dI,h1,h2,h3⟩:=h;obtain ⟨h4,h5⟩:=h2.spec;exact ⟨g,h1,h4,GO.more r _ _ _ _ (fun p hp=>.inl (h5 p hp)) h3⟩
theorem OA (hi:jv ol i=some ⟨d,op,ty,pos,af,none⟩) (hd:TJ fr d=true) (h:GL P Γ.length ol.toArray (aY (eJ P Q ol i r aW fr d) (fun _ _ _=>False)) [⟨d,op,ty,pos,af,none⟩] fr Γ):GO P ol.toArray Q (.a i r) aW fr Γ:=by
 refine ⟨_,true,qv hi,rfl,?_⟩
 exact (GA.of (o:=⟨d,op,ty,pos,af,none⟩) rfl hd (fun cj aL hq=>eJ.kt hq) h).mono fun g aL ⟨h1,h2⟩=>⟨h1,by rw [uR hi];exact h2⟩
theorem Lp {c:Bool} (hi:jv ol i=some ⟨d,op,ty,pos,af,some gd⟩) (hd:TJ fr d=true) (hv:ny ol fr gd.1=some (some c)) (hc:c=gd.2) (h:GL P Γ.length ol.toArray (aY (eJ P Q ol i r aW fr d) (fun _ _ _=>False)) [⟨d,op,ty,pos,af,none⟩] fr Γ):GO P ol.toArray Q (.a i r) aW fr Γ:=by
 refine ⟨_,true,qv hi,B3 hv hc,?_⟩
 have:=(GA.of (o:=⟨d,op,ty,pos,af,none⟩) rfl hd (fun cj aL hq=>eJ.kt hq) h).mono (Eg:=fun g aL=>(∀ p∈stay ol.toArray i aW,YQ P ol.toArray p.1 p.2.1 p.2.2 aL)/\GO P ol.toArray Q r (stay ol.toArray i aW) (bu fr (kW ol.toArray i) g) aL) fun g aL ⟨h1,h2⟩=>⟨h1,by rw [uR hi];exact h2⟩
 exact this
theorem ZS {c:Bool} {dI:kT} (hi:jv ol i=some ⟨d,op,ty,pos,af,some gd⟩) (hv:ny ol fr gd.1=some (some c)) (hc:c=!gd.2) (hs:iR P ol.toArray i Γ aW dI) (h:GO P ol.toArray Q r dI (bu fr d (.v undef)) Γ):GO P ol.toArray Q (.a i r) aW fr Γ :=
 ⟨_,false,qv hi,EN hv hc,hs.spec.1,by rw [uR hi];exact GO.more r _ _ _ _ (fun p hp=>.inl (hs.spec.2 p hp)) h⟩
theorem ZT {dI:kT} (hi:jv ol i=some ⟨d,op,ty,pos,af,some gd⟩) (hv:ny ol fr gd.1=some none) (hs:iR P ol.toArray i Γ aW dI) (h:GO P ol.toArray Q r dI (bu fr d (.v undef)) Γ):GO P ol.toArray Q (.a i r) aW fr Γ :=
 ⟨_,false,qv hi,TX hv,hs.spec.1,by rw [uR hi];exact GO.more r _ _ _ _ (fun p hp=>.inl (hs.spec.2 p hp)) h⟩
theorem GO.nil (h:Q fr Γ):GO P ol.toArray Q .nil aW fr Γ:=h
theorem eJ.mk {dI:kT} (hs:iR P ol.toArray i Γ aW dI) {oA:List GV} (h:GO P ol.toArray Q r dI (bu oA d g) Γ):eJ P Q ol i r aW oA d (bu oA d g) Γ:=⟨g,dI,rfl,hs,h⟩
theorem oe {ops:Array Oper} {cj:List GV} {aL:List Ob} (h1:fr=cj) (h2:Γ=aL) (h:GO P ops Q r aW cj aL):GO P ops Q r aW fr Γ:=by subst h1;subst h2;exact h
theorem Xk {ops:Array Oper} {cj:List GV} (h1:fr=cj) (h:GO P ops Q r aW cj Γ):GO P ops Q r aW fr Γ:=by subst h1;exact h
end
theorem GW.range {P:Program} {m:Nat} {Q:dP} {fr:List GV} {Γ:List Ob} {B C r1 r2:Nat} {body:Code} {tb ti tn ta:Tmp} {T1 T2 T3 T4 T5 T6 T7:TypeId} {p1 p2 p3:String} {a1 a2 a3:Array Edge} (n:Nat) (I:Nat->List GV->List Ob->Prop)
  (h0:yU m (I 0) fr Γ) (hn:n<=1099511627776)
  (hI:∀ k fr Γ,I k fr Γ->cH fr ti=.v (ii k)/\cH fr tn=.v (ii n)/\jE fr tb=true)
  (Wt:∀ k fr Γ,k < n->I k fr Γ->GW P m body (ba C (aY (fun cj aL=>cH cj ti=.v (ii k)/\jE cj ta=true/\yU m (I (k+1)) (bx (bx cj ta (.v (ii ((k+1:Nat):Int)))) ti (.v (ii ((k+1:Nat):Int)))) aL) (ba B Q))) (bx fr tb (.v (.bool true))) Γ)
  (oV:∀ fr Γ,I n fr Γ->Q .normal (bx fr tb (.v (.bool false))) Γ) :
  GW P m (.loop (.seq (.region r1 [(⟨some tb,.binOp .lss T1 (.tmp ti) (.tmp tn) T2,T3,p1,a1,none⟩:Oper)].toArray false) (.seq (.cond (.tmp tb) .skip (.exit B))
   (.seq (.block C body) (.region r2 [(⟨some ta,.binOp .add T4 (.tmp ti) (.const (.int .i64 1)) T5,T6,p2,a2,none⟩:Oper),⟨some ti,.move (.tmp ta),T7,p3,a3,none⟩].toArray false))))) (ba B Q) fr Γ:=by
 have zf:∀ (fr:List GV) (t:Nat) (g:GV),jE fr t=true->cH (bx fr t g) t=g:=by
  intro fr
  induction fr with
  | nil=>intro t g h;cases h
  | cons x fr ih=>intro t g h;cases t with | zero=>rfl | succ t=>exact ih t g h
 refine GW.loop (fun k:Nat=>n - k) (fun k fr Γ=>k<=n/\I k fr Γ) 0 ?_ ?_
 ·obtain ⟨cj,aL,hw,h⟩:=h0;exact ⟨cj,aL,hw,Nat.zero_le _,h⟩
 rintro k fr Γ ⟨hk,hi⟩;obtain ⟨h1,h2,h3⟩:=hI k fr Γ hi;refine GW.seq (GW.region (GL.q (YG.go (v:=.bool (decide ((k:Int) < (n:Int)))) ?_) (GL.nil (be ?_))))
 ·simp only [Ua,Xw.go,aV,h1,h2,B4,JL,ii,KG,JM]
 by_cases ao:k < n
 ·have hd:decide ((k:Int) < (n:Int))=true:=by simpa using ao
  simp only [bu,hd];refine GW.seq (Ll (zf fr tb _ h3) rfl (GW.skip (be (GW.seq (GW.block ?_)))));refine GW.mono (Wt k fr Γ ao hi) ?_;intro e cj aL hq;have key:∀ cj aL,(cH cj ti=.v (ii k)/\jE cj ta=true/\yU m (I (k+1)) (bx (bx cj ta (.v (ii ((k+1:Nat):Int)))) ti (.v (ii ((k+1:Nat):Int)))) aL) ->
    GW P m (.region r2 [(⟨some ta,.binOp .add T4 (.tmp ti) (.const (.int .i64 1)) T5,T6,p2,a2,none⟩:Oper),⟨some ti,.move (.tmp ta),T7,p3,a3,none⟩].toArray false) (aY (fun cj aL=>∃ y:Nat,yU m (fun fr Γ=>y<=n/\I y fr Γ) cj aL/\n - y < n - k) (ba B Q)) cj aL:=by
   rintro cj aL ⟨h5,h6,Mk,DM,hw,h7⟩;refine GW.region (GL.q (YG.xf (a:=k) h5 rfl (by omega)) (GL.q YG.mv (GL.nil (be ⟨k+1,⟨Mk,DM,?_,ao,h7⟩,by omega⟩))));have h8:aV (bx cj ta (.v (ii ((k+1:Nat):Int)))) (.tmp ta)=.v (ii ((k+1:Nat):Int)):=zf cj ta _ h6;simp only [bu,h8];exact hw
  cases e with
  | normal=>exact key cj aL hq
  | exit id =>
   simp only [ba] at hq |-;split <;> rename_i hh
   ·rw [if_pos hh] at hq;exact key cj aL hq
   ·rw [if_neg hh] at hq;exact hq
  | goto _=>exact hq
  | ret=>exact hq
  | panic _=>exact hq
  | outgrown=>exact hq
 ·have rO:k=n:=by omega
  have hd:decide ((k:Int) < (n:Int))=false:=by simpa using ao
  simp only [bu,hd];refine GW.seq (Lk (zf fr tb _ h3) rfl (GW.exit (ER (ER (H5 ?_)))));subst rO;exact oV fr Γ hi
def mh (g g':GV):Prop:=∀ K β x,Rel K β x g->Rel K β x g'
def kR (gs hs:List GV):Prop:=∀ K β vs,bb K β vs gs->bb K β vs hs
theorem mh.refl {g:GV}:mh g g:=fun _ _ _ h=>h
theorem mh.U {g:GV}:mh g .U:=fun _ _ _ _=>.U _
theorem mh.nil {k:Nat}:mh (.v (.slice none 0 0)) (.sl k []):=fun K β x h=>by
 rw [Rel.eD h];exact .sl0 _ _ _
theorem kR.nil:kR [] []:=fun _ _ _ h=>h
theorem kR.refl {gs:List GV}:kR gs gs:=fun _ _ _ h=>h
theorem kR.cons {g h:GV} {gs hs:List GV} (h1:mh g h) (h2:kR gs hs):kR (g::gs) (h::hs):=fun K β vs hv=>by
 cases vs with
 | nil=>have:=hv.1;simp at this
 | cons v vs=>obtain ⟨a,b⟩:=hv.nL;exact .cons (h1 K β v a) (h2 K β vs b)
theorem mh.agg {gs hs:List GV} (h:kR gs hs):mh (.agg gs) (.agg hs):=fun K β x hx=>by
 cases hx with
 | agg vs _ hl h'=>obtain ⟨a,b⟩:=h K β vs ⟨hl,h'⟩;exact .agg vs hs a b
theorem mh.tup {gs hs:List GV} (h:kR gs hs):mh (.tup gs) (.tup hs):=fun K β x hx=>by
 cases hx with
 | tup vs _ hl h'=>obtain ⟨a,b⟩:=h K β vs ⟨hl,h'⟩;exact .tup vs hs a b
inductive Tt:List GV->List GV->Prop
 | nil:Tt [] []
 | cons {f g:GV} {fs gs:List GV} (h:mh f g) (t:Tt fs gs):Tt (f::fs) (g::gs)
section
variable {P:Program} {m:Nat} {Q:dP} {fr:List GV} {Γ:List Ob} {ops:Array Oper} {rest:List Oper} {d:Option Tmp} {op:Op} {ty:TypeId} {pos:String} {af:Array Edge}
theorem Wk.cells (i:Nat) {E:TypeId} {cs ds:List GV} (hi:Γ[i]?=some (.box E cs)) (h:kR cs ds):Wk m fr Γ fr (oset Γ i (.box E ds)):=fun B K β w l _ hI hF=>by
 rw [bc];refine ⟨K,β,⟨hI.ext,hI.kle,hI.ble,hI.loc,hI.fz,fun j x hj=>?_,fun j hj=>hI.out j (by simpa using hj),hI.dis,hI.own,hI.kn,hI.tab⟩,hF⟩;rw [getElem?_set] at hj;split at hj
 ·rename_i fq;split at hj
  ·cases hj;subst fq
   obtain ⟨b,vs,h1,h2,h3,h4⟩:=hI.ob i _ hi;exact ⟨b,vs,h1,h2,h K β vs h3,h4⟩
  ·cases hj
 ·exact hI.ob j x hj
theorem GL.Ay {f:FuncId} [hf:aI P f] (aQ:List Nat) {args:List Operand} {mG:Array TypeId} {gs:List GV} {gO:List Ob} {R:GV->List Ob->Prop} (hc:GC P f gs gO R) (ha:kR (args.map (aV fr)) (lG (bW aQ Γ.length) gs)) (eH:ig aQ Γ.length=true)
  (bB:seen (bW aQ Γ.length) Γ aQ gO) (h:∀ g aL,R g aL->aQ.length<=aL.length/\GL P m ops Q rest (bu fr d (dz (bW aQ Γ.length) g)) (dS Γ aQ (aL.map (Ob.dz (bW aQ Γ.length))))) :
  GL P m ops Q (⟨d,.call ⟨.value (.func f),args.toArray,mG⟩,ty,pos,af,none⟩::rest) fr Γ :=
 GL.calls (vs:=fun l=>args.map (ev l)) (fun K β w l hF=>⟨ha K β _ (hF.args args),by simp [execOp,resolve,ev,Deferred.ofValue,invoke,lH]⟩) eH bB hc h
theorem GL.Wb {f:FuncId} [hf:aI P f] (aQ:List Nat) {args:List Operand} {mG:Array TypeId} {gs:List GV} {gO qM:List Ob} {g:GV} (hc:GF P f gs gO g qM) (ha:kR (args.map (aV fr)) (lG (bW aQ Γ.length) gs)) (eH:ig aQ Γ.length=true)
  (bB:seen (bW aQ Γ.length) Γ aQ gO) (hl:Nat.ble aQ.length qM.length=true) (h:GL P m ops Q rest (bu fr d (dz (bW aQ Γ.length) g)) (dS Γ aQ (qM.map (Ob.dz (bW aQ Γ.length))))) :
  GL P m ops Q (⟨d,.call ⟨.value (.func f),args.toArray,mG⟩,ty,pos,af,none⟩::rest) fr Γ :=
 GL.Ay aQ hc ha eH bB fun g' aL ⟨h1,h2⟩=>by subst h1;subst h2;exact ⟨by simpa using hl,h⟩
end
section
variable {P:Program} {fr:List GV} {Γ:List Ob} {g:GV}
theorem K.bin {o:BinOp} {t t':TypeId} {x y:Operand} (h:YG P (.binOp o t x y t') fr Γ g):YG P (.binOp o t x y t') fr Γ g:=h
theorem K.ld {t:TypeId} {x:Operand} (h:YG P (.load t x) fr Γ g):YG P (.load t x) fr Γ g:=h
theorem K.TQ {t:TypeId} {x:Operand} {i:Nat} (h:YG P (.fieldAddr t x i) fr Γ g):YG P (.fieldAddr t x i) fr Γ g:=h
theorem K.len {t:TypeId} {x:Operand} (h:YG P (.call ⟨.builtin .len,#[x],#[t]⟩) fr Γ g):YG P (.call ⟨.builtin .len,#[x],#[t]⟩) fr Γ g:=h
theorem K.nck {x:Operand} (h:YG P (.nilCheck x) fr Γ g):YG P (.nilCheck x) fr Γ g:=h
theorem K.idx {t:TypeId} {x y:Operand} (h:YG P (.indexAddr t x y) fr Γ g):YG P (.indexAddr t x y) fr Γ g:=h
theorem K.pick {a b c:Operand} (h:YG P (.pick a b c) fr Γ g):YG P (.pick a b c) fr Γ g:=h
theorem K.NV {t:TypeId} {x:Operand} {a b c:Option Operand} (h:YG P (.slice t x a b c) fr Γ g):YG P (.slice t x a b c) fr Γ g:=h
theorem K.Ce {f:Fn} {a b:Array Operand} (h:YG P (.makeFunc f a b) fr Γ g):YG P (.makeFunc f a b) fr Γ g:=h
end
section
variable {P:Program} {fn:Func} {m:Nat} {fr:List GV} {Γ aL:List Ob} {e:Exit} {g:GV}
theorem AE {R:GV->List Ob->Prop} (h:sL P fn m (fun x Δ=>∃ y,mh x y/\R y Δ) e fr Γ):sL P fn m R e fr Γ :=
 ⟨h.1,fun B K β w l hm hI hF=>by
  obtain ⟨v,K',bV,x,Δ,h1,h2,h3,y,h4,h5⟩:=h.2 B K β w l hm hI hF
  exact ⟨v,K',bV,y,Δ,h1,h2,h4 _ _ _ h3,h5⟩⟩
end
end Go.Xg
