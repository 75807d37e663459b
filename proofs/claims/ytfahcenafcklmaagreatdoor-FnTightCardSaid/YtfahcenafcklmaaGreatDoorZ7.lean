/- Part 7 of proofs that are told in their last texts. -/
import Derived.WalkKit
import Derived.KernelRfl
import Derived.Test.YtfahcenafcklmaaGreatDoorZ1
import Derived.Orders
open List (map_nil map_toArray)
set_option linter.unusedVariables false
set_option linter.unusedSimpArgs false
set_option maxRecDepth 100000
namespace Go.Xw
open Go.RowKit
def nth:List Value->Nat->Value
 | [],_=>undef
 | v::_,0=>v
 | _::l,n+1=>nth l n
def fh:List Value->Nat->Value->List Value
 | [],_,_=>[]
 | _::l,0,v=>v::l
 | x::l,n+1,v=>x::fh l n v
def ev (l:List Value):Operand->Value
 | .tmp t=>nth l t
 | .const v=>v
 | .global g=>.pointer (some ⟨g,0,none⟩)
 | .func f=>.func (.func f) #[] #[]
def put (l:List Value) (d:Option Tmp) (v:Value):List Value :=
 match d with | some d=>fh l d v | none=>l
theorem jj (l:List Value) (t:Nat):l.toArray.getD t undef=nth l t:=by
 induction l generalizing t with
 | nil=>simp [nth]
 | cons x l ih =>
  cases t with
  | zero=>simp [nth]
  | succ t=>rw [nth,<-ih];simp [Array.getD]
theorem Bu (l:List Value) (t:Nat) (v:Value):l.toArray.setIfInBounds t v=(fh l t v).toArray:=by
 have h:∀ (l:List Value) t,fh l t v=l.set t v:=by
  intro l
  induction l with
  | nil=>intro t;rfl
  | cons x l ih=>intro t;cases t with | zero=>rfl | succ t=>simp [fh,ih]
 rw [h];simp
def act (l:List Value):Act:=⟨l.toArray,[]⟩
theorem ny (l:List Value):(act l).eval=ev l:=by
 funext x;cases x <;> first | rfl | exact jj l _
theorem pj (l:List Value) (d:Option Tmp) (v:Value):(act l).put d v=act (put l d v):=by
 cases d with
 | none=>rfl
 | some d=>simp only [act,Act.put,put];rw [Bu]
abbrev lL:=Exit->List Value->World->Prop
def lift (Q:lL):Exit->Act->World->Prop:=fun e a w=>∃ l,a=act l/\Q e l w
def W (P:Program) (c:Code) (Q:lL) (l:List Value) (w:World):Prop:=c.wp P (lift Q) (act l) w
def WL (P:Program) (ops:Array Oper) (Q:lL) (rest:List Oper) (l:List Value) (w:World):Prop :=
 wpList P ops (lift Q) rest (act l) w
def WN (next:List Value->World->Prop) (Q:lL):lL
 | .normal,l,w=>next l w
 | e,l,w=>Q e l w
def TK (id:Nat) (Q:lL):lL
 | .exit AU,l,w=>if AU=id then Q .normal l w else Q (.exit AU) l w
 | e,l,w=>Q e l w
section
variable {P:Program} {Q:lL} {l:List Value} {w:World} {ops:Array Oper} {rest:List Oper}
theorem W.seq {x y:Code} (h:W P x (WN (W P y Q) Q) l w):W P (.seq x y) Q l w:=by
 refine wp_seq (wp_mono h ?_);rintro e a w ⟨l,rfl,hq⟩
 cases e <;> first | exact hq | exact ⟨l,rfl,hq⟩
theorem W.skip (h:Q .normal l w):W P .skip Q l w:=wp_skip ⟨l,rfl,h⟩
theorem W.exit {n:Nat} (h:Q (.exit n) l w):W P (.exit n) Q l w:=wp_exit ⟨l,rfl,h⟩
theorem W.ret (h:Q .ret l w):W P .ret Q l w:=wp_ret ⟨l,rfl,h⟩
theorem W.block {id:Nat} {c:Code} (h:W P c (TK id Q) l w):W P (.block id c) Q l w:=by
 refine wp_block (wp_mono h ?_);rintro e a w ⟨l,rfl,hq⟩
 cases e with
 | exit AU =>
  simp only [TK] at hq;simp only [Exit.inBlock];split <;> rename_i hh
  ·rw [ah hh] at hq;exact zdh
  ·rw [ad hh] at hq;exact zdh
 | normal=>exact zdh
 | goto _=>exact zdh
 | ret=>exact zdh
 | panic _=>exact zdh
 | outgrown=>exact zdh
theorem W.cond {c:Operand} {x y:Code} {t:Bool} (hc:ev l c=.bool t) (ht:t=true->W P x Q l w) (hf:t=false->W P y Q l w):W P (.cond c x y) Q l w:=by
 refine wp_cond_split (t:=t) (by rw [ny];exact hc) ht hf
theorem W.mono {c:Code} {Q':lL} (h:W P c Q l w) (hq:∀ e l w,Q e l w->Q' e l w):W P c Q' l w :=
 wp_mono h fun _ _ _ ⟨l,ha,q⟩=>⟨l,ha,hq _ _ _ q⟩
theorem W.loop {c:Code} {α:Type} (μ:α->Nat) (aaI:α->List Value->World->Prop) (x:α) (h0:aaI x l w)
  (round:∀ x l w,aaI x l w->W P c (WN (fun l' w'=>∃ y,aaI y l' w'/\μ y < μ x) Q) l w):W P (.loop c) Q l w:=by
 have key:∀ n x l w,μ x=n->aaI x l w->∀ (b:Frame) (k:List Item) (cs:List Frame),
   ∃ e a' w',lift Q e a' w'/\Arrives P (lone (b.at (act l) (.code c::.inLoop c::k)) cs w) b k cs e a' w':=by
  intro n
  induction n using Nat.strongRecOn with
  | _ n ih =>
   intro x l w hn hI b k cs;obtain ⟨e,aac,CV,hq,xk⟩:=round x l w hI b (.inLoop c::k) cs;obtain ⟨B9,rfl,hq⟩:=hq
   cases e with
   | normal =>
    obtain ⟨y,UZ,ar⟩:=hq;obtain ⟨W3,W1,X5,U8,Q8⟩:=ih (μ y) (hn ▸ ar) y B9 CV rfl UZ b k cs;exact ⟨W3,W1,X5,U8,.of_steps (Steps.trans xk (.one step_inLoop)) Q8⟩
   | exit id=>exact zau
   | goto _=>exact zau
   | ret=>exact zau
   | panic ch=>exact zau
   | outgrown=>exact zau
 intro b k cs;obtain ⟨e,a',w',hq,xk⟩:=key _ x l w rfl h0 b k cs;exact ⟨e,a',w',hq,.of_steps (.one step_loop) xk⟩
theorem W.region {id:Nat} {ol:List Oper} (h:WL P ol.toArray Q ol l w):W P (.region id ol.toArray false) Q l w :=
 wp_region_lit h
theorem WL.nil (h:Q .normal l w):WL P ops Q [] l w:=⟨l,rfl,h⟩
theorem WL.val {d:Option Tmp} {op:Op} {ty:TypeId} {pos:String} {af:Array Edge} {v:Value} {w':World}
  (hr:(execOp (ev l) ⟨d,op,ty,pos,af,none⟩).run P w=.ok (.value v) w')
  (h:WL P ops Q rest (put l d v) w'):WL P ops Q (⟨d,op,ty,pos,af,none⟩::rest) l w:=by
 refine wpList_plain rfl fun K hK=>?_
 simp only [Oper.wp,ny,hr,Oper.upon_value,pj];exact hK _ _ h
theorem WL.ZX {d:Option Tmp} {op:Op} {ty:TypeId} {pos:String} {af:Array Edge} {w':World}
  (hr:(execOp (ev l) ⟨d,op,ty,pos,af,none⟩).run P w=.ok .skip w')
  (h:WL P ops Q rest (put l d undef) w'):WL P ops Q (⟨d,op,ty,pos,af,none⟩::rest) l w:=by
 refine wpList_plain rfl fun K hK=>?_
 simp only [Oper.wp,ny,hr,Oper.upon_skip,pj];exact hK _ _ h
theorem WL.gt {d:Option Tmp} {op:Op} {ty:TypeId} {pos:String} {af:Array Edge} {g:Option (Nat × Bool)}
  (hw:Region.wanted ⟨d,op,ty,pos,af,g⟩ (yielded ops (act l).tmps)=true)
  (h:WL P ops Q (⟨d,op,ty,pos,af,none⟩::rest) l w):WL P ops Q (⟨d,op,ty,pos,af,g⟩::rest) l w:=by
 unfold WL wpList at *;rw [ah hw];rw [ah (by rfl)] at h;exact h
theorem WL.gf {d:Option Tmp} {op:Op} {ty:TypeId} {pos:String} {af:Array Edge} {g:Option (Nat × Bool)}
  (hw:Region.wanted ⟨d,op,ty,pos,af,g⟩ (yielded ops (act l).tmps)=false)
  (h:WL P ops Q rest (put l d undef) w):WL P ops Q (⟨d,op,ty,pos,af,g⟩::rest) l w:=by
 unfold WL wpList;rw [ad (by rw [hw];decide)];show wpList P ops (lift Q) rest ((act l).put d undef) w;rw [pj];exact h
end
section
variable {next:List Value->World->Prop} {Q:lL} {l:List Value} {w:World} {id AU:Nat}
end
structure Ext (S:Nat->Prop) (w w':World):Prop where
 os:w'.os=w.os
 tape:w'.tape=w.tape
 output:w'.output=w.output
 size:w.heap.size<=w'.heap.size
 block:∀ k,k < w.heap.size->¬ S k->w'.heap[k]?=w.heap[k]?
abbrev gR:Nat->Prop:=fun _=>False
theorem Ext.refl {S:Nat->Prop} (w:World):Ext S w w:=⟨rfl,rfl,rfl,aD _,fun _ _ _=>rfl⟩
theorem Ext.trans {S:Nat->Prop} {a b c:World} (h:Ext S a b) (k:Ext S b c):Ext S a c :=
 ⟨k.os.trans h.os,k.tape.trans h.tape,k.output.trans h.output,gm h.size k.size,
  fun i hi hs=>(k.block i (wT hi h.size) hs).trans (h.block i hi hs)⟩
theorem Ext.step {S0 S:Nat->Prop} {a b c:World} (h:Ext S0 a b) (k:Ext S b c) (hs:∀ j,S j->a.heap.size<=j\/S0 j):Ext S0 a c :=
 ⟨k.os.trans h.os,k.tape.trans h.tape,k.output.trans h.output,gm h.size k.size,
  fun i hi hn=>(k.block i (wT hi h.size) fun TC=>by
   rcases hs i TC with D | D
   ·omega
   ·exact hn D).trans (h.block i hi hn)⟩
theorem Ext.mono {S S':Nat->Prop} {a b:World} (h:Ext S a b) (hs:∀ k,k < a.heap.size->S k->S' k):Ext S' a b :=
 ⟨h.os,h.tape,h.output,h.size,fun i hi hn=>h.block i hi fun x=>hn (hs i hi x)⟩
theorem Ext.blk {S:Nat->Prop} {a b:World} (h:Ext S a b) {k:Nat} {o:Obj} (hv:a.heap[k]?=some o) (hs:¬ S k):b.heap[k]?=some o:=by
 rw [h.block k (by have:=(Array.getElem?_eq_some_iff.1 hv).1;exact this) hs,hv]
theorem rF {w:World} {k:Nat} {o:Obj} (hv:w.heap[k]?=some o):k < w.heap.size:=(Array.getElem?_eq_some_iff.1 hv).1
theorem Kx {w:World} {b o:Nat} {cs:Array Value} {E:TypeId} {fz:Nat × Nat} {v:Value} (hb:w.heap[b]?=some (.cells cs E fz)) (hv:cs[o]?=some v):w.cell? ⟨b,o,none⟩=some v:=by
 rw [cell_of_row w b o cs E fz hb,hv]
theorem Ext.below {a b:World} (h:Ext gR a b):Below a.heap.size a b:=⟨h.os,h.tape,h.output,h.size,fun k hk=>h.block k hk (fun x=>x)⟩
structure uG (w w':World) (b:Nat) (o:Obj):Prop where
 fresh:b=w.heap.size
 size:w'.heap.size=b+1
 blk:w'.heap[b]?=some o
 ext:Ext gR w w'
theorem uG.of (w:World) (o:Obj):uG w (w.alloc o) w.heap.size o :=
 ⟨rfl,by simp,heap_alloc_new w o,⟨rfl,rfl,rfl,by simp,fun k hk _=>Below.heap_alloc _ _ _ hk⟩⟩
def x8:TypeDesc->Bool
 | .struct _=>true
 | .array _ _=>true
 | _=>false
class Ty (P:Program) (t:TypeId) (agg:outParam Bool) (k:outParam Nat):Prop where
 und:(P.underlying t).map x8=some agg
 siz:(P.info? t).map (·.size)=some k
class nt (P:Program) (t:TypeId) (e:outParam TypeId) (k:outParam Nat):Prop where
 und:P.underlying t=some (.slice e)
 siz:(P.info? e).map (·.size)=some k
class pQ (P:Program) (t:TypeId):Prop where
 und:P.underlying t=some .string
def Jg (P:Program) (s:TypeId) (i:Nat) (off:Nat) (k:Nat) (agg:Bool):Bool :=
 match P.underlying s with
 | some (.struct fs)=>match fs[i]? with
  | some f=>f.offset==off&&(match P.info? f.type with | some x=>x.size==k | none=>false)&&k != 0&&((P.underlying f.type).map x8==some agg)
  | none=>false
 | _=>false
class ft (P:Program) (s:TypeId) (i:Nat) (off:outParam Nat) (k:outParam Nat) (agg:outParam Bool):Prop where
 is:Jg P s i off k agg=true
section
variable {P:Program} {w:World}
theorem Dx {t:TypeId} {agg:Bool} {k:Nat} [h:Ty P t agg k]:(isAgg t).run P w=.ok agg w:=by
 obtain ⟨hu,_⟩:=h
 cases hd:P.underlying t with
 | none=>simp [hd] at hu
 | some d =>
  rw [hd] at hu;unfold isAgg;rw [Sem.run_bind,run_underlying hd w]
  cases d <;> simp_all [x8]
theorem jR {t:TypeId} {k:Nat} (h:(P.info? t).map (·.size)=some k):(sizeOf t).run P w=.ok k w:=by
 cases hq:P.info? t with
 | none=>simp [hq] at h
 | some i=>simp [hq] at h;simp [sizeOf,typeInfo,hq,h]
theorem rp (b o n:Nat):(⟨b,o,none⟩:Addr).add n=⟨b,o+n,none⟩:=by
 unfold Addr.add;split
 ·rename_i h;subst h;rfl
 ·rfl
theorem FM {t:TypeId} [h:Ty P t false 1] {a:Addr} {v:Value} (hv:w.cell? a=some v):(loadVar t a).run P w=.ok v w:=by
 unfold loadVar;rw [Sem.run_bind,Dx (agg:=false) (k:=1)];simp [hv]
theorem mb {t:TypeId} {k:Nat} [h:Ty P t true k] {b o:Nat} {vs:List Value} (hl:vs.length=k) (hv:∀ j v,vs[j]?=some v->w.cell? ⟨b,o+j,none⟩=some v) :
  (loadVar t ⟨b,o,none⟩).run P w=.ok (.agg vs.toArray) w:=by
 unfold loadVar;rw [Sem.run_bind,Dx (agg:=true) (k:=k)]
 have hc:(loadCells ⟨b,o,none⟩ k).run P w=.ok vs.toArray w:=by
  rw [<-hl]
  exact run_loadCells_list w _ vs fun j v hj=>by rw [rp];exact hv j v hj
 simp [jR h.siz,hc]
end
def ep (P:Program) (l:List Value) (w:World) (op:Op) (v:Value):Prop :=
 ∀ (d:Option Tmp) (ty:TypeId) (pos:String) (af:Array Edge),(execOp (ev l) ⟨d,op,ty,pos,af,none⟩).run P w=.ok (.value v) w
theorem WL.v {P:Program} {Q:lL} {l:List Value} {w:World} {ops:Array Oper} {rest:List Oper} {d:Option Tmp} {op:Op} {ty:TypeId} {pos:String} {af:Array Edge} {v:Value}
  (hr:ep P l w op v) (h:WL P ops Q rest (put l d v) w):WL P ops Q (⟨d,op,ty,pos,af,none⟩::rest) l w:=WL.val (hr d ty pos af) h
section
variable {P:Program} {l:List Value} {w:World}
theorem R.mv {x:Operand}:ep P l w (.move x) ((ev l x)):=fun d ty pos af=>by simp [execOp]
theorem R.ky {x:Operand}:ep P l w (.assign x) ((ev l x)):=fun d ty pos af=>by simp [execOp]
theorem R.pick {c a b:Operand} {t:Bool} (hc:ev l c=.bool t):ep P l w (.pick c a b) ((if t then ev l a else ev l b)):=fun d ty pos af=>by simp [execOp,hc,asBool]
theorem R.JK {x:Operand} {a:Addr} (hx:ev l x=.pointer (some a)):ep P l w (.nilCheck x) ((.pointer (some a))):=fun d ty pos af=>by simp [execOp,hx]
theorem R.extract {x:Operand} {i:Nat} {vs:Array Value} {v:Value} (hx:ev l x=.tuple vs) (hv:vs[i]?=some v):ep P l w (.extract x i) (v):=fun d ty pos af=>by simp [execOp,hx,Instr.extract,hv]
theorem R.Cd {fn:Fn} {first cap:Array Operand}:ep P l w (.makeFunc fn first cap) ((.func fn (first.map (ev l)) (cap.map (ev l)))):=fun d ty pos af=>by simp [execOp,Instr.makeFunc]
abbrev ae:=List UInt8
def sv (s:ae):Value:=.string ⟨s.toArray⟩
theorem toList_mk (s:ae):(⟨s.toArray⟩:ByteArray).toList=s:=by
 simp [ByteArray.toList_eq]
theorem vE (s:ae):(⟨s.toArray⟩:ByteArray).size=s.length:=by
 simp [ByteArray.size]
theorem VG (b:ByteArray):Value.string b=sv b.data.toList:=by
 simp [sv]
theorem Kw (a b:ae):(⟨a.toArray⟩:ByteArray)++⟨b.toArray⟩=⟨(a++b).toArray⟩:=by
 apply ByteArray.ext;simp
theorem extract_mk (s:ae) (i j:Nat):(⟨s.toArray⟩:ByteArray).extract i j=⟨((s.take j).drop i).toArray⟩:=by
 apply ByteArray.ext;simp [ByteArray.data_extract,List.take_drop]
 by_cases h:i<=j
 ·rw [Nat.add_sub_cancel' h]
 ·rw [List.drop_eq_nil_of_le ze6,List.drop_eq_nil_of_le ze6]
abbrev ii (n:Int):Value:=.int .i64 n
theorem CS {n:Int} (D : -9223372036854775808<=n) (I:n<=9223372036854775807):IntKind.i64.wrap n=n:=IntWalk.i64_in _ ⟨D,I⟩
theorem R.OR {x:Operand} {t:TypeId} [hT:pQ P t] {s:ae} (hx:ev l x=sv s):ep P l w (.call ⟨.builtin .len,#[x],#[t]⟩) ((ii s.length)):=fun d ty pos af=>by simp [execOp,resolve,invoke,builtin,hx,sv,Builtin.len_,goInt,run_underlying hT.und,vE]
theorem R.JD {x:Operand} {t e:TypeId} {k:Nat} [hT:nt P t e k] {a:Option Addr} {n c:Nat} (hx:ev l x=.slice a n c):ep P l w (.call ⟨.builtin .len,#[x],#[t]⟩) ((ii n)):=fun d ty pos af=>by simp [execOp,resolve,invoke,builtin,hx,Builtin.len_,goInt,run_underlying hT.und]
theorem R.add {x y:Operand} {t t':TypeId} {a b:Int} (hx:ev l x=ii a) (hy:ev l y=ii b) (D : -9223372036854775808<=a+b) (I:a+b<=9223372036854775807):ep P l w (.binOp .add t x y t') ((ii (a+b))):=fun d ty pos af=>by simp [execOp,eqGuard,hx,hy,binOp,Op.intArith,CS D I]
theorem R.sub {x y:Operand} {t t':TypeId} {a b:Int} (hx:ev l x=ii a) (hy:ev l y=ii b) (D : -9223372036854775808<=a - b) (I:a - b<=9223372036854775807):ep P l w (.binOp .sub t x y t') ((ii (a - b))):=fun d ty pos af=>by simp [execOp,eqGuard,hx,hy,binOp,Op.intArith,CS D I]
theorem R.mul {x y:Operand} {t t':TypeId} {a b:Int} (hx:ev l x=ii a) (hy:ev l y=ii b) (D : -9223372036854775808<=a * b) (I:a * b<=9223372036854775807):ep P l w (.binOp .mul t x y t') ((ii (a * b))):=fun d ty pos af=>by simp [execOp,eqGuard,hx,hy,binOp,Op.intArith,CS D I]
theorem R.cat {x y:Operand} {t t':TypeId} {a b:ae} (hx:ev l x=sv a) (hy:ev l y=sv b) (D:a.length+b.length<=9223372036854775807):ep P l w (.binOp .add t x y t') ((sv (a++b))):=fun d ty pos af=>by
  have I:¬ ((((⟨a.toArray⟩:ByteArray).size+(⟨b.toArray⟩:ByteArray).size:Nat):Int) > IntKind.i64.max):=by
   rw [vE,vE];simp [IntKind.max,IntKind.signed,IntKind.bits];omega
  simp only [execOp,eqGuard,hx,hy,binOp,sv,Op.stringOp,ad I,Kw];simp
theorem R.eq {x y:Operand} {t t':TypeId} {k:IntKind} {a b:Int} (hx:ev l x=.int k a) (hy:ev l y=.int k b):ep P l w (.binOp .eql t x y t') ((.bool (a==b))):=fun d ty pos af=>by simp [execOp,eqGuard,hx,hy,binOp,Op.intCmp]
theorem R.ne {x y:Operand} {t t':TypeId} {k:IntKind} {a b:Int} (hx:ev l x=.int k a) (hy:ev l y=.int k b):ep P l w (.binOp .neq t x y t') ((.bool (a != b))):=fun d ty pos af=>by simp [execOp,eqGuard,hx,hy,binOp,Op.intCmp]
theorem R.lt {x y:Operand} {t t':TypeId} {k:IntKind} {a b:Int} (hx:ev l x=.int k a) (hy:ev l y=.int k b):ep P l w (.binOp .lss t x y t') ((.bool (decide (a < b)))):=fun d ty pos af=>by simp [execOp,eqGuard,hx,hy,binOp,Op.intCmp]
theorem R.le {x y:Operand} {t t':TypeId} {k:IntKind} {a b:Int} (hx:ev l x=.int k a) (hy:ev l y=.int k b):ep P l w (.binOp .leq t x y t') ((.bool (decide (a<=b)))):=fun d ty pos af=>by simp [execOp,eqGuard,hx,hy,binOp,Op.intCmp]
theorem R.Ys {x y:Operand} {t t':TypeId} {k:IntKind} {a b:Int} (hx:ev l x=.int k a) (hy:ev l y=.int k b):ep P l w (.binOp .gtr t x y t') ((.bool (decide (b < a)))):=fun d ty pos af=>by simp [execOp,eqGuard,hx,hy,binOp,Op.intCmp]
theorem R.ge {x y:Operand} {t t':TypeId} {k:IntKind} {a b:Int} (hx:ev l x=.int k a) (hy:ev l y=.int k b):ep P l w (.binOp .geq t x y t') ((.bool (decide (b<=a)))):=fun d ty pos af=>by simp [execOp,eqGuard,hx,hy,binOp,Op.intCmp]
theorem R.mN {x y:Operand} {t t':TypeId} {a b:ae} (hx:ev l x=sv a) (hy:ev l y=sv b):ep P l w (.binOp .eql t x y t') ((.bool (a==b))):=fun d ty pos af=>by simp only [execOp,eqGuard,hx,hy,binOp,sv,Op.stringOp,toList_mk];simp
theorem R.mR {x y:Operand} {t t':TypeId} {a b:ae} (hx:ev l x=sv a) (hy:ev l y=sv b):ep P l w (.binOp .neq t x y t') ((.bool (!(a==b)))):=fun d ty pos af=>by simp only [execOp,eqGuard,hx,hy,binOp,sv,Op.stringOp,toList_mk];simp
theorem R.not {x:Operand} {t:TypeId} {b:Bool} (hx:ev l x=.bool b):ep P l w (.unOp .not t x) ((.bool (!b))):=fun d ty pos af=>by simp [execOp,hx,Op.unary]
theorem R.ia {x y:Operand} {t:TypeId} [hT:pQ P t] {s:ae} {k:IntKind} {i:Nat} {c:UInt8} (hx:ev l x=sv s) (hy:ev l y=.int k i) (hc:s[i]?=some c):ep P l w (.index t x y) ((.int .u8 c.toNat)):=fun d ty pos af=>by
  have hg:(⟨s.toArray⟩:ByteArray)[i]?=some c:=by
   obtain ⟨hi,hv⟩:=bh hc
   have oN:i < (⟨s.toArray⟩:ByteArray).size:=by rw [vE];exact hi
   rw [getElem?_pos (⟨s.toArray⟩:ByteArray) i oN];simp only [ByteArray.getElem_eq_getElem_data];simpa using hv
  simp [execOp,Instr.index,hx,hy,asIntOf,run_underlying hT.und,sv,hg]
theorem R.Pf {x:Operand} {t:TypeId} [hT:pQ P t] {s:ae} {lo hi:Option Operand} {i j:Nat} (hx:ev l x=sv s)
  (iG:match lo with | some y=>∃ k,ev l y=.int k i | none=>i=0) (AJ:match hi with | some y=>∃ k,ev l y=.int k j | none=>j=s.length)
  (D:i<=j) (I:j<=s.length):ep P l w (.slice t x lo hi none) ((sv ((s.take j).drop i))):=fun d ty pos af=>by
  have fJ:=vE s
  cases lo <;> cases hi <;> simp only at iG AJ
  ·subst iG;subst AJ;simp [execOp,Instr.sliceAt,Instr.slice,Instr.sliceBounds,hx,sv,run_underlying hT.und,fJ,extract_mk]
  ·obtain ⟨k,hk⟩:=AJ;subst iG;simp [execOp,Instr.sliceAt,Instr.slice,Instr.sliceBounds,Instr.sliceBound,asIntOf,hx,hk,sv,run_underlying hT.und,fJ,extract_mk,I]
  ·obtain ⟨k,hk⟩:=iG;subst AJ;simp [execOp,Instr.sliceAt,Instr.slice,Instr.sliceBounds,Instr.sliceBound,asIntOf,hx,hk,sv,run_underlying hT.und,fJ,extract_mk,D]
  ·obtain ⟨k,hk⟩:=iG;obtain ⟨k',eZ⟩:=AJ;simp [execOp,Instr.sliceAt,Instr.slice,Instr.sliceBounds,Instr.sliceBound,asIntOf,hx,hk,eZ,sv,run_underlying hT.und,fJ,extract_mk,D,I]
theorem R.jd {x y:Operand} {t e:TypeId} {k:Nat} [hT:nt P t e k] {b o n c:Nat} {kk:IntKind} {i:Nat} (hx:ev l x=.slice (some ⟨b,o,none⟩) n c) (hy:ev l y=.int kk i) (hi:i < n):ep P l w (.indexAddr t x y) ((.pointer (some ⟨b,o+i * k,none⟩))):=fun d ty pos af=>by
  simp [execOp,Instr.indexAt,hx,hy,asIntOf,run_underlying hT.und,hi,jR hT.siz,rp]
theorem R.N7 {x:Operand} {s:TypeId} {i off k:Nat} {agg:Bool} [hT:ft P s i off k agg] {b o:Nat} (hx:ev l x=.pointer (some ⟨b,o,none⟩)):ep P l w (.fieldAddr s x i) ((.pointer (some ⟨b,o+off,none⟩))):=fun d ty pos af=>by
  obtain ⟨hT⟩:=hT;unfold Jg at hT;split at hT
  ·rename_i fs hu;split at hT
   ·rename_i f hf;simp only [au,beq_iff_eq,bne_iff_ne,ne_eq] at hT;obtain ⟨⟨⟨D,I⟩,h3⟩,h4⟩:=hT;split at I
    ·rename_i x hq
     have hs:(P.info? f.type).map (·.size)=some k:=by rw [hq];simpa using I
     simp [execOp,Instr.fieldAt,hx,run_underlying hu,hf,Instr.sureAddr,fieldPlace,jR hs,h3,rp,D]
    ·cases I
   ·cases hT
  ·cases hT
theorem R.ZM {x:Operand} {t:TypeId} [hT:Ty P t false 1] {a:Addr} {v:Value} (hx:ev l x=.pointer (some a)) (hv:w.cell? a=some v):ep P l w (.load t x) (v):=fun d ty pos af=>by simp [execOp,Instr.loadAt,hx,Instr.sureAddr,FM hv]
theorem R.ZN {x:Operand} {t:TypeId} {k:Nat} [hT:Ty P t true k] {b o:Nat} {vs:List Value} (hx:ev l x=.pointer (some ⟨b,o,none⟩)) (hl:vs.length=k)
  (hv:∀ j v,vs[j]?=some v->w.cell? ⟨b,o+j,none⟩=some v):ep P l w (.load t x) ((.agg vs.toArray)):=fun d ty pos af=>by simp [execOp,Instr.loadAt,hx,Instr.sureAddr,mb hl hv]
end
def gO (H:Array Obj) (b o:Nat):Option Value :=
 match H[b]? with
 | some (.cells c _ _)=>c[o]?
 | _=>none
theorem fo (w:World) (b o:Nat):w.cell? ⟨b,o,none⟩=gO w.heap b o:=by
 unfold World.cell? gO
 cases w.heap[b]? with
 | none=>rfl
 | some x=>cases x <;> rfl
theorem El {H:Array Obj} {b o:Nat} {v:Value} (h:gO H b o=some v):b < H.size:=by
 unfold gO at h
 cases hb:H[b]? with
 | none=>exact zaS
 | some x=>exact (Array.getElem?_eq_some_iff.1 hb).1
theorem Ext.c {S:Nat->Prop} {w w':World} (hx:Ext S w w') {b o:Nat} {v:Value} (h:gO w.heap b o=some v) (hs:¬ S b):gO w'.heap b o=some v:=by
 unfold gO at *;rw [hx.block b (El (H:=w.heap) (by unfold gO;exact h)) hs];exact h
theorem vT {H:Array Obj} {b o:Nat} {cs:Array Value} {E:TypeId} {fz:Nat × Nat} {v:Value} (hb:H[b]?=some (.cells cs E fz)) (hv:cs[o]?=some v):gO H b o=some v:=by
 unfold gO;rw [hb];exact hv
theorem Ext.drew {S:Nat->Prop} (w:World):Ext S w w.drew:=⟨rfl,rfl,rfl,aD _,fun _ _ _=>rfl⟩
theorem R.ld {P:Program} {l:List Value} {w:World} {x:Operand} {t:TypeId} [hT:Ty P t false 1] {b o:Nat} {v:Value} (hx:ev l x=.pointer (some ⟨b,o,none⟩)) (hv:gO w.heap b o=some v):ep P l w (.load t x) v:=R.ZM hx (by rw [fo];exact hv)
theorem R.WC {P:Program} {l:List Value} {w:World} {x:Operand} {t:TypeId} {k:Nat} [hT:Ty P t true k] {b o:Nat} {vs:List Value} (hx:ev l x=.pointer (some ⟨b,o,none⟩)) (hl:vs.length=k)
  (hv:∀ j v,vs[j]?=some v->gO w.heap b (o+j)=some v):ep P l w (.load t x) (.agg vs.toArray):=R.ZN hx hl (fun j v h=>by rw [fo];exact hv j v h)
section
variable {H:Array Obj} {b o:Nat} {v0 v1 v2 v3 v4 v5:Value}
end
class sO (P:Program) (t:TypeId) (z:outParam Value):Prop where
 is:(P.info? t).bind (·.zero)=some z
structure tP (w w':World) (b:Nat) (cs:Array Value) (E:TypeId):Prop where
 blk:w'.heap[b]?=some (.cells cs E (0,0))
 ext:Ext (·=b) w w'
 size:w'.heap.size=w.heap.size
def uA (cs:Array Value) (o:Nat):List Value->Array Value
 | []=>cs
 | v::r=>uA (cs.setIfInBounds o v) (o+1) r
def mA (vs:List Value):Bool:=vs.all (·.oneCell')
section
variable {P:Program} {w:World}
theorem zY {t:TypeId} {z:Value} [h:sO P t z]:(zeroValue t).run P w=.ok z w:=by
 obtain ⟨h⟩:=h
 cases hq:P.info? t with
 | none=>simp [hq] at h
 | some i=>simp [hq] at h;simp [zeroValue,typeInfo,hq,h]
theorem tP.refl {b:Nat} {cs:Array Value} {E:TypeId} (hb:w.heap[b]?=some (.cells cs E (0,0))):tP w w b cs E:=⟨hb,Ext.refl _,rfl⟩
theorem tP.trans {w1 w2:World} {b:Nat} {cs KP:Array Value} {E:TypeId} (h:tP w w1 b cs E) (k:tP w1 w2 b KP E):tP w w2 b KP E :=
 ⟨k.blk,h.ext.trans k.ext,k.size.trans h.size⟩
theorem tP.setCell {b o:Nat} {cs:Array Value} {E:TypeId} (hb:w.heap[b]?=some (.cells cs E (0,0))) (v:Value) :
  tP w (w.setCell ⟨b,o,none⟩ v) b (cs.setIfInBounds o v) E :=
 ⟨heap_setCell_same w b o cs E v hb,⟨rfl,rfl,rfl,by simp,fun k _ hs=>heap_setCell_other w _ k v hs⟩,by simp⟩
theorem vC {b o:Nat} {E:TypeId}:∀ (vs:List Value) (i:Nat) (w:World) (cs:Array Value),w.heap[b]?=some (.cells cs E (0,0))->o+i+vs.length<=cs.size->mA vs=true ->
  ∃ w',(storeCells ⟨b,o,none⟩ vs i).run P w=.ok () w'/\tP w w' b (uA cs (o+i) vs) E
 | [],i,w,cs,hb,_,_=>⟨w,by simp [storeCells],tP.refl hb⟩
 | v::r,i,w,cs,hb,hl,D=>by
  simp only [mA,List.all_cons,au] at D;simp only [List.length_cons] at hl;have hs:=tP.setCell (w:=w) (o:=o+i) hb v;obtain ⟨w',hr,dI⟩:=vC (b:=b) (o:=o) (E:=E) r (i+1) _ _ hs.blk ze6 D.2;refine ⟨w',?_,hs.trans (by simpa [uA,iD] using dI)⟩;have hc:w.cell? ⟨b,o+i,none⟩=cs[o+i]?:=cell_of_row w b (o+i) cs E (0,0) hb;have de:∃ u,w.cell? ⟨b,o+i,none⟩=some u:=⟨cs[o+i]'zeM,by rw [hc];simp⟩;obtain ⟨u,hu⟩:=de;have hf:w.frozen? ⟨b,o+i,none⟩=false:=frozen_of_row w b _ cs E hb
  have XI:(store ((⟨b,o,none⟩:Addr).add i) v).run P w=.ok () (w.setCell ⟨b,o+i,none⟩ v):=by
   rw [rp]
   cases v <;> first | (simp [Value.oneCell'] at D;done) | simp [store,Sem.run,hu,hf]
  simp only [storeCells,Sem.run_bind,XI,Result.andThen_ok,hr]
theorem FN {t:TypeId} {agg:Bool} {k:Nat} [hT:Ty P t agg k] {b o:Nat} {E:TypeId} {cs:Array Value} {v:Value} (hb:w.heap[b]?=some (.cells cs E (0,0)))
  (hl:v.cells.size=k) (ho:o+k<=cs.size) (D:mA v.cells.toList=true) :
  ∃ w',(storeVar t ⟨b,o,none⟩ v).run P w=.ok () w'/\tP w w' b (uA cs o v.cells.toList) E:=by
 obtain ⟨w',hr,hs⟩:=vC (P:=P) (o:=o) v.cells.toList 0 w cs hb ze6 D;refine ⟨w',?_,by simpa using hs⟩;simp [storeVar,jR hT.siz,hl,hr]
end
def mc:List Value->Nat->List Value->List Value
 | cs,_,[]=>cs
 | cs,o,v::r=>mc (fh cs o v) (o+1) r
def pW (pl:Nat->Option (Nat × Nat)):List Value->List (Nat × Value)->Option (List Value)
 | cs,[]=>some cs
 | cs,(i,v)::r=>match pl i with
  | none=>none
  | some (o,k)=>if v.cells.size≠k || decide (o+v.cells.size > cs.length) then none else pW pl (mc cs o v.cells.toList) r
theorem Av:∀ (vs:List Value) (cs:List Value) (o n:Nat),
  (vs.zipIdx n).foldl (fun (cs:Array Value) (x:Value × Nat)=>cs.setIfInBounds (o+x.2) x.1) cs.toArray=(mc cs (o+n) vs).toArray
 | [],cs,o,n=>by simp [mc]
 | v::r,cs,o,n=>by
  simp only [List.zipIdx_cons,List.foldl_cons,Bu,mc];rw [Av r];rfl
theorem xi (pl:Nat->Option (Nat × Nat)):∀ (parts:List (Nat × Value)) (cs:List Value),
  Instr.fill pl cs.toArray parts=(pW pl cs parts).map List.toArray
 | [],cs=>by simp [Instr.fill,pW]
 | (i,v)::r,cs=>by
  simp only [Instr.fill,pW]
  cases hp:pl i with
  | none=>rfl
  | some x =>
   obtain ⟨o,k⟩:=x;simp only [List.size_toArray];split
   ·rfl
   ·have h:(v.cells.zipIdx.foldl (fun (cs:Array Value) (x:Value × Nat)=>cs.setIfInBounds (o+x.2) x.1) cs.toArray)=(mc cs o v.cells.toList).toArray:=by
     have:=Av v.cells.toList cs o 0;rw [<-Array.foldl_toList,Array.toList_zipIdx];exact this
    have I:=xi pl r (mc cs o v.cells.toList);rw [<-I,<-h]
def QB (P:Program) (t:TypeId) (pl:List (Nat × Nat)):Bool :=
 match P.underlying t with
 | some (.struct fs)=>(fs.toList.map fun f=>(f.offset,(P.info? f.type).map (·.size)))==pl.map fun x=>(x.1,some x.2)
 | _=>false
class tO (P:Program) (t:TypeId) (pl:outParam (List (Nat × Nat))) (z:outParam (List Value)):Prop where
 is:QB P t pl=true
 zero:(P.info? t).bind (·.zero)=some (.agg z.toArray)
section
variable {P:Program} {w:World}
theorem Bc {fs:List Field}:∀ {pl:List (Nat × Nat)},(fs.map fun f=>(f.offset,(P.info? f.type).map (·.size)))=(pl.map fun x=>(x.1,some x.2)) ->
  (List.mapM (m:=Sem) (fun (f:Field)=>Functor.map (Prod.mk f.offset) (sizeOf f.type)) fs).run P w=.ok pl w:=by
 induction fs with
 | nil=>intro pl h;cases pl with | nil=>simp | cons=>simp at h
 | cons f fs ih =>
  intro pl h
  cases pl with
  | nil=>simp at h
  | cons x pl =>
   simp only [List.map_cons,List.cons.injEq,Prod.mk.injEq] at h;obtain ⟨⟨D,I⟩,h3⟩:=h;have:=ih h3;have h5:=jR (w:=w) I;simp [List.mapM_cons,Sem.run_bind,h5,this,D]
theorem run_build {t:TypeId} {pl:List (Nat × Nat)} {z:List Value} [hT:tO P t pl z] {parts:List (Nat × Value)} {cs:List Value} (hf:pW (fun i=>pl[i]?) z parts=some cs) :
  (Instr.build t parts.toArray).run P w=.ok (.agg cs.toArray) w:=by
 obtain ⟨hi,hz⟩:=hT
 have Zz:(zeroValue t).run P w=.ok (.agg z.toArray) w:=by
  haveI:sO P t (.agg z.toArray):=⟨hz⟩
  exact zY
 unfold QB at hi;split at hi
 ·rename_i fs hu;have hm:=Bc (P:=P) (w:=w) (eq_of_beq hi)
  have kQ:(Array.mapM (m:=Sem) (fun (f:Field)=>Functor.map (Prod.mk f.offset) (sizeOf f.type)) fs).run P w=.ok pl.toArray w:=by
   rw [Array.mapM_eq_mapM_toList];simp [hm]
  have pE:=xi (fun i=>pl[i]?) parts z;rw [hf] at pE;simp [Instr.build,Sem.run_bind,Zz,run_underlying hu,kQ,Value.cells];simp [pE]
 ·cases hi
end
section
variable {P:Program} {Q:lL} {l:List Value} {w:World} {ops:Array Oper} {rest:List Oper} {d:Option Tmp} {ty:TypeId} {pos:String} {af:Array Edge}
theorem Bd (t:TypeId) (v:Value):(newVar t v).run P w=.ok ⟨w.heap.size,0,none⟩ (w.alloc (.cells v.cells t)):=by
 rfl
theorem WL.alloc {t:TypeId} {z:Value} [hT:sO P t z] (h:∀ b w',uG w w' b (.cells z.cells t)->WL P ops Q rest (put l d (.pointer (some ⟨b,0,none⟩))) w') :
  WL P ops Q (⟨d,.alloc t,ty,pos,af,none⟩::rest) l w :=
 WL.val (w':=w.alloc (.cells z.cells t)) (by simp [execOp,Instr.alloc,zY (w:=w) (z:=z),Bd]) (h _ _ (uG.of w _))
theorem WL.box {t:TypeId} {x:Operand} {v:Value} (hx:ev l x=v) (h:∀ b w',uG w w' b (.cells v.cells t)->WL P ops Q rest (put l d (.pointer (some ⟨b,0,none⟩))) w') :
  WL P ops Q (⟨d,.box t x,ty,pos,af,none⟩::rest) l w :=
 WL.val (w':=w.alloc (.cells v.cells t)) (by simp [execOp,Instr.box,Bd,hx]) (h _ _ (uG.of w _))
theorem R.build {t:TypeId} {pl:List (Nat × Nat)} {z:List Value} [hT:tO P t pl z] {parts:List (Nat × Operand)} {cs:List Value}
  (hf:pW (fun i=>pl[i]?) z (parts.map fun x=>(x.1,ev l x.2))=some cs):ep P l w (.build t parts.toArray) (.agg cs.toArray):=fun d ty pos af=>by
  have hr:=run_build (P:=P) (w:=w) (t:=t) hf;simp only [execOp,map_toArray];simp [hr]
class qp (P:Program) (t:TypeId) (e:outParam TypeId) (k:outParam Nat) (z:outParam (List Value)):Prop where
 und:P.underlying t=some (.slice e)
 siz:(P.info? e).map (·.size)=some k
 zero:(P.info? e).bind (·.zero)=some (if k=1 then z.headD undef else .agg z.toArray)
 zl:z.length=k
 pos:0 < k
 one:k=1->(z.headD undef).cells=#[z.headD undef]
theorem qp.cells {t e:TypeId} {k:Nat} {z:List Value} (h:qp P t e k z):(if k=1 then z.headD undef else .agg z.toArray).cells=z.toArray:=by
 split
 ·rename_i hk;rw [h.one hk];have:=h.zl;rw [hk] at this
  match z,this with
  | [a],_=>rfl
 ·rfl
theorem WL.Ce {t e:TypeId} {k:Nat} {z:List Value} [hT:qp P t e k z] {n:Nat} {parts:List (Nat × Operand)} {cs:List Value} (hn:n * k<=16777216)
  (hf:pW (fun i=>some (i * k,k)) ((List.range (n * k)).map fun j=>z.getD (j % k) undef) (parts.map fun x=>(x.1,ev l x.2))=some cs)
  (h:∀ b w',uG w w' b (.cells cs.toArray e)->WL P ops Q rest (put l d (.slice (some ⟨b,0,none⟩) n n)) w') :
  WL P ops Q (⟨d,.buildSlice t n parts.toArray,ty,pos,af,none⟩::rest) l w :=
 WL.val (w':=w.alloc (.cells cs.toArray e)) (by
  have hz:(zeroValue e).run P w=.ok (if k=1 then z.headD undef else .agg z.toArray) w:=by
   haveI:sO P e (if k=1 then z.headD undef else .agg z.toArray):=⟨hT.zero⟩
   exact zY
  have hc:=hT.cells;generalize (if k=1 then z.headD undef else .agg z.toArray:Value)=zv at hz hc;have pE:=xi (fun i=>some (i * k,k)) (parts.map fun x=>(x.1,ev l x.2)) ((List.range (n * k)).map fun j=>z.getD (j % k) undef);rw [hf] at pE
  have u9:¬ (16777216 < n * k):=by omega
  by_cases h0:n * k=0
  ·have Yt:n=0:=by
    rcases Nat.mul_eq_zero.1 h0 with h | h
    ·exact h
    ·have:=hT.pos;omega
   subst Yt;simp only [Nat.zero_mul,List.range_zero,map_nil] at pE;simp only [execOp,map_toArray];have vb:(Array.range 0)=#[]:=rfl;simp [Instr.buildSlice,run_underlying hT.und,jR hT.siz,vb,pE];rfl
  ·have he:(Array.range (n * k)).map (fun j=>z.toArray[j % z.toArray.size]!)=((List.range (n * k)).map fun j=>z.getD (j % k) undef).toArray:=by
    apply Array.ext';simp only [Array.toList_map,Array.toList_range];apply List.map_congr_left;intro j _;have hk:=hT.pos
    have ar:j % k < z.length:=by rw [hT.zl];exact Nat.mod_lt _ hk
    rw [List.getD_eq_getElem?_getD,ec ar];simp [hT.zl];rw [ec ar];rfl
   rw [<-he] at pE;simp only [execOp,map_toArray];simp [Instr.buildSlice,run_underlying hT.und,jR hT.siz,u9,h0,hz,hc];simp only [List.size_toArray] at pE;simp at pE;simp [pE]
   rfl) (h _ _ (uG.of w _))
theorem WL.st {x y:Operand} {t:TypeId} {agg:Bool} {k:Nat} [hT:Ty P t agg k] {b o:Nat} {E:TypeId} {cs:Array Value} {v:Value} (hx:ev l x=.pointer (some ⟨b,o,none⟩)) (hy:ev l y=v)
  (hb:w.heap[b]?=some (.cells cs E (0,0))) (hl:v.cells.size=k) (ho:o+k<=cs.size) (D:mA v.cells.toList=true)
  (h:∀ w',tP w w' b (uA cs o v.cells.toList) E->WL P ops Q rest (put l d undef) w'):WL P ops Q (⟨d,.store t x y,ty,pos,af,none⟩::rest) l w:=by
 obtain ⟨w',hr,hs⟩:=FN (P:=P) (t:=t) hb hl ho D;exact WL.ZX (w':=w') (by simp [execOp,Instr.storeAt,hx,hy,Instr.sureAddr,hr]) (h w' hs)
end
def Eo (P:Program) (f:FuncId):Bool :=
 match P.funcs[f]? with
 | some fn=>fn.name != "runtime.NumGoroutine" && fn.body.isSome
 | none=>false
class ba (P:Program) (f:FuncId):Prop where
 ok:Eo P f=true
def nh (P:Program) (f:FuncId) (args:List Value) (w:World) (R:Value->World->Prop):Prop :=
 Calls P f args.toArray w fun e w'=>∃ v,e=.returned v/\R v w'
theorem nh.mono {P:Program} {f:FuncId} {args:List Value} {w:World} {R R':Value->World->Prop} (h:nh P f args w R) (hr:∀ v w',R v w'->R' v w'):nh P f args w R' :=
 Calls.mono h fun _ _ ⟨v,he,r⟩=>⟨v,he,hr _ _ r⟩
theorem qg {P:Program} {w:World} {f:FuncId} [h:ba P f] (args:Array Value):(callFunc f args).run P w=.ok (.enter f args) w:=by
 obtain ⟨h⟩:=h;unfold Eo at h;split at h
 ·rename_i fn hf;simp only [au,bne_iff_ne,ne_eq] at h
  have I:fn.body.isNone=false:=by cases hb:fn.body <;> simp_all
  simp [callFunc,program,Sem.run,hf,h.1,I];intro hn;simp [hn] at I
 ·cases h
section
variable {P:Program} {Q:lL} {l:List Value} {w:World} {ops:Array Oper} {rest:List Oper} {d:Option Tmp} {ty:TypeId} {pos:String} {af:Array Edge}
theorem WL.calls {op:Op} {f:FuncId} {BK:List Value} (hr:(execOp (ev l) ⟨d,op,ty,pos,af,none⟩).run P w=.ok (.enter f BK.toArray) w) {R:Value->World->Prop}
  (hc:nh P f BK w R) (h:∀ v w',R v w'->WL P ops Q rest (put l d v) w'):WL P ops Q (⟨d,op,ty,pos,af,none⟩::rest) l w:=by
 refine wpList_plain rfl fun K hK=>?_
 simp only [Oper.wp,ny,hr,Oper.upon_enter];refine Calls.mono hc ?_;rintro e w' ⟨v,rfl,hv⟩;simp only [pj];exact hK _ _ (h v w' hv)
theorem WL.call {f:FuncId} [hf:ba P f] {args:List Operand} {qm:Array TypeId} {BK:List Value} (ha:args.map (ev l)=BK) {R:Value->World->Prop}
  (hc:nh P f BK w R) (h:∀ v w',R v w'->WL P ops Q rest (put l d v) w'):WL P ops Q (⟨d,.call ⟨.value (.func f),args.toArray,qm⟩,ty,pos,af,none⟩::rest) l w :=
 WL.calls (by simp [execOp,resolve,ev,Deferred.ofValue,invoke,qg,ha]) hc h
end
def FH:Nat->List Value
 | 0=>[]
 | n+1=>undef::FH n
def frame:List Value->Nat->List Value
 | [],n=>FH n
 | a::r,n=>a::frame r (n - 1)
theorem Um (n:Nat):FH n=List.replicate n undef:=by
 induction n with
 | zero=>rfl
 | succ n ih=>rw [FH,ih];rfl
theorem N8 (args:List Value) (n:Nat):frame args n=args++List.replicate (n - args.length) undef:=by
 induction args generalizing n with
 | nil=>simp [frame,Um]
 | cons a r ih=>rw [frame,ih];simp [Nat.sub_sub,Nat.add_comm]
def Pz (P:Program) (fn:Func) (R:Value->World->Prop):lL
 | .normal,l,w | .ret,l,w=>∃ v,(results fn l.toArray).run P w=.ok v w/\R v w
 | _,_,_=>False
theorem nh.enter {P:Program} {f:FuncId} {fn:Func} {c:Code} {args:List Value} {w:World} {R:Value->World->Prop} {n:Nat} {l:List Value}
  (hf:P.funcs[f]?=some fn) (hn:fn.ntmps=n) (hb:fn.body=some c) (hl:frame args n=l) (h:W P c (Pz P fn R) l w):nh P f args w R:=by
 subst hl;refine calls_of_wp hf hb ?_
 have pF:(args.toArray++Array.replicate (fn.ntmps - args.toArray.size) undef)=(frame args n).toArray:=by
  simp [N8,hn]
 rw [pF];refine wp_mono h ?_;rintro e a w ⟨l,rfl,hq⟩
 cases e <;> simp only [Pz] at hq <;> simp only [bodyPost]
 ·obtain ⟨v,hr,hv⟩:=hq;exact ⟨rfl,v,hr,v,rfl,hv⟩
 ·obtain ⟨v,hr,hv⟩:=hq;exact ⟨rfl,v,hr,v,rfl,hv⟩
def R6 (P:Program) (t e k mK:Nat):Bool :=
 (match P.underlying t with | some (.slice e')=>e'==e | _=>false) &&
 (match P.info? e with
  | some i=>(match i.zero with | some z=>z.cells.size==k | none=>false)&&i.size==k&&i.bytes==mK
  | none=>false)&&k != 0
class rZ (P:Program) (t:TypeId) (e:outParam TypeId) (k:outParam Nat) (mK:outParam Nat):Prop where
 is:R6 P t e k mK=true
theorem rZ.parts {P:Program} {t e k mK:Nat} (h:rZ P t e k mK) :
  P.underlying t=some (.slice e)/\(∃ i z,P.info? e=some i/\i.zero=some z/\z.cells.size=k/\i.size=k/\i.bytes=mK)/\0 < k:=by
 obtain ⟨h⟩:=h;simp only [R6,au,bne_iff_ne,ne_eq] at h;obtain ⟨⟨D,I⟩,h3⟩:=h;refine ⟨?_,?_,by omega⟩
 ·split at D
  ·rename_i e' hu;rw [hu];simp at D;rw [D]
  ·cases D
 ·split at I
  ·rename_i i hi;simp only [au,beq_iff_eq] at I;obtain ⟨⟨h4,h5⟩,h6⟩:=I;split at h4
   ·rename_i z hz;exact ⟨i,z,hi,hz,by simpa using h4,h5,h6⟩
   ·cases h4
  ·cases I
abbrev gV (w:World) (base:Nat) (e k:Nat) (v:Value) (n:Nat) (xs:List Value):Prop:=w.ownsRow base e k v n xs
theorem gV.nil (w:World) (base e k:Nat):gV w base e k (.slice none 0 0) 0 []:=World.ownsRow_nil w base e k
theorem gV.ext {S:Nat->Prop} {w w':World} {base e k:Nat} {v:Value} {n:Nat} {xs:List Value} (h:gV w base e k v n xs) (hx:Ext S w w') (hs:∀ b,v.ownBlock=some b->¬ S b):gV w' base e k v n xs:=by
 obtain ⟨D,I⟩:=h;refine ⟨D,?_⟩
 rcases I with I | ⟨g,cap,cur,rfl,hb,hg,r⟩
 ·exact .inl I
 ·exact .inr ⟨g,cap,cur,rfl,hb,hx.blk hg (hs g rfl),r⟩
theorem gV.lt {w:World} {base e k:Nat} {v:Value} {n:Nat} {xs:List Value} (h:gV w base e k v n xs) {b:Nat} (hv:v.ownBlock=some b):base<=b/\b < w.heap.size:=by
 obtain ⟨D,I⟩:=h
 rcases I with ⟨rfl,_⟩ | ⟨g,cap,cur,rfl,hb,hg,r⟩
 ·cases hv
 ·simp only [Value.ownBlock,Option.some.injEq] at hv;subst hv;exact ⟨hb,rF hg⟩
theorem gV.shape {w:World} {base e k:Nat} {v:Value} {n:Nat} {xs:List Value} (h:gV w base e k v n xs):∃ a c,v=.slice a n c:=by
 obtain ⟨D,I⟩:=h
 rcases I with ⟨rfl,rfl⟩ | ⟨g,cap,cur,rfl,_⟩
 ·exact zaL
 ·exact zaL
theorem gV.base {w:World} {base Py e k:Nat} {v:Value} {n:Nat} {xs:List Value} (h:gV w base e k v n xs) (hb:Py<=base):gV w Py e k v n xs:=by
 obtain ⟨D,I⟩:=h;refine ⟨D,?_⟩
 rcases I with I | ⟨g,cap,cur,rfl,bA,r⟩
 ·exact .inl I
 ·exact .inr ⟨g,cap,cur,rfl,gm hb bA,r⟩
theorem gV.cells {w:World} {base e k:Nat} {v:Value} {n:Nat} {xs:List Value} (h:gV w base e k v n xs) :
  xs.length=n * k/\(xs≠[]->∃ b c,v=.slice (some ⟨b,0,none⟩) n c/\base<=b/\b < w.heap.size/\∀ j u,xs[j]?=some u->w.cell? ⟨b,j,none⟩=some u):=by
 obtain ⟨D,I⟩:=h;refine ⟨D,fun bZ=>?_⟩
 rcases I with ⟨rfl,rfl⟩ | ⟨g,cap,cur,rfl,hb,hg,hn,hm,fJ,ht⟩
 ·simp at D;exact absurd D bZ
 ·refine ⟨g,cap,rfl,hb,rF hg,fun j u hj=>?_⟩;rw [cell_of_row w g j cur e (0,0) hg];rw [<-ht] at hj;rw [List.getElem?_take] at hj;split at hj
  ·simpa using hj
  ·cases hj
theorem gV.T8 {w w':World} {b e k n:Nat} {cs:List Value} (h:uG w w' b (.cells cs.toArray e)) (hl:cs.length=n * k) (hm:n<=maxLen):gV w' w.heap.size e k (.slice (some ⟨b,0,none⟩) n n) n cs :=
 ⟨hl,.inr ⟨b,n,cs.toArray,rfl,by rw [h.fresh];exact aD _,h.blk,aD _,hm,by simpa using hl,by simp [<-hl]⟩⟩
section
variable {P:Program} {Q:lL} {l:List Value} {w:World} {ops:Array Oper} {rest:List Oper} {d:Option Tmp} {ty:TypeId} {pos:String} {af:Array Edge}
theorem WL.app {s x:Operand} {t e k mK:Nat} [hT:rZ P t e k mK] {base n m c b o:Nat} {xs news:List Value} {v:Value} (hs:ev l s=v) (gz:gV w base e k v n xs)
  (hx:ev l x=.slice (some ⟨b,o,none⟩) m c) (hl:news.length=m * k) (P4:∀ j u,news[j]?=some u->w.cell? ⟨b,o+j,none⟩=some u) (D:mA news=true)
  (SS:n+m<=9223372036854775807) (xm:(n+m) * mK<=140737488355328) (AE:base<=w.heap.size)
  (h:∀ v' w',gV w' base e k v' (n+m) (xs++news)->Ext (fun b=>v.ownBlock=some b) w w'->(∀ b,v'.ownBlock=some b->v.ownBlock=some b\/w.heap.size<=b)->(Ext gR w w'\/v'.ownBlock=v.ownBlock)->WL P ops Q rest (put l d v') w') :
  WL P ops Q (⟨d,.call ⟨.builtin .append,#[s,x],#[t,t]⟩,ty,pos,af,none⟩::rest) l w:=by
 obtain ⟨hu,⟨i,z,hi,hz,Wv,fJ,AF⟩,hk⟩:=hT.parts;obtain ⟨v',w',hr,I,h3,h4⟩:=run_append_own (P:=P) w base t ty e i z k mK hu hi hz fJ AF Wv hk v n xs gz ⟨b,o,none⟩ m c news hl
  (fun j u hj=>by rw [rp];exact P4 j u hj) zfG (by simpa [maxLen] using SS) xm AE
 have iJ:Ext (fun b=>v.ownBlock=some b) w w':=⟨h3.os,h3.tape,h3.output,h3.size,fun j hj hn=>h3.block j hj fun he=>hn he.symm⟩
 have xr:∀ j u,news[j]?=some u->w.cell? ((⟨b,o,none⟩:Addr).add j)=some u:=fun j u hj=>by rw [rp];exact P4 j u hj
 have jA:news.length=m * i.size:=by rw [fJ];exact hl
 have Of:(n+m) * i.bytes<=140737488355328:=by rw [AF];exact xm
 refine WL.val (v:=v') (w':=w') (by simp [execOp,resolve,invoke,builtin,hs,hx,hr]) (h v' w' I iJ ?_ ?_)
 ·intro b' bA;have AM:=gz.2
  rcases AM with ⟨rfl,rfl⟩ | ⟨g,cap,cur,rfl,oM,hg,s9,Da,nD,AP⟩
  ·by_cases hm:m=0
   ·have:=h4.2 ⟨rfl,hm⟩;subst this;cases bA
   ·have dT:=run_append_nil (P:=P) w t ty e i z hu hi hz ⟨b,o,none⟩ m c news jA xr zeM zeM (by simp only [eo] at Of;omega);rw [hr] at dT;cases dT;exact zaX
  ·by_cases hroom:n+m<=cap
   ·have dT:=run_append_room (P:=P) w t ty e i hu hi g n cap cur hg ⟨b,o,none⟩ m c news jA xr zfG hroom
     zfw
    rw [hr] at dT;cases dT;exact .inl bA
   ·have holds:∀ j u,xs[j]?=some u->w.cell? ((⟨g,0,none⟩:Addr).add j)=some u:=World.ownsRow.cells (g:=g) gz rfl;have dT:=run_append_grow (P:=P) w t ty e i z hu hi hz ⟨g,0,none⟩ n cap xs zfl holds ⟨b,o,none⟩ m c news jA xr zeM zeM (growslice_fits zeM Of);rw [hr] at dT;cases dT;exact zaX
 ·have AM:=gz.2
  rcases AM with ⟨rfl,rfl⟩ | ⟨g,cap,cur,rfl,oM,hg,s9,Da,nD,AP⟩
  ·exact .inl (iJ.mono fun k _ hk=>by cases hk)
  ·by_cases hroom:n+m<=cap
   ·have dT:=run_append_room (P:=P) w t ty e i hu hi g n cap cur hg ⟨b,o,none⟩ m c news jA xr zfG hroom
     zfw
    rw [hr] at dT;cases dT;exact zbd
   ·have holds:∀ j u,xs[j]?=some u->w.cell? ((⟨g,0,none⟩:Addr).add j)=some u:=World.ownsRow.cells (g:=g) gz rfl;have dT:=run_append_grow (P:=P) w t ty e i z hu hi hz ⟨g,0,none⟩ n cap xs zfl holds ⟨b,o,none⟩ m c news jA xr zeM zeM (growslice_fits zeM Of);rw [hr] at dT;cases dT;exact zcy
theorem WL.push {x s:Operand} {t e k mK:Nat} {z:List Value} [hT:rZ P t e k mK] [hZ:qp P t e k z] {base n:Nat} {xs vs:List Value} {v val:Value} {d1:Tmp} {MQ:TypeId} {FE:String} {Kq:Array Edge}
  (hx:ev l x=val) (hs:∀ u,ev (put l (some d1) u) s=v) (hd:∀ u,ev (put l (some d1) u) (.tmp d1)=u) (hc:val.cells=vs.toArray) (hk:vs.length=k) (D:mA vs=true)
  (gz:gV w base e k v n xs) (SS:n+1<=9223372036854775807) (xm:(n+1) * mK<=140737488355328) (aah:k<=16777216) (AE:base<=w.heap.size)
  (h:∀ u v' w',gV w' base e k v' (n+1) (xs++vs)->Ext (fun b=>v.ownBlock=some b) w w'->(∀ b,v'.ownBlock=some b->v.ownBlock=some b\/w.heap.size<=b)->(Ext gR w w'\/v'.ownBlock=v.ownBlock)->WL P ops Q rest (put (put l (some d1) u) d v') w') :
  WL P ops Q (⟨some d1,.buildSlice t 1 #[(0,x)],MQ,FE,Kq,none⟩::⟨d,.call ⟨.builtin .append,#[s,.tmp d1],#[t,t]⟩,ty,pos,af,none⟩::rest) l w:=by
 have hkp:=hZ.pos
 have fJ:val.cells.size=k:=by rw [hc];simpa using hk
 have iM:∀ (vs cs:List Value),vs.length=cs.length->mc cs 0 vs=vs:=by
  have gen:∀ (vs pre cs:List Value),vs.length=cs.length->mc (pre++cs) pre.length vs=pre++vs:=by
   intro vs
   induction vs with
   | nil=>intro pre cs hl;cases cs <;> simp_all [mc]
   | cons a r ih =>
    intro pre cs hl
    cases cs with
    | nil=>simp at hl
    | cons c cs =>
     have hu:fh (pre++c::cs) pre.length a=pre++a::cs:=by
      clear hl
      induction pre with
      | nil=>rfl
      | cons p pre ihp=>simp [fh,ihp]
     rw [mc,hu];have:=ih (pre++[a]) cs zeQ;exact zcb
  intro vs cs hl;exact gen vs [] cs hl
 have U3:pW (fun i=>some (i * k,k)) ((List.range (1 * k)).map fun j=>z.getD (j % k) undef) ([((0:Nat),x)].map fun y=>(y.1,ev l y.2))=some vs:=by
  simp only [List.map_cons,map_nil,pW,hx,fJ];simp [hk,hc];exact iM vs _ zfv
 refine WL.Ce (n:=1) (parts:=[(0,x)]) zeM U3 ?_;intro b2 w2 bL;have U7:gV w2 base e k v n xs:=gz.ext bL.ext (fun _ _ h=>h);refine WL.app (base:=base) (v:=v) (n:=n) (xs:=xs) (news:=vs) (m:=1) (hs _) U7 (hd _) zeM (fun j u hj=>?_) D SS xm (gm AE bL.ext.size) ?_
 ·rw [eo];exact Kx bL.blk ze1
 ·intro v' w3 ho LK hb va;refine h _ v' w3 ho ((bL.ext.mono (fun _ _ h=>h.elim)).trans LK) (fun b bA=>?_) (va.imp (fun h5=>bL.ext.trans h5) id)
  rcases hb b bA with h4 | h4
  ·exact .inl h4
  ·exact .inr (gm bL.ext.size h4)
end
section
variable {P:Program} {ops:Array Oper} {S:Nat->Prop}
end
def rX:List Oper->Nat->Oper
 | [],_=>default
 | o::_,0=>o
 | _::r,n+1=>rX r n
theorem Rr (ol:List Oper) (i:Nat) (o:Oper) (h:ol.toArray[i]?=some o):rX ol i=o:=by
 have h':ol[i]?=some o:=by simpa using h
 clear h
 induction ol generalizing i with
 | nil=>simp at h'
 | cons x r ih =>
  cases i with
  | zero=>simpa [rX] using h'
  | succ i=>exact ih i (by simpa using h')
section
variable {P:Program} {ops:Array Oper} {S:Nat->Prop} {Q:lL} {l:List Value} {w:World} {r:List (Oper × Bool)} {d:Option Tmp} {op:Op} {ty:TypeId} {pos:String} {af:Array Edge}
end
def JW:IntKind->IntKind->Bool
 | .i8,.i8 | .i16,.i16 | .i32,.i32 | .i64,.i64 | .u8,.u8 | .u16,.u16 | .u32,.u32 | .u64,.u64=>true
 | _,_=>false
theorem O5 {a b:IntKind} (h:JW a b=true):a=b:=by cases a <;> cases b <;> first | rfl | cases h
def Ji (op:BinOp) (a b:Int):Option Value :=
 match op with
 | .eql=>some (.bool (a==b))
 | .neq=>some (.bool (a != b))
 | .lss=>some (.bool (decide (a < b)))
 | .leq=>some (.bool (decide (a<=b)))
 | .gtr=>some (.bool (decide (b < a)))
 | .geq=>some (.bool (decide (b<=a)))
 | _=>none
def Jh (op:BinOp):Value->Value->Option Value
 | .int k a,.int k' b=>match JW k k' with
  | true=>Ji op a b
  | false=>none
 | _,_=>none
def wa (c:Op) (x:Value):Option Value :=
 match c with
 | .nilCheck _=>match x with
  | .pointer (some a)=>some (.pointer (some a))
  | _=>none
 | .unOp .not _ _=>match x with
  | .bool b=>some (.bool (!b))
  | _=>none
 | .extract _ i=>match x with
  | .tuple vs=>vs[i]?
  | _=>none
 | _=>none
def go (ρ:Operand->Value) (o:Op):Option Value :=
 match o with
 | .move x=>some (ρ x)
 | .assign x=>some (ρ x)
 | .makeFunc fn f c=>some (.func fn (f.map ρ) (c.map ρ))
 | .binOp op _ x y _=>Jh op (ρ x) (ρ y)
 | .nilCheck x=>wa o (ρ x)
 | .unOp _ _ x=>wa o (ρ x)
 | .extract x _=>wa o (ρ x)
 | _=>none
section
variable {P:Program} {l:List Value} {w:World}
theorem Q6 {o:Op} {v:Value} (h:go (ev l) o=some v):ep P l w o v:=by
 unfold go at h;split at h
 ·cases h;exact R.mv
 ·cases h;exact R.ky
 ·cases h;exact R.Cd
 ·rename_i op t x y t';unfold Jh at h;split at h
  ·rename_i k a k' b hx hy;split at h
   ·rename_i hk;have:=O5 hk;subst this;unfold Ji at h
    split at h <;> first | (cases h;done) | skip
    ·cases h;exact R.eq hx hy
    ·cases h;exact R.ne hx hy
    ·cases h;exact R.lt hx hy
    ·cases h;exact R.le hx hy
    ·cases h;exact R.Ys hx hy
    ·cases h;exact R.ge hx hy
   ·cases h
  ·cases h
 ·unfold wa at h;simp only at h;split at h
  ·rename_i a hx;cases h;exact R.JK hx
  ·cases h
 ·rename_i op t x;unfold wa at h
  cases op <;> simp only at h <;> first | (cases h;done) | skip
  split at h
  ·rename_i b hx;cases h;exact R.not hx
  ·cases h
 ·unfold wa at h;simp only at h;split at h
  ·rename_i vs hx;exact R.extract hx h
  ·cases h
 ·cases h
theorem R.addN {x y:Operand} {t t':TypeId} {a b:Nat} (hx:ev l x=ii a) (hy:ev l y=ii b) (hb:a+b<=9223372036854775807):ep P l w (.binOp .add t x y t') (ii ((a+b:Nat):Int)):=R.add hx hy zeM zeM
theorem R.ja {x y:Operand} {t t':TypeId} {a:Nat} (hx:ev l x=ii a) (hy:ev l y=ii 1) (hb:a+1<=9223372036854775807):ep P l w (.binOp .add t x y t') (ii ((a+1:Nat):Int)):=R.add hx hy zeM zeM
theorem R.Qy {c a b:Operand} {t:Bool} (hc:ev l c=.bool t) (ht:t=true):ep P l w (.pick c a b) (ev l a):=by
 subst ht;exact R.pick hc
theorem R.Qx {c a b:Operand} {t:Bool} (hc:ev l c=.bool t) (ht:t=false):ep P l w (.pick c a b) (ev l b):=by
 subst ht;exact R.pick hc
end
section
variable {P:Program} {Q:lL} {l:List Value} {w:World} {ops:Array Oper} {rest:List Oper} {d:Option Tmp} {op:Op} {ty:TypeId} {pos:String} {af:Array Edge} {v:Value} {S:Nat->Prop} {r:List (Oper × Bool)}
end
def uo (ops:List Oper) (l:List Value):Option (Nat × Bool)->Bool
 | none=>true
 | some (j,b)=>match (rX ops j).dst with
  | some t=>match nth l t with
   | .bool c=>c==b
   | _=>false
  | none=>false
def jg {α:Type}:List α->Nat->Bool
 | [],_=>false
 | _::_,0=>true
 | _::r,n+1=>jg r n
theorem AV {α:Type}:∀ {l:List α} {n:Nat},jg l n=true->n < l.length
 | [],_,h=>by cases h
 | _::_,0,_=>by simp
 | _::r,n+1,h=>by have:=AV (l:=r) (n:=n) h;simp;omega
def tl:Option (Nat × Bool)->List Oper->List Value->Bool
 | some (j,_),ops,l=>jg ops j&&(match (rX ops j).dst with
  | some t=>jg l t&&(match nth l t with | .bool _=>true | .tuple _=>true | _=>false)
  | none=>false)
 | none,_,_=>true
theorem Ic (ol:List Oper) (j:Nat) (h:j < ol.length):ol.toArray[j]?=some (rX ol j):=by
 obtain ⟨o,ho⟩:∃ o,ol.toArray[j]?=some o:=⟨ol[j],by simp [h]⟩;rw [ho,Rr ol j o ho]
theorem T0 (l:List Value) (t:Nat) (h:t < l.length):l[t]?=some (nth l t):=by
 induction l generalizing t with
 | nil=>simp at h
 | cons x l ih=>cases t with
  | zero=>rfl
  | succ t=>simpa [nth] using ih t zeO
theorem vK {ops:Array Oper} {d:Option Tmp} {op:Op} {ty:TypeId} {pos:String} {af:Array Edge} {gd:Option (Nat × Bool)} {l:List Value} (hb:tl gd ops.toList l=true) :
  Region.wanted ⟨d,op,ty,pos,af,gd⟩ (yielded ops (act l).tmps)=uo ops.toList l gd:=by
 cases gd with
 | none=>rfl
 | some x =>
  obtain ⟨j,b⟩:=x;simp only [tl,au] at hb;obtain ⟨D,I⟩:=hb;have hj:=Ic ops.toList j (AV D);simp only [Array.toArray_toList] at hj;simp only [Region.wanted,uo,yielded,hj,Option.bind_some]
  cases hd:(rX ops.toList j).dst with
  | none=>rw [hd] at I;cases I
  | some t =>
   rw [hd] at I;simp only [au] at I;have ht:=T0 l t (AV I.1);simp only [Option.bind_some,act]
   have AO:l.toArray[t]?=some (nth l t):=by simpa using ht
   rw [AO]
   cases hv:nth l t <;> rw [hv] at I <;> simp_all
def gv (ops:List Oper) (l:List Value) (gd:Nat × Bool):Option Bool :=
 match (rX ops gd.1).dst with
 | some t=>match nth l t with
  | .bool c=>some c
  | _=>none
 | none=>none
theorem M1 {ops:List Oper} {l:List Value} {gd:Nat × Bool} {c:Bool} (hv:gv ops l gd=some c) (hc:c=gd.2):uo ops l (some gd)=true:=by
 obtain ⟨j,b⟩:=gd;unfold gv at hv;unfold uo;simp only at hv hc |-;split at hv
 ·rename_i t ht;split at hv
  ·rename_i c' de;cases hv;simp [hc]
  ·cases hv
 ·cases hv
theorem M0 {ops:List Oper} {l:List Value} {gd:Nat × Bool} {c:Bool} (hv:gv ops l gd=some c) (hc:c=!gd.2):uo ops l (some gd)=false:=by
 obtain ⟨j,b⟩:=gd;unfold gv at hv;unfold uo;simp only at hv hc |-;split at hv
 ·rename_i t ht;split at hv
  ·rename_i c' de;cases hv;cases b <;> simp_all
  ·cases hv
 ·cases hv
theorem M4 {ops:List Oper} {l:List Value} {gd:Nat × Bool} (hv:gv ops l gd=none):uo ops l (some gd)=false:=by
 obtain ⟨j,b⟩:=gd;unfold gv at hv;unfold uo;simp only at hv |-;split at hv
 ·rename_i t ht;split at hv
  ·cases hv
  ·first | rfl | (split <;> simp_all)
 ·rfl
section
variable {P:Program} {Q:lL} {l:List Value} {w:World} {ops:Array Oper} {rest:List Oper} {d:Option Tmp} {op:Op} {ty:TypeId} {pos:String} {af:Array Edge} {v:Value} {S:Nat->Prop} {r:List (Oper × Bool)} {gd:Nat × Bool}
theorem GT {c:Bool} (hb:tl (some gd) ops.toList l=true) (hv:gv ops.toList l gd=some c) (hc:c=gd.2) (h:WL P ops Q (⟨d,op,ty,pos,af,none⟩::rest) l w):WL P ops Q (⟨d,op,ty,pos,af,some gd⟩::rest) l w:=WL.gt ((vK hb).trans (M1 hv hc)) h
theorem GF {c:Bool} (hb:tl (some gd) ops.toList l=true) (hv:gv ops.toList l gd=some c) (hc:c=!gd.2) (h:WL P ops Q rest (put l d undef) w):WL P ops Q (⟨d,op,ty,pos,af,some gd⟩::rest) l w:=WL.gf ((vK hb).trans (M0 hv hc)) h
theorem GU (hb:tl (some gd) ops.toList l=true) (hv:gv ops.toList l gd=none) (h:WL P ops Q rest (put l d undef) w):WL P ops Q (⟨d,op,ty,pos,af,some gd⟩::rest) l w:=WL.gf ((vK hb).trans (M4 hv)) h
end
def JQ:Value->Bool
 | .agg _=>false
 | .tuple _=>false
 | _=>true
theorem wG {v:Value} (h:JQ v=true):v.cells=#[v]/\v.oneCell'=true:=by
 cases v <;> first | exact ⟨rfl,rfl⟩ | cases h
end Go.Xw
namespace Go.Xg
open Go.RowKit Go.Xw
inductive GV where
 | v (x:Value)
 | U
 | agg (cs:List GV)
 | tup (cs:List GV)
 | sl (k:Nat) (rows:List (List GV))
 | box (cs:List GV) (o:Nat)
 | loc (i o:Nat)
 | vec (i n:Nat)
 | vp (i n k idx off:Nat)
 | arr (i o n:Nat)
 | fn (f:Fn) (first cap:List GV)
abbrev Fz:=Nat->Nat->Option GV
inductive Bk where
 | no
 | fix (b:Nat)
 | gr (h:Value) (m:Nat)
 | set (S:Nat->Prop)
def Bk.has:Bk->Nat->Prop
 | .no,_=>False
 | .fix b,c=>b=c
 | .gr h _,c=>h.ownBlock=some c
 | .set S,c=>S c
abbrev Bt:=Nat->Bk
def cZ (K K':Fz):Prop:=∀ b o g,K b o=some g->K' b o=some g
def rP:Bk->Bk->Prop
 | .no,_=>True
 | .fix b,x=>x=.fix b
 | .set _,_=>True
 | .gr h m,x=>∃ h' m',x=.gr h' m'/\m<=m'/\(m'=m->h'=h)
def dx (β bT:Bt):Prop:=∀ i,rP (β i) (bT i)
theorem cZ.refl (K:Fz):cZ K K:=fun _ _ _ h=>h
theorem cZ.trans {a b c:Fz} (h:cZ a b) (k:cZ b c):cZ a c:=fun x y z hz=>k x y z (h x y z hz)
theorem rP.refl (x:Bk):rP x x:=by cases x with | no=>trivial | fix b=>rfl | gr h m=>exact ⟨h,m,rfl,aD _,fun _=>rfl⟩ | set S=>trivial
theorem rP.trans {a b c:Bk} (h:rP a b) (k:rP b c):rP a c:=by
 cases a with
 | no=>trivial
 | set S=>trivial
 | fix x=>cases h;exact k
 | gr x m =>
  obtain ⟨x',m',rfl,D,I⟩:=h;obtain ⟨x2,m2,rfl,h3,h4⟩:=k
  exact ⟨x2,m2,rfl,gm D h3,fun he=>by
   have:m'=m:=by omega
   rw [h4 zeM,I this]⟩
theorem dx.refl (β:Bt):dx β β:=fun i=>rP.refl _
theorem dx.trans {a b c:Bt} (h:dx a b) (k:dx b c):dx a c:=fun i=>(h i).trans (k i)
inductive Rel (K:Fz) (β:Bt):Value->GV->Prop
 | v (x:Value):Rel K β x (.v x)
 | U (x:Value):Rel K β x .U
 | agg (vs:List Value) (cs:List GV) (hl:vs.length=cs.length) (h:∀ (i:Nat) v g,vs[i]?=some v->cs[i]?=some g->Rel K β v g):Rel K β (.agg vs.toArray) (.agg cs)
 | tup (vs:List Value) (cs:List GV) (hl:vs.length=cs.length) (h:∀ (i:Nat) v g,vs[i]?=some v->cs[i]?=some g->Rel K β v g):Rel K β (.tuple vs.toArray) (.tup cs)
 | sl0 (a:Option Addr) (c k:Nat):Rel K β (.slice a 0 c) (.sl k [])
 | sl (b o c k:Nat) (rows:List (List GV)) (h:∀ (i:Nat) r,rows[i]?=some r->r.length=k/\∀ (j:Nat) g,r[j]?=some g->K b (o+i * k+j)=some g) (hc:rows.length<=c):Rel K β (.slice (some ⟨b,o,none⟩) rows.length c) (.sl k rows)
 | box (b o' o:Nat) (cs:List GV) (h:∀ (j:Nat) g,cs[j]?=some g->K b (o'+j)=some g):Rel K β (.pointer (some ⟨b,o'+o,none⟩)) (.box cs o)
 | loc (i o b:Nat) (h:β i=.fix b):Rel K β (.pointer (some ⟨b,o,none⟩)) (.loc i o)
 | vec (i n:Nat) (a:Option Addr) (c:Nat) (h:∃ h m,β i=.gr h m/\n<=m/\(m=n->.slice a n c=h)):Rel K β (.slice a n c) (.vec i n)
 | vp (i n k idx off:Nat) (x:Value) (h:∃ h m,β i=.gr h m/\n<=m/\(m=n->∃ b,h.ownBlock=some b/\x=.pointer (some ⟨b,idx * k+off,none⟩))):Rel K β x (.vp i n k idx off)
 | arr (i o n b c:Nat) (h:β i=.fix b):Rel K β (.slice (some ⟨b,o,none⟩) n c) (.arr i o n)
 | fn (f:Fn) (xs ys:List Value) (first cap:List GV) (hl:xs.length=first.length) (jA:ys.length=cap.length) (h:∀ (i:Nat) v g,xs[i]?=some v->first[i]?=some g->Rel K β v g)
   (h':∀ (i:Nat) v g,ys[i]?=some v->cap[i]?=some g->Rel K β v g):Rel K β (.func f xs.toArray ys.toArray) (.fn f first cap)
theorem Rel.mono {K K':Fz} {β bT:Bt} {x:Value} {g:GV} (h:Rel K β x g) (hk:cZ K K') (hb:dx β bT):Rel K' bT x g:=by
 induction h with
 | v x=>exact .v x
 | U x=>exact .U x
 | agg vs cs hl h ih=>exact .agg vs cs hl ih
 | tup vs cs hl h ih=>exact .tup vs cs hl ih
 | sl0 a c k=>exact .sl0 a c k
 | sl b o c k rows h hc=>exact .sl b o c k rows (fun i r hr=>⟨(h i r hr).1,fun j g hg=>hk _ _ _ ((h i r hr).2 j g hg)⟩) hc
 | box b o' o cs h=>exact .box b o' o cs fun j g hg=>hk _ _ _ (h j g hg)
 | loc i o b h=>exact .loc i o b zfK
 | vec i n a c h =>
  obtain ⟨h0,m,D,I,h3⟩:=h;have h4:=hb i;rw [D] at h4;obtain ⟨h',m',h5,h6,h7⟩:=h4;exact .vec i n a c ⟨h',m',h5,by omega,fun he=>by rw [h7 zeM];exact h3 zeM⟩
 | vp i n k idx off x h =>
  obtain ⟨h0,m,D,I,h3⟩:=h;have h4:=hb i;rw [D] at h4;obtain ⟨h',m',h5,h6,h7⟩:=h4;exact .vp i n k idx off x ⟨h',m',h5,by omega,fun he=>by rw [h7 zeM];exact h3 zeM⟩
 | arr i o n b c h=>exact .arr i o n b c zfK
 | fn f xs ys first cap hl jA h h' ih ve=>exact .fn f xs ys first cap hl jA ih ve
def GV.pc:GV->Bool
 | .v _=>true
 | .sl _ _=>true
 | .box _ _=>true
 | _=>false
theorem Rel.pc {K:Fz} {β bT:Bt} {x:Value} {g:GV} (h:Rel K β x g) (hp:g.pc=true):Rel K bT x g:=by
 cases h <;> first | (cases hp;done) | skip
 ·exact .v _
 ·exact .sl0 _ _ _
 ·rename_i h hc;exact .sl _ _ _ _ _ h hc
 ·rename_i h;exact .box _ _ _ _ h
def GV.one:GV->Bool
 | .v x=>JQ x
 | .U=>false
 | .agg _=>false
 | .tup _=>false
 | .vp _ _ _ _ _=>false
 | _=>true
theorem Rel.one {K:Fz} {β:Bt} {x:Value} {g:GV} (h:Rel K β x g) (ho:g.one=true):JQ x=true:=by
 cases h <;> first | exact ho | rfl | (cases ho;done)
abbrev bm (K:Fz) (β:Bt) (vs:List Value) (gs:List GV):Prop:=vs.length=gs.length/\∀ (i:Nat) v g,vs[i]?=some v->gs[i]?=some g->Rel K β v g
theorem bm.mono {K K':Fz} {β bT:Bt} {vs:List Value} {gs:List GV} (h:bm K β vs gs) (hk:cZ K K') (hb:dx β bT):bm K' bT vs gs:=⟨h.1,fun i v g D I=>(h.2 i v g D I).mono hk hb⟩
theorem bm.nil {K:Fz} {β:Bt}:bm K β [] []:=⟨rfl,fun i v g h=>by simp at h⟩
theorem bm.cons {K:Fz} {β:Bt} {v:Value} {g:GV} {vs:List Value} {gs:List GV} (h:Rel K β v g) (hs:bm K β vs gs):bm K β (v::vs) (g::gs):=by
 refine ⟨by simp [hs.1],fun i x y D I=>?_⟩
 cases i with
 | zero=>cases D;cases I;exact h
 | succ i=>exact hs.2 i x y D I
theorem bm.oT {K:Fz} {β:Bt} {v:Value} {g:GV} {vs:List Value} {gs:List GV} (h:bm K β (v::vs) (g::gs)):Rel K β v g/\bm K β vs gs :=
 ⟨h.2 0 v g rfl rfl,by simpa using h.1,fun i x y D I=>h.2 (i+1) x y D I⟩
theorem bm.app {K:Fz} {β:Bt} {vs us:List Value} {gs hs:List GV} (h:bm K β vs gs) (k:bm K β us hs):bm K β (vs++us) (gs++hs):=by
 induction vs generalizing gs with
 | nil =>
  have:gs=[]:=by have:=h.1;simp at this;exact gk this.symm
  subst this;exact k
 | cons v vs ih =>
  cases gs with
  | nil=>have:=h.1;simp at this
  | cons g gs=>obtain ⟨D,I⟩:=h.oT;exact .cons D (ih I)
theorem bm.at {K:Fz} {β:Bt} {vs:List Value} {gs:List GV} (h:bm K β vs gs) {i:Nat} {g:GV} (hg:gs[i]?=some g):∃ v,vs[i]?=some v/\Rel K β v g:=by
 have hi:i < vs.length:=by rw [h.1];exact (bh hg).1
 exact ⟨vs[i],by simp [hi],h.2 i _ g zfp hg⟩
theorem bm.take {K:Fz} {β:Bt} {vs:List Value} {gs:List GV} (h:bm K β vs gs) (n:Nat):bm K β (vs.take n) (gs.take n):=by
 refine ⟨by simp [h.1],fun i x y D I=>?_⟩;rw [List.getElem?_take] at D I;split at D
 ·rename_i hi;rw [ah hi] at I;exact h.2 i x y D I
 ·cases D
theorem bm.drop {K:Fz} {β:Bt} {vs:List Value} {gs:List GV} (h:bm K β vs gs) (n:Nat):bm K β (vs.drop n) (gs.drop n):=by
 refine ⟨by simp [h.1],fun i x y D I=>?_⟩;rw [List.getElem?_drop] at D I;exact h.2 _ x y D I
def cB:List GV->Nat->GV
 | [],_=>.U
 | g::_,0=>g
 | _::l,n+1=>cB l n
def bN:List GV->Nat->GV->List GV
 | [],_,_=>[]
 | _::l,0,g=>g::l
 | x::l,n+1,g=>x::bN l n g
def bg (l:List GV):Operand->GV
 | .tmp t=>cB l t
 | .const v=>.v v
 | .global g=>.v (.pointer (some ⟨g,0,none⟩))
 | .func f=>.v (.func (.func f) #[] #[])
def bK (l:List GV) (d:Option Tmp) (g:GV):List GV:=match d with | some d=>bN l d g | none=>l
inductive FR (K:Fz) (β:Bt):List GV->List Value->Prop
 | nil:FR K β [] []
 | cons {g:GV} {v:Value} {gs:List GV} {vs:List Value} (h:Rel K β v g) (t:FR K β gs vs):FR K β (g::gs) (v::vs)
theorem FR.mono {K K':Fz} {β bT:Bt} {gs:List GV} {vs:List Value} (h:FR K β gs vs) (hk:cZ K K') (hb:dx β bT):FR K' bT gs vs:=by
 induction h with
 | nil=>exact .nil
 | cons h t ih=>exact .cons (h.mono hk hb) ih
theorem FR.nth {K:Fz} {β:Bt} {gs:List GV} {vs:List Value} (h:FR K β gs vs) (t:Nat):Rel K β (nth vs t) (cB gs t):=by
 induction h generalizing t with
 | nil=>exact .U _
 | cons h _ ih=>cases t with | zero=>exact h | succ t=>exact ih t
theorem FR.ev {K:Fz} {β:Bt} {gs:List GV} {vs:List Value} (h:FR K β gs vs) (x:Operand):Rel K β (ev vs x) (bg gs x):=by
 cases x with
 | tmp t=>exact h.nth t
 | const v=>exact .v _
 | global g=>exact .v _
 | func f=>exact .v _
theorem FR.fh {K:Fz} {β:Bt} {gs:List GV} {vs:List Value} (h:FR K β gs vs) (t:Nat) {v:Value} {g:GV} (hv:Rel K β v g):FR K β (bN gs t g) (fh vs t v):=by
 induction h generalizing t with
 | nil=>exact .nil
 | cons h ht ih=>cases t with | zero=>exact .cons hv ht | succ t=>exact .cons h (ih t)
theorem FR.put {K:Fz} {β:Bt} {gs:List GV} {vs:List Value} (h:FR K β gs vs) (d:Option Tmp) {v:Value} {g:GV} (hv:Rel K β v g):FR K β (bK gs d g) (put vs d v):=by
 cases d with | none=>exact h | some d=>exact h.fh d hv
theorem FR.args {K:Fz} {β:Bt} {gs:List GV} {vs:List Value} (h:FR K β gs vs) (xs:List Operand):bm K β (xs.map (Xw.ev vs)) (xs.map (bg gs)):=by
 induction xs with
 | nil=>exact .nil
 | cons x xs ih=>exact .cons (h.ev x) ih
inductive Ob where
 | gone
 | box (E:TypeId) (cs:List GV)
 | vec (E:TypeId) (k fz:Nat) (rows:List (List GV))
 | vech (E:TypeId) (k:Nat) (rows:List (List GV)) (x:Value)
 | lost
 | blk (b:Nat) (p:Obj->Prop)
 | blob (p:(Nat->Option Obj)->Prop)
def rQ (K:Fz) (w:World):Prop:=∀ b o g,K b o=some g->g.pc=true/\∃ v,gO w.heap b o=some v/\Rel K (fun _=>.no) v g
def jk (k:Nat) (rows:List (List GV)):Prop:=∀ r∈rows,r.length=k/\∀ g∈r,g.pc=true
def jD (K:Fz) (β:Bt) (w:World) (i:Nat):Ob->Prop
 | .gone=>β i=.no
 | .box E cs=>∃ b vs,β i=.fix b/\w.heap[b]?=some (.cells vs.toArray E (0,0))/\bm K β vs cs/\∀ o,K b o=none
 | .vec E k fz rows=>∃ h xs,β i=.gr h rows.length/\gV w 0 E k h rows.length xs/\bm K β xs rows.flatten/\jk k rows /\
   (∀ b,h.ownBlock=some b->(∀ o,fz * k<=o->K b o=none)/\∀ o g,o < fz * k->rows.flatten[o]?=some g->K b o=some g)/\fz<=rows.length
 | .vech E k rows x=>∃ xs,β i=.gr x rows.length/\gV w 0 E k x rows.length xs/\bm K β xs rows.flatten/\jk k rows/\∀ b,x.ownBlock=some b->∀ o,K b o=none
 | .lost=>∀ b,(β i).has b->b < w.heap.size
 | .blk b p=>β i=.fix b/\(∃ o,w.heap[b]?=some o/\p o)/\∀ o,K b o=none
 | .blob p=>∃ h:Nat->Option Obj,β i=.set (fun b=>(h b).isSome=true)/\(∀ b o,h b=some o->w.heap[b]?=some o/\∀ j,K b j=none)/\p h
def vq:List Int:=(List.range 20).map fun i=>((10 ^ i:Nat):Int)
def vF:List Int:=(List.range 256).map fun i=>if i=9\/i=10\/i=11\/i=12\/i=13\/i=32 then 1 else 0
def w5 (m:Int):Fz:=fun b o =>
 if b=0 then (match o with | 0=>some (.v (.int .i64 m)) | _=>none)
 else if b=1 then vq[o]?.map fun z=>.v (.int .u64 z)
 else if b=2 then vF[o]?.map fun z=>.v (.int .u8 z)
 else none
def sN (w:World) (b n:Nat):Prop:=∃ cs E z,w.heap[b]?=some (.cells cs E z)/\cs.size=n
theorem sN.lt {w:World} {b n:Nat} (h:sN w b n):b < w.heap.size:=by obtain ⟨cs,E,z,h,_⟩:=h;exact rF h
structure nv (K:Fz) (β:Bt) (w:World):Prop where
 le:∃ m,cZ (w5 m) K
 pow:sN w 1 20
 spc:sN w 2 256
 free:∀ i b,(β i).has b->b≠1/\b≠2
theorem nv.step {S:Nat->Prop} {K K':Fz} {β bT:Bt} {w w':World} (h:nv K β w) (hx:Ext S w w') (hS:∀ b,S b->∃ i,(β i).has b) (hk:cZ K K') (kU:∀ i b,(bT i).has b->(∃ j,(β j).has b)\/w.heap.size<=b):nv K' bT w':=by
 obtain ⟨⟨m,D⟩,I,h3,h4⟩:=h
 have key:∀ {b n:Nat},sN w b n->¬ S b->sN w' b n:=fun ⟨cs,E,z,a,e⟩ hn=>⟨cs,E,z,hx.blk a hn,e⟩
 refine ⟨⟨m,D.trans hk⟩,key I (fun hs=>?_),key h3 (fun hs=>?_),fun i b hb=>?_⟩
 ·obtain ⟨i,hi⟩:=hS _ hs;exact (h4 i _ hi).1 rfl
 ·obtain ⟨i,hi⟩:=hS _ hs;exact (h4 i _ hi).2 rfl
 ·rcases kU i b hb with ⟨j,hj⟩ | hs
  ·exact h4 j b hj
  ·have:=I.lt;have:=h3.lt;exact ⟨by omega,by omega⟩
structure Bs where
 w0:World
 foot:Nat->Prop
 K0:Fz
 β0:Bt
 m:Nat
structure Inv (B:Bs) (K:Fz) (β:Bt) (Γ:List Ob) (w:World):Prop where
 ext:Ext B.foot B.w0 w
 kle:cZ B.K0 K
 ble:dx B.β0 β
 loc:∀ i,B.m<=i->B.β0 i=.no
 fz:rQ K w
 ob:∀ i x,Γ[i]?=some x->jD K β w i x
 out:∀ i,Γ.length<=i->β i=.no
 dis:∀ i j b,(β i).has b->(β j).has b->i=j
 own:∀ i b,(β i).has b->B.foot b\/B.w0.heap.size<=b
 kn:∀ b o g,K b o=some g->B.K0 b o=some g\/B.foot b\/B.w0.heap.size<=b
 tab:nv K β w
section
variable {B:Bs} {K:Fz} {β:Bt} {Γ:List Ob} {w:World}
theorem jD.lt {i:Nat} {x:Ob} (h:jD K β w i x) {b:Nat} (hb:(β i).has b):b < w.heap.size:=by
 cases x with
 | gone=>simp only [jD] at h;rw [h] at hb;cases hb
 | box E cs =>
  obtain ⟨b',vs,D,I,_⟩:=h;rw [D] at hb;cases hb;exact rF I
 | vec E k fz rows =>
  obtain ⟨h',xs,D,I,_⟩:=h;rw [D] at hb;exact (I.lt hb).2
 | vech E k rows x =>
  obtain ⟨xs,D,I,_⟩:=h;rw [D] at hb;exact (I.lt hb).2
 | lost=>exact h b hb
 | blk b' p =>
  obtain ⟨D,⟨o,I,_⟩,_⟩:=h;rw [D] at hb;cases hb;exact (Array.getElem?_eq_some_iff.1 I).1
 | blob p =>
  obtain ⟨g,D,I,_⟩:=h;rw [D] at hb;obtain ⟨o,ho⟩:=Option.isSome_iff_exists.1 hb;exact (Array.getElem?_eq_some_iff.1 (I b o ho).1).1
theorem Inv.lt (h:Inv B K β Γ w) {i b:Nat} (hb:(β i).has b):b < w.heap.size:=by
 by_cases hi:i < Γ.length
 ·exact (h.ob i Γ[i] zfp).lt hb
 ·rw [h.out i zeM] at hb;cases hb
theorem rQ.lt (h:rQ K w) {b o:Nat} {g:GV} (hg:K b o=some g):b < w.heap.size:=by
 obtain ⟨_,v,hv,_⟩:=h b o g hg;exact El hv
def blocks (β:Bt):Nat->Prop:=fun b=>∃ i,(β i).has b
def cur (K:Fz) (β:Bt) (Γ:List Ob) (w:World):Bs:=⟨w,blocks β,K,β,Γ.length⟩
theorem Inv.here (h:Inv B K β Γ w):Inv (cur K β Γ w) K β Γ w :=
 ⟨Ext.refl w,cZ.refl K,dx.refl β,h.out,h.fz,h.ob,h.out,h.dis,fun i b hb=>.inl ⟨i,hb⟩,fun _ _ _ h=>.inl h,h.tab⟩
theorem Inv.Mq {K':Fz} {bT:Bt} {aU WR:List Ob} {w':World} (h:Inv B K β Γ w) (k:Inv (cur K β WR w) K' bT aU w'):Inv B K' bT aU w' :=
 ⟨h.ext.step k.ext (fun j hj=>by obtain ⟨i,hi⟩:=hj;exact (h.own i j hi).symm),h.kle.trans k.kle,h.ble.trans k.ble,h.loc,k.fz,k.ob,k.out,k.dis,
  fun i b hb=>by
   rcases k.own i b hb with D | D
   ·obtain ⟨j,hj⟩:=D;exact h.own j b hj
   ·exact .inr (gm h.ext.size D),
  fun b o g hg=>by
   rcases k.kn b o g hg with D | ⟨j,hj⟩ | D
   ·exact h.kn b o g D
   ·exact .inr (h.own j b hj)
   ·exact .inr (.inr (gm h.ext.size D)),k.tab⟩
theorem jD.ext {S:Nat->Prop} {K':Fz} {bT:Bt} {w':World} {i:Nat} {x:Ob} (h:jD K β w i x) (hx:Ext S w w') (hs:∀ b,(β i).has b->¬ S b) (hk:cZ K K') (hb:dx β bT)
  (he:bT i=β i) (hn:∀ b o,(β i).has b->K b o=none->K' b o=none):jD K' bT w' i x:=by
 cases x with
 | gone=>simp only [jD] at h |-;rw [he,h]
 | box E cs =>
  obtain ⟨b,vs,D,I,h3,h4⟩:=h
  have ea:(β i).has b:=by rw [D];exact rfl
  exact ⟨b,vs,he.trans D,hx.blk I (hs b ea),h3.mono hk hb,fun o=>hn b o ea (h4 o)⟩
 | vec E k fz rows =>
  obtain ⟨h',xs,D,I,h3,h4,h5,h6⟩:=h
  have ea:∀ b,h'.ownBlock=some b->(β i).has b:=fun b hb=>by rw [D];exact hb
  exact ⟨h',xs,he.trans D,I.ext hx (fun b bA=>hs b (ea b bA)),h3.mono hk hb,h4,fun b bA=>⟨fun o ho=>hn b o (ea b bA) ((h5 b bA).1 o ho),fun o g ho hg=>hk _ _ _ ((h5 b bA).2 o g ho hg)⟩,h6⟩
 | vech E k rows x =>
  obtain ⟨xs,D,I,h3,h4,h5⟩:=h
  have ea:∀ b,x.ownBlock=some b->(β i).has b:=fun b hb=>by rw [D];exact hb
  exact ⟨xs,he.trans D,I.ext hx (fun b bA=>hs b (ea b bA)),h3.mono hk hb,h4,fun b bA o=>hn b o (ea b bA) (h5 b bA o)⟩
 | lost=>exact fun b bA=>wT (h b (by rw [<-he];exact bA)) hx.size
 | blk b p =>
  obtain ⟨D,⟨o,I,h3⟩,h4⟩:=h
  have ea:(β i).has b:=by rw [D];exact rfl
  exact ⟨he.trans D,⟨o,hx.blk I (hs b ea),h3⟩,fun o=>hn b o ea (h4 o)⟩
 | blob p =>
  obtain ⟨g,D,I,h3⟩:=h
  have ea:∀ b o,g b=some o->(β i).has b:=fun b o ho=>by rw [D];show (g b).isSome=true;rw [ho];rfl
  exact ⟨g,he.trans D,fun b o ho=>⟨hx.blk (I b o ho).1 (hs b (ea b o ho)),fun j=>hn b j (ea b o ho) ((I b o ho).2 j)⟩,h3⟩
theorem rQ.ext {S:Nat->Prop} {w':World} (h:rQ K w) (hx:Ext S w w') (hs:∀ b o g,K b o=some g->¬ S b):rQ K w':=fun b o g hg=>by
 obtain ⟨D,v,hv,hr⟩:=h b o g hg;exact ⟨D,v,hx.c hv (hs b o g hg),hr⟩
theorem Inv.same {w':World} (h:Inv B K β Γ w) (hx:Ext gR w w'):Inv B K β Γ w' :=
 ⟨h.ext.step hx (fun j hj=>hj.elim),h.kle,h.ble,h.loc,h.fz.ext hx (fun _ _ _ _ h=>h),fun i x hi=>(h.ob i x hi).ext hx (fun _ _ h=>h) (cZ.refl K) (dx.refl β) rfl (fun _ _ _ h=>h),h.out,h.dis,h.own,h.kn,h.tab.step hx (fun _ h=>h.elim) (cZ.refl K) (fun i b h=>.inl ⟨i,h⟩)⟩
def fc (p:Nat->Bool) (β:Bt):Bt:=fun i=>match p i with
 | true=>β i
 | false=>.no
theorem gJ {p:Nat->Bool} {β:Bt} {i:Nat} (h:p i=true):fc p β i=β i:=by simp [fc,h]
theorem sE {p:Nat->Bool} {β:Bt} {i:Nat} (h:p i=false):fc p β i=.no:=by simp [fc,h]
end
end Go.Xg
