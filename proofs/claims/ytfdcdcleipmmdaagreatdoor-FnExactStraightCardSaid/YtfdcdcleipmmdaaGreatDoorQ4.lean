/- Part 4 of proofs that are told in their last texts. -/
import Derived.WalkKit
import Derived.KernelRfl
import Derived.Test.YtfdcdcleipmmdaaGreatDoorQ1
import Derived.Orders
open List (all_cons flatten_cons getElem?_drop getElem?_take length_cons map_nil map_toArray mem_cons_self mem_filter size_toArray)
set_option linter.unusedVariables false
set_option linter.unusedSimpArgs false
set_option maxRecDepth 100000
namespace Go.Xw
open Go.RowKit
def nth:List Value->Nat->Value
 | [],_=>undef
 | v::_,0=>v
 | _::l,n+1=>nth l n
def fS:List Value->Nat->Value->List Value
 | [],_,_=>[]
 | _::l,0,v=>v::l
 | x::l,n+1,v=>x::fS l n v
def ev (l:List Value):Operand->Value
 | .tmp t=>nth l t
 | .const v=>v
 | .global g=>.pointer (some ⟨g,0,none⟩)
 | .func f=>.func (.func f) #[] #[]
def put (l:List Value) (d:Option Tmp) (v:Value):List Value :=
 match d with | some d=>fS l d v | none=>l
theorem lO (l:List Value) (t:Nat):l.toArray.getD t undef=nth l t:=by
 induction l generalizing t with
 | nil=>simp [nth]
 | cons x l ih =>
  cases t with
  | zero=>simp [nth]
  | succ t=>rw [nth,<-ih];simp [Array.getD]
theorem zn (l:List Value) (t:Nat) (v:Value):l.toArray.setIfInBounds t v=(fS l t v).toArray:=by
 have h:∀ (l:List Value) t,fS l t v=l.set t v:=by
  intro l
  induction l with
  | nil=>intro t;rfl
  | cons x l ih=>intro t;cases t with | zero=>rfl | succ t=>simp [fS,ih]
 rw [h];simp
def act (l:List Value):Act:=⟨l.toArray,[]⟩
theorem n9 (l:List Value):(act l).eval=ev l:=by
 funext x;cases x <;> first | rfl | exact lO l _
theorem qs (l:List Value) (d:Option Tmp) (v:Value):(act l).put d v=act (put l d v):=by
 cases d with
 | none=>rfl
 | some d=>simp only [act,Act.put,put];rw [zn]
abbrev ml:=Exit->List Value->World->Prop
def lift (Q:ml):Exit->Act->World->Prop:=fun e a w=>∃ l,a=act l/\Q e l w
def W (P:Program) (c:Code) (Q:ml) (l:List Value) (w:World):Prop:=c.wp P (lift Q) (act l) w
def WL (P:Program) (ops:Array Oper) (Q:ml) (rest:List Oper) (l:List Value) (w:World):Prop :=
 wpList P ops (lift Q) rest (act l) w
def Zx (next:List Value->World->Prop) (Q:ml):ml
 | .normal,l,w=>next l w
 | e,l,w=>Q e l w
def Ws (id:Nat) (Q:ml):ml
 | .exit x8,l,w=>if x8=id then Q .normal l w else Q (.exit x8) l w
 | e,l,w=>Q e l w
section
variable {P:Program} {Q:ml} {l:List Value} {w:World} {ops:Array Oper} {rest:List Oper}
theorem W.seq {x y:Code} (h:W P x (Zx (W P y Q) Q) l w):W P (.seq x y) Q l w:=by
 refine wp_seq (wp_mono h ?_);rintro e a w ⟨l,rfl,hq⟩
 cases e <;> first | exact hq | exact ⟨l,rfl,hq⟩
theorem W.skip (h:Q .normal l w):W P .skip Q l w:=wp_skip ⟨l,rfl,h⟩
theorem W.exit {n:Nat} (h:Q (.exit n) l w):W P (.exit n) Q l w:=wp_exit ⟨l,rfl,h⟩
theorem W.ret (h:Q .ret l w):W P .ret Q l w:=wp_ret ⟨l,rfl,h⟩
theorem W.block {id:Nat} {c:Code} (h:W P c (Ws id Q) l w):W P (.block id c) Q l w:=by
 refine wp_block (wp_mono h ?_);rintro e a w ⟨l,rfl,hq⟩
 cases e with
 | exit x8 =>
  simp only [Ws] at hq;simp only [Exit.inBlock];split <;> rename_i hh
  ·rw [ae hh] at hq;exact ⟨l,rfl,hq⟩
  ·rw [ab hh] at hq;exact ⟨l,rfl,hq⟩
 | normal=>exact ⟨l,rfl,hq⟩
 | goto _=>exact ⟨l,rfl,hq⟩
 | ret=>exact ⟨l,rfl,hq⟩
 | panic _=>exact ⟨l,rfl,hq⟩
 | outgrown=>exact ⟨l,rfl,hq⟩
theorem W.cond {c:Operand} {x y:Code} {t:Bool} (hc:ev l c=.bool t) (ht:t=true->W P x Q l w) (hf:t=false->W P y Q l w):W P (.cond c x y) Q l w:=by
 refine wp_cond_split (t:=t) (by rw [n9];exact hc) ht hf
theorem W.mono {c:Code} {Q':ml} (h:W P c Q l w) (hq:∀ e l w,Q e l w->Q' e l w):W P c Q' l w :=
 wp_mono h fun _ _ _ ⟨l,ha,q⟩=>⟨l,ha,hq _ _ _ q⟩
theorem W.loop {c:Code} {α:Type} (μ:α->Nat) (abf:α->List Value->World->Prop) (x:α) (h0:abf x l w)
  (round:∀ x l w,abf x l w->W P c (Zx (fun l' w'=>∃ y,abf y l' w'/\μ y < μ x) Q) l w):W P (.loop c) Q l w:=by
 have key:∀ n x l w,μ x=n->abf x l w->∀ (b:Frame) (k:List Item) (cs:List Frame),
   ∃ e a' w',lift Q e a' w'/\Arrives P (lone (b.at (act l) (.code c::.inLoop c::k)) cs w) b k cs e a' w':=by
  intro n
  induction n using Nat.strongRecOn with
  | _ n ih =>
   intro x l w hn hI b k cs;obtain ⟨e,aaM,Ej,hq,yD⟩:=round x l w hI b (.inLoop c::k) cs;obtain ⟨DU,rfl,hq⟩:=hq
   cases e with
   | normal =>
    obtain ⟨y,XP,ar⟩:=hq;obtain ⟨ZG,ZE,aaG,XZ,Ub⟩:=ih (μ y) (hn ▸ ar) y DU Ej rfl XP b k cs;exact ⟨ZG,ZE,aaG,XZ,.of_steps (Steps.trans yD (.one step_inLoop)) Ub⟩
   | exit id=>exact ⟨_,_,Ej,⟨DU,rfl,hq⟩,.pass (x:=.inLoop c) rfl (fun _ _=>.inl (by simp)) yD⟩
   | goto _=>exact ⟨_,_,Ej,⟨DU,rfl,hq⟩,.pass (x:=.inLoop c) rfl (fun _ _=>.inl (by simp)) yD⟩
   | ret=>exact ⟨_,_,Ej,⟨DU,rfl,hq⟩,.pass (x:=.inLoop c) rfl (fun _ _=>.inl (by simp)) yD⟩
   | panic ch=>exact ⟨_,_,Ej,⟨DU,rfl,hq⟩,.pass (x:=.inLoop c) rfl (fun _ _=>.inl (by simp)) yD⟩
   | outgrown=>exact ⟨_,_,Ej,⟨DU,rfl,hq⟩,.pass (x:=.inLoop c) rfl (fun _ _=>.inl (by simp)) yD⟩
 intro b k cs;obtain ⟨e,a',w',hq,yD⟩:=key _ x l w rfl h0 b k cs;exact ⟨e,a',w',hq,.of_steps (.one step_loop) yD⟩
theorem W.region {id:Nat} {ol:List Oper} (h:WL P ol.toArray Q ol l w):W P (.region id ol.toArray false) Q l w :=
 wp_region_lit h
theorem WL.nil (h:Q .normal l w):WL P ops Q [] l w:=⟨l,rfl,h⟩
theorem WL.val {d:Option Tmp} {op:Op} {ty:TypeId} {pos:String} {af:Array Edge} {v:Value} {w':World}
  (hr:(execOp (ev l) ⟨d,op,ty,pos,af,none⟩).run P w=.ok (.value v) w')
  (h:WL P ops Q rest (put l d v) w'):WL P ops Q (⟨d,op,ty,pos,af,none⟩::rest) l w:=by
 refine wpList_plain rfl fun K hK=>?_
 simp only [Oper.wp,n9,hr,Oper.upon_value,qs];exact hK _ _ h
theorem WL.Zv {d:Option Tmp} {op:Op} {ty:TypeId} {pos:String} {af:Array Edge} {w':World}
  (hr:(execOp (ev l) ⟨d,op,ty,pos,af,none⟩).run P w=.ok .skip w')
  (h:WL P ops Q rest (put l d undef) w'):WL P ops Q (⟨d,op,ty,pos,af,none⟩::rest) l w:=by
 refine wpList_plain rfl fun K hK=>?_
 simp only [Oper.wp,n9,hr,Oper.upon_skip,qs];exact hK _ _ h
theorem WL.gt {d:Option Tmp} {op:Op} {ty:TypeId} {pos:String} {af:Array Edge} {g:Option (Nat × Bool)}
  (hw:Region.wanted ⟨d,op,ty,pos,af,g⟩ (yielded ops (act l).tmps)=true)
  (h:WL P ops Q (⟨d,op,ty,pos,af,none⟩::rest) l w):WL P ops Q (⟨d,op,ty,pos,af,g⟩::rest) l w:=by
 unfold WL wpList at *;rw [ae hw];rw [ae (by rfl)] at h;exact h
theorem WL.gf {d:Option Tmp} {op:Op} {ty:TypeId} {pos:String} {af:Array Edge} {g:Option (Nat × Bool)}
  (hw:Region.wanted ⟨d,op,ty,pos,af,g⟩ (yielded ops (act l).tmps)=false)
  (h:WL P ops Q rest (put l d undef) w):WL P ops Q (⟨d,op,ty,pos,af,g⟩::rest) l w:=by
 unfold WL wpList;rw [ab (by rw [hw];decide)];show wpList P ops (lift Q) rest ((act l).put d undef) w;rw [qs];exact h
end
section
variable {next:List Value->World->Prop} {Q:ml} {l:List Value} {w:World} {id x8:Nat}
end
structure Ext (S:Nat->Prop) (w w':World):Prop where
 os:w'.os=w.os
 tape:w'.tape=w.tape
 output:w'.output=w.output
 size:w.heap.size<=w'.heap.size
 block:∀ k,k < w.heap.size->¬ S k->w'.heap[k]?=w.heap[k]?
abbrev jc:Nat->Prop:=fun _=>False
theorem Ext.refl {S:Nat->Prop} (w:World):Ext S w w:=⟨rfl,rfl,rfl,aH _,fun _ _ _=>rfl⟩
theorem Ext.trans {S:Nat->Prop} {a b c:World} (h:Ext S a b) (k:Ext S b c):Ext S a c :=
 ⟨k.os.trans h.os,k.tape.trans h.tape,k.output.trans h.output,km h.size k.size,
  fun i hi hs=>(k.block i (xS hi h.size) hs).trans (h.block i hi hs)⟩
theorem Ext.step {S0 S:Nat->Prop} {a b c:World} (h:Ext S0 a b) (k:Ext S b c) (hs:∀ j,S j->a.heap.size<=j\/S0 j):Ext S0 a c :=
 ⟨k.os.trans h.os,k.tape.trans h.tape,k.output.trans h.output,km h.size k.size,
  fun i hi hn=>(k.block i (xS hi h.size) fun Wg=>by
   rcases hs i Wg with I | I
   ·omega
   ·exact hn I).trans (h.block i hi hn)⟩
theorem Ext.mono {S S':Nat->Prop} {a b:World} (h:Ext S a b) (hs:∀ k,k < a.heap.size->S k->S' k):Ext S' a b :=
 ⟨h.os,h.tape,h.output,h.size,fun i hi hn=>h.block i hi fun x=>hn (hs i hi x)⟩
theorem Ext.blk {S:Nat->Prop} {a b:World} (h:Ext S a b) {k:Nat} {o:Obj} (hv:a.heap[k]?=some o) (hs:¬ S k):b.heap[k]?=some o:=by
 rw [h.block k (by have:=(Array.getElem?_eq_some_iff.1 hv).1;exact this) hs,hv]
theorem sL {w:World} {k:Nat} {o:Obj} (hv:w.heap[k]?=some o):k < w.heap.size:=(Array.getElem?_eq_some_iff.1 hv).1
theorem MV {w:World} {b o:Nat} {cs:Array Value} {E:TypeId} {fz:Nat × Nat} {v:Value} (hb:w.heap[b]?=some (.cells cs E fz)) (hv:cs[o]?=some v):w.cell? ⟨b,o,none⟩=some v:=by
 rw [cell_of_row w b o cs E fz hb,hv]
theorem Ext.below {a b:World} (h:Ext jc a b):Below a.heap.size a b:=⟨h.os,h.tape,h.output,h.size,fun k hk=>h.block k hk (fun x=>x)⟩
structure vQ (w w':World) (b:Nat) (o:Obj):Prop where
 fresh:b=w.heap.size
 size:w'.heap.size=b+1
 blk:w'.heap[b]?=some o
 ext:Ext jc w w'
theorem vQ.of (w:World) (o:Obj):vQ w (w.alloc o) w.heap.size o :=
 ⟨rfl,by simp,heap_alloc_new w o,⟨rfl,rfl,rfl,by simp,fun k hk _=>Below.heap_alloc _ _ _ hk⟩⟩
def zw:TypeDesc->Bool
 | .struct _=>true
 | .array _ _=>true
 | _=>false
class Ty (P:Program) (t:TypeId) (agg:outParam Bool) (k:outParam Nat):Prop where
 und:(P.underlying t).map zw=some agg
 siz:(P.info? t).map (·.size)=some k
class nT (P:Program) (t:TypeId) (e:outParam TypeId) (k:outParam Nat):Prop where
 und:P.underlying t=some (.slice e)
 siz:(P.info? e).map (·.size)=some k
class qJ (P:Program) (t:TypeId):Prop where
 und:P.underlying t=some .string
def Lt (P:Program) (s:TypeId) (i:Nat) (off:Nat) (k:Nat) (agg:Bool):Bool :=
 match P.underlying s with
 | some (.struct fs)=>match fs[i]? with
  | some f=>f.offset==off&&(match P.info? f.type with | some x=>x.size==k | none=>false)&&k != 0&&((P.underlying f.type).map zw==some agg)
  | none=>false
 | _=>false
class dz (P:Program) (s:TypeId) (i:Nat) (off:outParam Nat) (k:outParam Nat) (agg:outParam Bool):Prop where
 is:Lt P s i off k agg=true
section
variable {P:Program} {w:World}
theorem FA {t:TypeId} {agg:Bool} {k:Nat} [h:Ty P t agg k]:(isAgg t).run P w=.ok agg w:=by
 obtain ⟨hu,_⟩:=h
 cases hd:P.underlying t with
 | none=>simp [hd] at hu
 | some d =>
  rw [hd] at hu;unfold isAgg;rw [Sem.run_bind,run_underlying hd w]
  cases d <;> simp_all [zw]
theorem jB {t:TypeId} {k:Nat} (h:(P.info? t).map (·.size)=some k):(sizeOf t).run P w=.ok k w:=by
 cases hq:P.info? t with
 | none=>simp [hq] at h
 | some i=>simp [hq] at h;simp [sizeOf,typeInfo,hq,h]
theorem qK (b o n:Nat):(⟨b,o,none⟩:Addr).add n=⟨b,o+n,none⟩:=by
 unfold Addr.add;split
 ·rename_i h;subst h;rfl
 ·rfl
theorem H2 {t:TypeId} [h:Ty P t false 1] {a:Addr} {v:Value} (hv:w.cell? a=some v):(loadVar t a).run P w=.ok v w:=by
 unfold loadVar;rw [Sem.run_bind,FA (agg:=false) (k:=1)];simp [hv]
theorem ri {t:TypeId} {k:Nat} [h:Ty P t true k] {b o:Nat} {vs:List Value} (hl:vs.length=k) (hv:∀ j v,vs[j]?=some v->w.cell? ⟨b,o+j,none⟩=some v) :
  (loadVar t ⟨b,o,none⟩).run P w=.ok (.agg vs.toArray) w:=by
 unfold loadVar;rw [Sem.run_bind,FA (agg:=true) (k:=k)]
 have hc:(loadCells ⟨b,o,none⟩ k).run P w=.ok vs.toArray w:=by
  rw [<-hl]
  exact run_loadCells_list w _ vs fun j v hj=>by rw [qK];exact hv j v hj
 simp [jB h.siz,hc]
end
def eU (P:Program) (l:List Value) (w:World) (op:Op) (v:Value):Prop :=
 ∀ (d:Option Tmp) (ty:TypeId) (pos:String) (af:Array Edge),(execOp (ev l) ⟨d,op,ty,pos,af,none⟩).run P w=.ok (.value v) w
theorem WL.v {P:Program} {Q:ml} {l:List Value} {w:World} {ops:Array Oper} {rest:List Oper} {d:Option Tmp} {op:Op} {ty:TypeId} {pos:String} {af:Array Edge} {v:Value}
  (hr:eU P l w op v) (h:WL P ops Q rest (put l d v) w):WL P ops Q (⟨d,op,ty,pos,af,none⟩::rest) l w:=WL.val (hr d ty pos af) h
section
variable {P:Program} {l:List Value} {w:World}
theorem R.mv {x:Operand}:eU P l w (.move x) ((ev l x)):=fun d ty pos af=>by simp [execOp]
theorem R.xT {x:Operand}:eU P l w (.assign x) ((ev l x)):=fun d ty pos af=>by simp [execOp]
theorem R.pick {c a b:Operand} {t:Bool} (hc:ev l c=.bool t):eU P l w (.pick c a b) ((if t then ev l a else ev l b)):=fun d ty pos af=>by simp [execOp,hc,asBool]
theorem R.L8 {x:Operand} {a:Addr} (hx:ev l x=.pointer (some a)):eU P l w (.nilCheck x) ((.pointer (some a))):=fun d ty pos af=>by simp [execOp,hx]
theorem R.extract {x:Operand} {i:Nat} {vs:Array Value} {v:Value} (hx:ev l x=.tuple vs) (hv:vs[i]?=some v):eU P l w (.extract x i) (v):=fun d ty pos af=>by simp [execOp,hx,Instr.extract,hv]
theorem R.DV {fn:Fn} {first cap:Array Operand}:eU P l w (.makeFunc fn first cap) ((.func fn (first.map (ev l)) (cap.map (ev l)))):=fun d ty pos af=>by simp [execOp,Instr.makeFunc]
abbrev ah:=List UInt8
def sv (s:ah):Value:=.string ⟨s.toArray⟩
theorem toList_mk (s:ah):(⟨s.toArray⟩:ByteArray).toList=s:=by
 simp [ByteArray.toList_eq]
theorem wM (s:ah):(⟨s.toArray⟩:ByteArray).size=s.length:=by
 simp [ByteArray.size]
theorem F1 (b:ByteArray):Value.string b=sv b.data.toList:=by
 simp [sv]
theorem MU (a b:ah):(⟨a.toArray⟩:ByteArray)++⟨b.toArray⟩=⟨(a++b).toArray⟩:=by
 apply ByteArray.ext;simp
theorem extract_mk (s:ah) (i j:Nat):(⟨s.toArray⟩:ByteArray).extract i j=⟨((s.take j).drop i).toArray⟩:=by
 apply ByteArray.ext;simp [ByteArray.data_extract,List.take_drop]
 by_cases h:i<=j
 ·rw [Nat.add_sub_cancel' h]
 ·rw [List.drop_eq_nil_of_le (by simp;omega),List.drop_eq_nil_of_le (by simp;omega)]
theorem aaL (x c:UInt8):((x.toNat:Int)==(c.toNat:Int))=(x==c):=by
 rw [Bool.eq_iff_iff];simp only [beq_iff_eq];constructor
 ·intro h;exact UInt8.toNat_inj.1 (by omega)
 ·rintro rfl;rfl
abbrev ii (n:Int):Value:=.int .i64 n
theorem Eg {n:Int} (I : -9223372036854775808<=n) (F:n<=9223372036854775807):IntKind.i64.wrap n=n:=IntWalk.i64_in _ ⟨I,F⟩
theorem R.QZ {x:Operand} {t:TypeId} [hT:qJ P t] {s:ah} (hx:ev l x=sv s):eU P l w (.call ⟨.builtin .len,#[x],#[t]⟩) ((ii s.length)):=fun d ty pos af=>by simp [execOp,resolve,invoke,builtin,hx,sv,Builtin.len_,goInt,run_underlying hT.und,wM]
theorem R.L3 {x:Operand} {t e:TypeId} {k:Nat} [hT:nT P t e k] {a:Option Addr} {n c:Nat} (hx:ev l x=.slice a n c):eU P l w (.call ⟨.builtin .len,#[x],#[t]⟩) ((ii n)):=fun d ty pos af=>by simp [execOp,resolve,invoke,builtin,hx,Builtin.len_,goInt,run_underlying hT.und]
theorem R.add {x y:Operand} {t t':TypeId} {a b:Int} (hx:ev l x=ii a) (hy:ev l y=ii b) (I : -9223372036854775808<=a+b) (F:a+b<=9223372036854775807):eU P l w (.binOp .add t x y t') ((ii (a+b))):=fun d ty pos af=>by simp [execOp,eqGuard,hx,hy,binOp,Op.intArith,Eg I F]
theorem R.sub {x y:Operand} {t t':TypeId} {a b:Int} (hx:ev l x=ii a) (hy:ev l y=ii b) (I : -9223372036854775808<=a - b) (F:a - b<=9223372036854775807):eU P l w (.binOp .sub t x y t') ((ii (a - b))):=fun d ty pos af=>by simp [execOp,eqGuard,hx,hy,binOp,Op.intArith,Eg I F]
theorem R.mul {x y:Operand} {t t':TypeId} {a b:Int} (hx:ev l x=ii a) (hy:ev l y=ii b) (I : -9223372036854775808<=a * b) (F:a * b<=9223372036854775807):eU P l w (.binOp .mul t x y t') ((ii (a * b))):=fun d ty pos af=>by simp [execOp,eqGuard,hx,hy,binOp,Op.intArith,Eg I F]
theorem R.cat {x y:Operand} {t t':TypeId} {a b:ah} (hx:ev l x=sv a) (hy:ev l y=sv b) (I:a.length+b.length<=9223372036854775807):eU P l w (.binOp .add t x y t') ((sv (a++b))):=fun d ty pos af=>by
  have F:¬ ((((⟨a.toArray⟩:ByteArray).size+(⟨b.toArray⟩:ByteArray).size:Nat):Int) > IntKind.i64.max):=by
   rw [wM,wM];simp [IntKind.max,IntKind.signed,IntKind.bits];omega
  simp only [execOp,eqGuard,hx,hy,binOp,sv,Op.stringOp,ab F,MU];simp
theorem R.eq {x y:Operand} {t t':TypeId} {k:IntKind} {a b:Int} (hx:ev l x=.int k a) (hy:ev l y=.int k b):eU P l w (.binOp .eql t x y t') ((.bool (a==b))):=fun d ty pos af=>by simp [execOp,eqGuard,hx,hy,binOp,Op.intCmp]
theorem R.ne {x y:Operand} {t t':TypeId} {k:IntKind} {a b:Int} (hx:ev l x=.int k a) (hy:ev l y=.int k b):eU P l w (.binOp .neq t x y t') ((.bool (a != b))):=fun d ty pos af=>by simp [execOp,eqGuard,hx,hy,binOp,Op.intCmp]
theorem R.lt {x y:Operand} {t t':TypeId} {k:IntKind} {a b:Int} (hx:ev l x=.int k a) (hy:ev l y=.int k b):eU P l w (.binOp .lss t x y t') ((.bool (decide (a < b)))):=fun d ty pos af=>by simp [execOp,eqGuard,hx,hy,binOp,Op.intCmp]
theorem R.le {x y:Operand} {t t':TypeId} {k:IntKind} {a b:Int} (hx:ev l x=.int k a) (hy:ev l y=.int k b):eU P l w (.binOp .leq t x y t') ((.bool (decide (a<=b)))):=fun d ty pos af=>by simp [execOp,eqGuard,hx,hy,binOp,Op.intCmp]
theorem R.gt' {x y:Operand} {t t':TypeId} {k:IntKind} {a b:Int} (hx:ev l x=.int k a) (hy:ev l y=.int k b):eU P l w (.binOp .gtr t x y t') ((.bool (decide (b < a)))):=fun d ty pos af=>by simp [execOp,eqGuard,hx,hy,binOp,Op.intCmp]
theorem R.ge {x y:Operand} {t t':TypeId} {k:IntKind} {a b:Int} (hx:ev l x=.int k a) (hy:ev l y=.int k b):eU P l w (.binOp .geq t x y t') ((.bool (decide (b<=a)))):=fun d ty pos af=>by simp [execOp,eqGuard,hx,hy,binOp,Op.intCmp]
theorem R.Gs {x y:Operand} {t t':TypeId} {a b:ah} (hx:ev l x=sv a) (hy:ev l y=sv b):eU P l w (.binOp .eql t x y t') ((.bool (a==b))):=fun d ty pos af=>by simp only [execOp,eqGuard,hx,hy,binOp,sv,Op.stringOp,toList_mk];simp
theorem R.HL {x y:Operand} {t t':TypeId} {a b:ah} (hx:ev l x=sv a) (hy:ev l y=sv b):eU P l w (.binOp .neq t x y t') ((.bool (!(a==b)))):=fun d ty pos af=>by simp only [execOp,eqGuard,hx,hy,binOp,sv,Op.stringOp,toList_mk];simp
theorem R.not {x:Operand} {t:TypeId} {b:Bool} (hx:ev l x=.bool b):eU P l w (.unOp .not t x) ((.bool (!b))):=fun d ty pos af=>by simp [execOp,hx,Op.unary]
theorem R.uH {x y:Operand} {t:TypeId} [hT:qJ P t] {s:ah} {k:IntKind} {i:Nat} {c:UInt8} (hx:ev l x=sv s) (hy:ev l y=.int k i) (hc:s[i]?=some c):eU P l w (.index t x y) ((.int .u8 c.toNat)):=fun d ty pos af=>by
  have hg:(⟨s.toArray⟩:ByteArray)[i]?=some c:=by
   obtain ⟨hi,hv⟩:=bh hc
   have pG:i < (⟨s.toArray⟩:ByteArray).size:=by rw [wM];exact hi
   rw [getElem?_pos (⟨s.toArray⟩:ByteArray) i pG];simp only [ByteArray.getElem_eq_getElem_data];simpa using hv
  simp [execOp,Instr.index,hx,hy,asIntOf,run_underlying hT.und,sv,hg]
theorem R.RB {x:Operand} {t:TypeId} [hT:qJ P t] {s:ah} {lo hi:Option Operand} {i j:Nat} (hx:ev l x=sv s)
  (jg:match lo with | some y=>∃ k,ev l y=.int k i | none=>i=0) (CG:match hi with | some y=>∃ k,ev l y=.int k j | none=>j=s.length)
  (I:i<=j) (F:j<=s.length):eU P l w (.slice t x lo hi none) ((sv ((s.take j).drop i))):=fun d ty pos af=>by
  have cB:=wM s
  cases lo <;> cases hi <;> simp only at jg CG
  ·subst jg;subst CG;simp [execOp,Instr.sliceAt,Instr.slice,Instr.sliceBounds,hx,sv,run_underlying hT.und,cB,extract_mk]
  ·obtain ⟨k,hk⟩:=CG;subst jg;simp [execOp,Instr.sliceAt,Instr.slice,Instr.sliceBounds,Instr.sliceBound,asIntOf,hx,hk,sv,run_underlying hT.und,cB,extract_mk,F]
  ·obtain ⟨k,hk⟩:=jg;subst CG;simp [execOp,Instr.sliceAt,Instr.slice,Instr.sliceBounds,Instr.sliceBound,asIntOf,hx,hk,sv,run_underlying hT.und,cB,extract_mk,I]
  ·obtain ⟨k,hk⟩:=jg;obtain ⟨k',mq⟩:=CG;simp [execOp,Instr.sliceAt,Instr.slice,Instr.sliceBounds,Instr.sliceBound,asIntOf,hx,hk,mq,sv,run_underlying hT.und,cB,extract_mk,I,F]
theorem R.yT {x y:Operand} {t e:TypeId} {k:Nat} [hT:nT P t e k] {b o n c:Nat} {kk:IntKind} {i:Nat} (hx:ev l x=.slice (some ⟨b,o,none⟩) n c) (hy:ev l y=.int kk i) (hi:i < n):eU P l w (.indexAddr t x y) ((.pointer (some ⟨b,o+i * k,none⟩))):=fun d ty pos af=>by
  simp [execOp,Instr.indexAt,hx,hy,asIntOf,run_underlying hT.und,hi,jB hT.siz,qK]
theorem R.Qn {x:Operand} {s:TypeId} {i off k:Nat} {agg:Bool} [hT:dz P s i off k agg] {b o:Nat} (hx:ev l x=.pointer (some ⟨b,o,none⟩)):eU P l w (.fieldAddr s x i) ((.pointer (some ⟨b,o+off,none⟩))):=fun d ty pos af=>by
  obtain ⟨hT⟩:=hT;unfold Lt at hT;split at hT
  ·rename_i fs hu;split at hT
   ·rename_i f hf;simp only [aE,beq_iff_eq,bne_iff_ne,ne_eq] at hT;obtain ⟨⟨⟨I,F⟩,h3⟩,h4⟩:=hT;split at F
    ·rename_i x hq
     have hs:(P.info? f.type).map (·.size)=some k:=by rw [hq];simpa using F
     simp [execOp,Instr.fieldAt,hx,run_underlying hu,hf,Instr.sureAddr,fieldPlace,jB hs,h3,qK,I]
    ·cases F
   ·cases hT
  ·cases hT
theorem R.ld1 {x:Operand} {t:TypeId} [hT:Ty P t false 1] {a:Addr} {v:Value} (hx:ev l x=.pointer (some a)) (hv:w.cell? a=some v):eU P l w (.load t x) (v):=fun d ty pos af=>by simp [execOp,Instr.loadAt,hx,Instr.sureAddr,H2 hv]
theorem R.ldN {x:Operand} {t:TypeId} {k:Nat} [hT:Ty P t true k] {b o:Nat} {vs:List Value} (hx:ev l x=.pointer (some ⟨b,o,none⟩)) (hl:vs.length=k)
  (hv:∀ j v,vs[j]?=some v->w.cell? ⟨b,o+j,none⟩=some v):eU P l w (.load t x) ((.agg vs.toArray)):=fun d ty pos af=>by simp [execOp,Instr.loadAt,hx,Instr.sureAddr,ri hl hv]
end
def gN (H:Array Obj) (b o:Nat):Option Value :=
 match H[b]? with
 | some (.cells c _ _)=>c[o]?
 | _=>none
theorem fP (w:World) (b o:Nat):w.cell? ⟨b,o,none⟩=gN w.heap b o:=by
 unfold World.cell? gN
 cases w.heap[b]? with
 | none=>rfl
 | some x=>cases x <;> rfl
theorem Gh {H:Array Obj} {b o:Nat} {v:Value} (h:gN H b o=some v):b < H.size:=by
 unfold gN at h
 cases hb:H[b]? with
 | none=>rw [hb] at h;cases h
 | some x=>exact (Array.getElem?_eq_some_iff.1 hb).1
theorem Ext.c {S:Nat->Prop} {w w':World} (hx:Ext S w w') {b o:Nat} {v:Value} (h:gN w.heap b o=some v) (hs:¬ S b):gN w'.heap b o=some v:=by
 unfold gN at *;rw [hx.block b (Gh (H:=w.heap) (by unfold gN;exact h)) hs];exact h
theorem w9 {H:Array Obj} {b o:Nat} {cs:Array Value} {E:TypeId} {fz:Nat × Nat} {v:Value} (hb:H[b]?=some (.cells cs E fz)) (hv:cs[o]?=some v):gN H b o=some v:=by
 unfold gN;rw [hb];exact hv
theorem Ext.drew {S:Nat->Prop} (w:World):Ext S w w.drew:=⟨rfl,rfl,rfl,aH _,fun _ _ _=>rfl⟩
theorem R.ld {P:Program} {l:List Value} {w:World} {x:Operand} {t:TypeId} [hT:Ty P t false 1] {b o:Nat} {v:Value} (hx:ev l x=.pointer (some ⟨b,o,none⟩)) (hv:gN w.heap b o=some v):eU P l w (.load t x) v:=R.ld1 hx (by rw [fP];exact hv)
theorem R.Zs {P:Program} {l:List Value} {w:World} {x:Operand} {t:TypeId} {k:Nat} [hT:Ty P t true k] {b o:Nat} {vs:List Value} (hx:ev l x=.pointer (some ⟨b,o,none⟩)) (hl:vs.length=k)
  (hv:∀ j v,vs[j]?=some v->gN w.heap b (o+j)=some v):eU P l w (.load t x) (.agg vs.toArray):=R.ldN hx hl (fun j v h=>by rw [fP];exact hv j v h)
section
variable {H:Array Obj} {b o:Nat} {v0 v1 v2 v3 v4 v5:Value}
end
class rv (P:Program) (t:TypeId) (z:outParam Value):Prop where
 is:(P.info? t).bind (·.zero)=some z
structure vc (w w':World) (b:Nat) (cs:Array Value) (E:TypeId):Prop where
 blk:w'.heap[b]?=some (.cells cs E (0,0))
 ext:Ext (·=b) w w'
 size:w'.heap.size=w.heap.size
def xL (cs:Array Value) (o:Nat):List Value->Array Value
 | []=>cs
 | v::r=>xL (cs.setIfInBounds o v) (o+1) r
def nc (vs:List Value):Bool:=vs.all (·.oneCell')
section
variable {P:Program} {w:World}
theorem B1 {t:TypeId} {z:Value} [h:rv P t z]:(zeroValue t).run P w=.ok z w:=by
 obtain ⟨h⟩:=h
 cases hq:P.info? t with
 | none=>simp [hq] at h
 | some i=>simp [hq] at h;simp [zeroValue,typeInfo,hq,h]
theorem vc.refl {b:Nat} {cs:Array Value} {E:TypeId} (hb:w.heap[b]?=some (.cells cs E (0,0))):vc w w b cs E:=⟨hb,Ext.refl _,rfl⟩
theorem vc.trans {w1 w2:World} {b:Nat} {cs Ap:Array Value} {E:TypeId} (h:vc w w1 b cs E) (k:vc w1 w2 b Ap E):vc w w2 b Ap E :=
 ⟨k.blk,h.ext.trans k.ext,k.size.trans h.size⟩
theorem vc.setCell {b o:Nat} {cs:Array Value} {E:TypeId} (hb:w.heap[b]?=some (.cells cs E (0,0))) (v:Value) :
  vc w (w.setCell ⟨b,o,none⟩ v) b (cs.setIfInBounds o v) E :=
 ⟨heap_setCell_same w b o cs E v hb,⟨rfl,rfl,rfl,by simp,fun k _ hs=>heap_setCell_other w _ k v hs⟩,by simp⟩
theorem wL {b o:Nat} {E:TypeId}:∀ (vs:List Value) (i:Nat) (w:World) (cs:Array Value),w.heap[b]?=some (.cells cs E (0,0))->o+i+vs.length<=cs.size->nc vs=true ->
  ∃ w',(storeCells ⟨b,o,none⟩ vs i).run P w=.ok () w'/\vc w w' b (xL cs (o+i) vs) E
 | [],i,w,cs,hb,_,_=>⟨w,by simp [storeCells],vc.refl hb⟩
 | v::r,i,w,cs,hb,hl,I=>by
  simp only [nc,all_cons,aE] at I;simp only [length_cons] at hl;have hs:=vc.setCell (w:=w) (o:=o+i) hb v;obtain ⟨w',hr,bI⟩:=wL (b:=b) (o:=o) (E:=E) r (i+1) _ _ hs.blk (by simp;omega) I.2;refine ⟨w',?_,hs.trans (by simpa [xL,gW] using bI)⟩;have hc:w.cell? ⟨b,o+i,none⟩=cs[o+i]?:=cell_of_row w b (o+i) cs E (0,0) hb;have dK:∃ u,w.cell? ⟨b,o+i,none⟩=some u:=⟨cs[o+i]'(by omega),by rw [hc];simp⟩;obtain ⟨u,hu⟩:=dK;have hf:w.frozen? ⟨b,o+i,none⟩=false:=frozen_of_row w b _ cs E hb
  have aan:(store ((⟨b,o,none⟩:Addr).add i) v).run P w=.ok () (w.setCell ⟨b,o+i,none⟩ v):=by
   rw [qK]
   cases v <;> first | (simp [Value.oneCell'] at I;done) | simp [store,Sem.run,hu,hf]
  simp only [storeCells,Sem.run_bind,aan,Result.andThen_ok,hr]
theorem H3 {t:TypeId} {agg:Bool} {k:Nat} [hT:Ty P t agg k] {b o:Nat} {E:TypeId} {cs:Array Value} {v:Value} (hb:w.heap[b]?=some (.cells cs E (0,0)))
  (hl:v.cells.size=k) (ho:o+k<=cs.size) (I:nc v.cells.toList=true) :
  ∃ w',(storeVar t ⟨b,o,none⟩ v).run P w=.ok () w'/\vc w w' b (xL cs o v.cells.toList) E:=by
 obtain ⟨w',hr,hs⟩:=wL (P:=P) (o:=o) v.cells.toList 0 w cs hb (by simp;omega) I;refine ⟨w',?_,by simpa using hs⟩;simp [storeVar,jB hT.siz,hl,hr]
end
def jG:List Value->Nat->List Value->List Value
 | cs,_,[]=>cs
 | cs,o,v::r=>jG (fS cs o v) (o+1) r
def qP (pl:Nat->Option (Nat × Nat)):List Value->List (Nat × Value)->Option (List Value)
 | cs,[]=>some cs
 | cs,(i,v)::r=>match pl i with
  | none=>none
  | some (o,k)=>if v.cells.size≠k || decide (o+v.cells.size > cs.length) then none else qP pl (jG cs o v.cells.toList) r
theorem B4:∀ (vs:List Value) (cs:List Value) (o:Nat),(jG cs o vs).length=cs.length
 | [],_,_=>rfl
 | v::r,cs,o=>by
  rw [jG,B4 r];have:=congrArg Array.size (zn cs o v);simpa using this.symm
theorem Cv:∀ (vs:List Value) (cs:List Value) (o n:Nat),
  (vs.zipIdx n).foldl (fun (cs:Array Value) (x:Value × Nat)=>cs.setIfInBounds (o+x.2) x.1) cs.toArray=(jG cs (o+n) vs).toArray
 | [],cs,o,n=>by simp [jG]
 | v::r,cs,o,n=>by
  simp only [List.zipIdx_cons,List.foldl_cons,zn,jG];rw [Cv r];rfl
theorem yv (pl:Nat->Option (Nat × Nat)):∀ (parts:List (Nat × Value)) (cs:List Value),
  Instr.fill pl cs.toArray parts=(qP pl cs parts).map List.toArray
 | [],cs=>by simp [Instr.fill,qP]
 | (i,v)::r,cs=>by
  simp only [Instr.fill,qP]
  cases hp:pl i with
  | none=>rfl
  | some x =>
   obtain ⟨o,k⟩:=x;simp only [size_toArray];split
   ·rfl
   ·have h:(v.cells.zipIdx.foldl (fun (cs:Array Value) (x:Value × Nat)=>cs.setIfInBounds (o+x.2) x.1) cs.toArray)=(jG cs o v.cells.toList).toArray:=by
     have:=Cv v.cells.toList cs o 0;rw [<-Array.foldl_toList,Array.toList_zipIdx];exact this
    have F:=yv pl r (jG cs o v.cells.toList);rw [<-F,<-h]
def Tg (P:Program) (t:TypeId) (pl:List (Nat × Nat)):Bool :=
 match P.underlying t with
 | some (.struct fs)=>(fs.toList.map fun f=>(f.offset,(P.info? f.type).map (·.size)))==pl.map fun x=>(x.1,some x.2)
 | _=>false
class ua (P:Program) (t:TypeId) (pl:outParam (List (Nat × Nat))) (z:outParam (List Value)):Prop where
 is:Tg P t pl=true
 zero:(P.info? t).bind (·.zero)=some (.agg z.toArray)
section
variable {P:Program} {w:World}
theorem Da {fs:List Field}:∀ {pl:List (Nat × Nat)},(fs.map fun f=>(f.offset,(P.info? f.type).map (·.size)))=(pl.map fun x=>(x.1,some x.2)) ->
  (List.mapM (m:=Sem) (fun (f:Field)=>Functor.map (Prod.mk f.offset) (sizeOf f.type)) fs).run P w=.ok pl w:=by
 induction fs with
 | nil=>intro pl h;cases pl with | nil=>simp | cons=>simp at h
 | cons f fs ih =>
  intro pl h
  cases pl with
  | nil=>simp at h
  | cons x pl =>
   simp only [List.map_cons,List.cons.injEq,Prod.mk.injEq] at h;obtain ⟨⟨I,F⟩,h3⟩:=h;have:=ih h3;have h5:=jB (w:=w) F;simp [List.mapM_cons,Sem.run_bind,h5,this,I]
theorem run_build {t:TypeId} {pl:List (Nat × Nat)} {z:List Value} [hT:ua P t pl z] {parts:List (Nat × Value)} {cs:List Value} (hf:qP (fun i=>pl[i]?) z parts=some cs) :
  (Instr.build t parts.toArray).run P w=.ok (.agg cs.toArray) w:=by
 obtain ⟨hi,hz⟩:=hT
 have hzz:(zeroValue t).run P w=.ok (.agg z.toArray) w:=by
  haveI:rv P t (.agg z.toArray):=⟨hz⟩
  exact B1
 unfold Tg at hi;split at hi
 ·rename_i fs hu;have hm:=Da (P:=P) (w:=w) (eq_of_beq hi)
  have lG:(Array.mapM (m:=Sem) (fun (f:Field)=>Functor.map (Prod.mk f.offset) (sizeOf f.type)) fs).run P w=.ok pl.toArray w:=by
   rw [Array.mapM_eq_mapM_toList];simp [hm]
  have lE:=yv (fun i=>pl[i]?) parts z;rw [hf] at lE;simp [Instr.build,Sem.run_bind,hzz,run_underlying hu,lG,Value.cells];simp [lE]
 ·cases hi
end
section
variable {P:Program} {Q:ml} {l:List Value} {w:World} {ops:Array Oper} {rest:List Oper} {d:Option Tmp} {ty:TypeId} {pos:String} {af:Array Edge}
theorem Db (t:TypeId) (v:Value):(newVar t v).run P w=.ok ⟨w.heap.size,0,none⟩ (w.alloc (.cells v.cells t)):=by
 rfl
theorem WL.alloc {t:TypeId} {z:Value} [hT:rv P t z] (h:∀ b w',vQ w w' b (.cells z.cells t)->WL P ops Q rest (put l d (.pointer (some ⟨b,0,none⟩))) w') :
  WL P ops Q (⟨d,.alloc t,ty,pos,af,none⟩::rest) l w :=
 WL.val (w':=w.alloc (.cells z.cells t)) (by simp [execOp,Instr.alloc,B1 (w:=w) (z:=z),Db]) (h _ _ (vQ.of w _))
theorem WL.box {t:TypeId} {x:Operand} {v:Value} (hx:ev l x=v) (h:∀ b w',vQ w w' b (.cells v.cells t)->WL P ops Q rest (put l d (.pointer (some ⟨b,0,none⟩))) w') :
  WL P ops Q (⟨d,.box t x,ty,pos,af,none⟩::rest) l w :=
 WL.val (w':=w.alloc (.cells v.cells t)) (by simp [execOp,Instr.box,Db,hx]) (h _ _ (vQ.of w _))
theorem R.build {t:TypeId} {pl:List (Nat × Nat)} {z:List Value} [hT:ua P t pl z] {parts:List (Nat × Operand)} {cs:List Value}
  (hf:qP (fun i=>pl[i]?) z (parts.map fun x=>(x.1,ev l x.2))=some cs):eU P l w (.build t parts.toArray) (.agg cs.toArray):=fun d ty pos af=>by
  have hr:=run_build (P:=P) (w:=w) (t:=t) hf;simp only [execOp,map_toArray];simp [hr]
class qI (P:Program) (t:TypeId) (e:outParam TypeId) (k:outParam Nat) (z:outParam (List Value)):Prop where
 und:P.underlying t=some (.slice e)
 siz:(P.info? e).map (·.size)=some k
 zero:(P.info? e).bind (·.zero)=some (if k=1 then z.headD undef else .agg z.toArray)
 zl:z.length=k
 pos:0 < k
 one:k=1->(z.headD undef).cells=#[z.headD undef]
theorem qI.cells {t e:TypeId} {k:Nat} {z:List Value} (h:qI P t e k z):(if k=1 then z.headD undef else .agg z.toArray).cells=z.toArray:=by
 split
 ·rename_i hk;rw [h.one hk];have:=h.zl;rw [hk] at this
  match z,this with
  | [a],_=>rfl
 ·rfl
theorem WL.DW {t e:TypeId} {k:Nat} {z:List Value} [hT:qI P t e k z] {n:Nat} {parts:List (Nat × Operand)} {cs:List Value} (hn:n * k<=16777216)
  (hf:qP (fun i=>some (i * k,k)) ((List.range (n * k)).map fun j=>z.getD (j % k) undef) (parts.map fun x=>(x.1,ev l x.2))=some cs)
  (h:∀ b w',vQ w w' b (.cells cs.toArray e)->WL P ops Q rest (put l d (.slice (some ⟨b,0,none⟩) n n)) w') :
  WL P ops Q (⟨d,.buildSlice t n parts.toArray,ty,pos,af,none⟩::rest) l w :=
 WL.val (w':=w.alloc (.cells cs.toArray e)) (by
  have hz:(zeroValue e).run P w=.ok (if k=1 then z.headD undef else .agg z.toArray) w:=by
   haveI:rv P e (if k=1 then z.headD undef else .agg z.toArray):=⟨hT.zero⟩
   exact B1
  have hc:=hT.cells;generalize (if k=1 then z.headD undef else .agg z.toArray:Value)=zv at hz hc;have lE:=yv (fun i=>some (i * k,k)) (parts.map fun x=>(x.1,ev l x.2)) ((List.range (n * k)).map fun j=>z.getD (j % k) undef);rw [hf] at lE
  have CH:¬ (16777216 < n * k):=by omega
  by_cases h0:n * k=0
  ·have h00:n=0:=by
    rcases Nat.mul_eq_zero.1 h0 with h | h
    ·exact h
    ·have:=hT.pos;omega
   subst h00;simp only [Nat.zero_mul,List.range_zero,map_nil] at lE;simp only [execOp,map_toArray];have sG:(Array.range 0)=#[]:=rfl;simp [Instr.buildSlice,run_underlying hT.und,jB hT.siz,sG,lE];rfl
  ·have he:(Array.range (n * k)).map (fun j=>z.toArray[j % z.toArray.size]!)=((List.range (n * k)).map fun j=>z.getD (j % k) undef).toArray:=by
    apply Array.ext';simp only [Array.toList_map,Array.toList_range];apply List.map_congr_left;intro j _;have hk:=hT.pos
    have ar:j % k < z.length:=by rw [hT.zl];exact Nat.mod_lt _ hk
    rw [List.getD_eq_getElem?_getD,eF ar];simp [hT.zl];rw [eF ar];rfl
   rw [<-he] at lE;simp only [execOp,map_toArray];simp [Instr.buildSlice,run_underlying hT.und,jB hT.siz,CH,h0,hz,hc];simp only [size_toArray] at lE;simp at lE;simp [lE]
   rfl) (h _ _ (vQ.of w _))
theorem WL.st {x y:Operand} {t:TypeId} {agg:Bool} {k:Nat} [hT:Ty P t agg k] {b o:Nat} {E:TypeId} {cs:Array Value} {v:Value} (hx:ev l x=.pointer (some ⟨b,o,none⟩)) (hy:ev l y=v)
  (hb:w.heap[b]?=some (.cells cs E (0,0))) (hl:v.cells.size=k) (ho:o+k<=cs.size) (I:nc v.cells.toList=true)
  (h:∀ w',vc w w' b (xL cs o v.cells.toList) E->WL P ops Q rest (put l d undef) w'):WL P ops Q (⟨d,.store t x y,ty,pos,af,none⟩::rest) l w:=by
 obtain ⟨w',hr,hs⟩:=H3 (P:=P) (t:=t) hb hl ho I;exact WL.Zv (w':=w') (by simp [execOp,Instr.storeAt,hx,hy,Instr.sureAddr,hr]) (h w' hs)
end
def Gq (P:Program) (f:FuncId):Bool :=
 match P.funcs[f]? with
 | some fn=>fn.name != "runtime.NumGoroutine" && fn.body.isSome
 | none=>false
class aI (P:Program) (f:FuncId):Prop where
 ok:Gq P f=true
def nm (P:Program) (f:FuncId) (args:List Value) (w:World) (R:Value->World->Prop):Prop :=
 Calls P f args.toArray w fun e w'=>∃ v,e=.returned v/\R v w'
theorem nm.mono {P:Program} {f:FuncId} {args:List Value} {w:World} {R R':Value->World->Prop} (h:nm P f args w R) (hr:∀ v w',R v w'->R' v w'):nm P f args w R' :=
 Calls.mono h fun _ _ ⟨v,he,r⟩=>⟨v,he,hr _ _ r⟩
theorem oE {P:Program} {w:World} {f:FuncId} [h:aI P f] (args:Array Value):(callFunc f args).run P w=.ok (.enter f args) w:=by
 obtain ⟨h⟩:=h;unfold Gq at h;split at h
 ·rename_i fn hf;simp only [aE,bne_iff_ne,ne_eq] at h
  have F:fn.body.isNone=false:=by cases hb:fn.body <;> simp_all
  simp [callFunc,program,Sem.run,hf,h.1,F];intro hn;simp [hn] at F
 ·cases h
section
variable {P:Program} {Q:ml} {l:List Value} {w:World} {ops:Array Oper} {rest:List Oper} {d:Option Tmp} {ty:TypeId} {pos:String} {af:Array Edge}
theorem WL.calls {op:Op} {f:FuncId} {Dv:List Value} (hr:(execOp (ev l) ⟨d,op,ty,pos,af,none⟩).run P w=.ok (.enter f Dv.toArray) w) {R:Value->World->Prop}
  (hc:nm P f Dv w R) (h:∀ v w',R v w'->WL P ops Q rest (put l d v) w'):WL P ops Q (⟨d,op,ty,pos,af,none⟩::rest) l w:=by
 refine wpList_plain rfl fun K hK=>?_
 simp only [Oper.wp,n9,hr,Oper.upon_enter];refine Calls.mono hc ?_;rintro e w' ⟨v,rfl,hv⟩;simp only [qs];exact hK _ _ (h v w' hv)
theorem WL.call {f:FuncId} [hf:aI P f] {args:List Operand} {qF:Array TypeId} {Dv:List Value} (ha:args.map (ev l)=Dv) {R:Value->World->Prop}
  (hc:nm P f Dv w R) (h:∀ v w',R v w'->WL P ops Q rest (put l d v) w'):WL P ops Q (⟨d,.call ⟨.value (.func f),args.toArray,qF⟩,ty,pos,af,none⟩::rest) l w :=
 WL.calls (by simp [execOp,resolve,ev,Deferred.ofValue,invoke,oE,ha]) hc h
end
def HV:Nat->List Value
 | 0=>[]
 | n+1=>undef::HV n
def frame:List Value->Nat->List Value
 | [],n=>HV n
 | a::r,n=>a::frame r (n - 1)
theorem WZ (n:Nat):HV n=List.replicate n undef:=by
 induction n with
 | zero=>rfl
 | succ n ih=>rw [HV,ih];rfl
theorem Qp (args:List Value) (n:Nat):frame args n=args++List.replicate (n - args.length) undef:=by
 induction args generalizing n with
 | nil=>simp [frame,WZ]
 | cons a r ih=>rw [frame,ih];simp [Nat.sub_sub,Nat.add_comm]
def R8 (P:Program) (fn:Func) (R:Value->World->Prop):ml
 | .normal,l,w | .ret,l,w=>∃ v,(results fn l.toArray).run P w=.ok v w/\R v w
 | _,_,_=>False
theorem nm.enter {P:Program} {f:FuncId} {fn:Func} {c:Code} {args:List Value} {w:World} {R:Value->World->Prop} {n:Nat} {l:List Value}
  (hf:P.funcs[f]?=some fn) (hn:fn.ntmps=n) (hb:fn.body=some c) (hl:frame args n=l) (h:W P c (R8 P fn R) l w):nm P f args w R:=by
 subst hl;refine calls_of_wp hf hb ?_
 have pb:(args.toArray++Array.replicate (fn.ntmps - args.toArray.size) undef)=(frame args n).toArray:=by
  simp [Qp,hn]
 rw [pb];refine wp_mono h ?_;rintro e a w ⟨l,rfl,hq⟩
 cases e <;> simp only [R8] at hq <;> simp only [bodyPost]
 ·obtain ⟨v,hr,hv⟩:=hq;exact ⟨rfl,v,hr,v,rfl,hv⟩
 ·obtain ⟨v,hr,hv⟩:=hq;exact ⟨rfl,v,hr,v,rfl,hv⟩
def Vb (P:Program) (t e k iU:Nat):Bool :=
 (match P.underlying t with | some (.slice e')=>e'==e | _=>false) &&
 (match P.info? e with
  | some i=>(match i.zero with | some z=>z.cells.size==k | none=>false)&&i.size==k&&i.bytes==iU
  | none=>false)&&k != 0
class pz (P:Program) (t:TypeId) (e:outParam TypeId) (k:outParam Nat) (iU:outParam Nat):Prop where
 is:Vb P t e k iU=true
theorem pz.parts {P:Program} {t e k iU:Nat} (h:pz P t e k iU) :
  P.underlying t=some (.slice e)/\(∃ i z,P.info? e=some i/\i.zero=some z/\z.cells.size=k/\i.size=k/\i.bytes=iU)/\0 < k:=by
 obtain ⟨h⟩:=h;simp only [Vb,aE,bne_iff_ne,ne_eq] at h;obtain ⟨⟨I,F⟩,h3⟩:=h;refine ⟨?_,?_,by omega⟩
 ·split at I
  ·rename_i e' hu;rw [hu];simp at I;rw [I]
  ·cases I
 ·split at F
  ·rename_i i hi;simp only [aE,beq_iff_eq] at F;obtain ⟨⟨h4,h5⟩,h6⟩:=F;split at h4
   ·rename_i z hz;exact ⟨i,z,hi,hz,by simpa using h4,h5,h6⟩
   ·cases h4
  ·cases F
abbrev iH (w:World) (base:Nat) (e k:Nat) (v:Value) (n:Nat) (xs:List Value):Prop:=w.ownsRow base e k v n xs
theorem iH.nil (w:World) (base e k:Nat):iH w base e k (.slice none 0 0) 0 []:=World.ownsRow_nil w base e k
theorem iH.ext {S:Nat->Prop} {w w':World} {base e k:Nat} {v:Value} {n:Nat} {xs:List Value} (h:iH w base e k v n xs) (hx:Ext S w w') (hs:∀ b,v.ownBlock=some b->¬ S b):iH w' base e k v n xs:=by
 obtain ⟨I,F⟩:=h;refine ⟨I,?_⟩
 rcases F with F | ⟨g,cap,cur,rfl,hb,hg,r⟩
 ·exact .inl F
 ·exact .inr ⟨g,cap,cur,rfl,hb,hx.blk hg (hs g rfl),r⟩
theorem iH.lt {w:World} {base e k:Nat} {v:Value} {n:Nat} {xs:List Value} (h:iH w base e k v n xs) {b:Nat} (hv:v.ownBlock=some b):base<=b/\b < w.heap.size:=by
 obtain ⟨I,F⟩:=h
 rcases F with ⟨rfl,_⟩ | ⟨g,cap,cur,rfl,hb,hg,r⟩
 ·cases hv
 ·simp only [Value.ownBlock,Option.some.injEq] at hv;subst hv;exact ⟨hb,sL hg⟩
theorem iH.shape {w:World} {base e k:Nat} {v:Value} {n:Nat} {xs:List Value} (h:iH w base e k v n xs):∃ a c,v=.slice a n c:=by
 obtain ⟨I,F⟩:=h
 rcases F with ⟨rfl,rfl⟩ | ⟨g,cap,cur,rfl,_⟩
 ·exact ⟨_,_,rfl⟩
 ·exact ⟨_,_,rfl⟩
theorem iH.base {w:World} {base R7 e k:Nat} {v:Value} {n:Nat} {xs:List Value} (h:iH w base e k v n xs) (hb:R7<=base):iH w R7 e k v n xs:=by
 obtain ⟨I,F⟩:=h;refine ⟨I,?_⟩
 rcases F with F | ⟨g,cap,cur,rfl,bo,r⟩
 ·exact .inl F
 ·exact .inr ⟨g,cap,cur,rfl,km hb bo,r⟩
theorem iH.cells {w:World} {base e k:Nat} {v:Value} {n:Nat} {xs:List Value} (h:iH w base e k v n xs) :
  xs.length=n * k/\(xs≠[]->∃ b c,v=.slice (some ⟨b,0,none⟩) n c/\base<=b/\b < w.heap.size/\∀ j u,xs[j]?=some u->w.cell? ⟨b,j,none⟩=some u):=by
 obtain ⟨I,F⟩:=h;refine ⟨I,fun cj=>?_⟩
 rcases F with ⟨rfl,rfl⟩ | ⟨g,cap,cur,rfl,hb,hg,hn,hm,cB,ht⟩
 ·simp at I;exact absurd I cj
 ·refine ⟨g,cap,rfl,hb,sL hg,fun j u hj=>?_⟩;rw [cell_of_row w g j cur e (0,0) hg];rw [<-ht] at hj;rw [getElem?_take] at hj;split at hj
  ·simpa using hj
  ·cases hj
theorem iH.WN {w w':World} {b e k n:Nat} {cs:List Value} (h:vQ w w' b (.cells cs.toArray e)) (hl:cs.length=n * k) (hm:n<=maxLen):iH w' w.heap.size e k (.slice (some ⟨b,0,none⟩) n n) n cs :=
 ⟨hl,.inr ⟨b,n,cs.toArray,rfl,by rw [h.fresh];exact aH _,h.blk,aH _,hm,by simpa using hl,by simp [<-hl]⟩⟩
section
variable {P:Program} {Q:ml} {l:List Value} {w:World} {ops:Array Oper} {rest:List Oper} {d:Option Tmp} {ty:TypeId} {pos:String} {af:Array Edge}
theorem WL.app {s x:Operand} {t e k iU:Nat} [hT:pz P t e k iU] {base n m c b o:Nat} {xs news:List Value} {v:Value} (hs:ev l s=v) (fg:iH w base e k v n xs)
  (hx:ev l x=.slice (some ⟨b,o,none⟩) m c) (hl:news.length=m * k) (SJ:∀ j u,news[j]?=some u->w.cell? ⟨b,o+j,none⟩=some u) (I:nc news=true)
  (VH:n+m<=9223372036854775807) (yH:(n+m) * iU<=140737488355328) (CE:base<=w.heap.size)
  (h:∀ v' w',iH w' base e k v' (n+m) (xs++news)->Ext (fun b=>v.ownBlock=some b) w w'->(∀ b,v'.ownBlock=some b->v.ownBlock=some b\/w.heap.size<=b)->(Ext jc w w'\/v'.ownBlock=v.ownBlock)->WL P ops Q rest (put l d v') w') :
  WL P ops Q (⟨d,.call ⟨.builtin .append,#[s,x],#[t,t]⟩,ty,pos,af,none⟩::rest) l w:=by
 obtain ⟨hu,⟨i,z,hi,hz,Om,cB,yG⟩,hk⟩:=hT.parts;obtain ⟨v',w',hr,F,h3,h4⟩:=run_append_own (P:=P) w base t ty e i z k iU hu hi hz cB yG Om hk v n xs fg ⟨b,o,none⟩ m c news hl
  (fun j u hj=>by rw [qK];exact SJ j u hj) (by simpa [nc] using I) (by simpa [maxLen] using VH) yH CE
 have gU:Ext (fun b=>v.ownBlock=some b) w w':=⟨h3.os,h3.tape,h3.output,h3.size,fun j hj hn=>h3.block j hj fun he=>hn he.symm⟩
 have yN:∀ j u,news[j]?=some u->w.cell? ((⟨b,o,none⟩:Addr).add j)=some u:=fun j u hj=>by rw [qK];exact SJ j u hj
 have jY:news.length=m * i.size:=by rw [cB];exact hl
 have Qw:(n+m) * i.bytes<=140737488355328:=by rw [yG];exact yH
 refine WL.val (v:=v') (w':=w') (by simp [execOp,resolve,invoke,builtin,hs,hx,hr]) (h v' w' F gU ?_ ?_)
 ·intro b' bo;have CJ:=fg.2
  rcases CJ with ⟨rfl,rfl⟩ | ⟨g,cap,cur,rfl,ot,hg,pI,x5,fm,CL⟩
  ·by_cases hm:m=0
   ·have:=h4.2 ⟨rfl,hm⟩;subst this;cases bo
   ·have eE:=run_append_nil (P:=P) w t ty e i z hu hi hz ⟨b,o,none⟩ m c news jY yN (by omega) (by omega) (by simp only [fk] at Qw;omega);rw [hr] at eE;cases eE;simp only [Value.ownBlock,Option.some.injEq] at bo;exact .inr (by omega)
  ·by_cases hroom:n+m<=cap
   ·have eE:=run_append_room (P:=P) w t ty e i hu hi g n cap cur hg ⟨b,o,none⟩ m c news jY yN (by simpa [nc] using I) hroom
     (by rw [jY,fm,<-Nat.add_mul,cB];exact ru _ hroom)
    rw [hr] at eE;cases eE;exact .inl bo
   ·have holds:∀ j u,xs[j]?=some u->w.cell? ((⟨g,0,none⟩:Addr).add j)=some u:=World.ownsRow.cells (g:=g) fg rfl;have eE:=run_append_grow (P:=P) w t ty e i z hu hi hz ⟨g,0,none⟩ n cap xs (by rw [cB];exact fg.1) holds ⟨b,o,none⟩ m c news jY yN (by omega) (by omega) (growslice_fits (by omega) Qw);rw [hr] at eE;cases eE;simp only [Value.ownBlock,Option.some.injEq] at bo;exact .inr (by omega)
 ·have CJ:=fg.2
  rcases CJ with ⟨rfl,rfl⟩ | ⟨g,cap,cur,rfl,ot,hg,pI,x5,fm,CL⟩
  ·exact .inl (gU.mono fun k _ hk=>by cases hk)
  ·by_cases hroom:n+m<=cap
   ·have eE:=run_append_room (P:=P) w t ty e i hu hi g n cap cur hg ⟨b,o,none⟩ m c news jY yN (by simpa [nc] using I) hroom
     (by rw [jY,fm,<-Nat.add_mul,cB];exact ru _ hroom)
    rw [hr] at eE;cases eE;exact .inr rfl
   ·have holds:∀ j u,xs[j]?=some u->w.cell? ((⟨g,0,none⟩:Addr).add j)=some u:=World.ownsRow.cells (g:=g) fg rfl;have eE:=run_append_grow (P:=P) w t ty e i z hu hi hz ⟨g,0,none⟩ n cap xs (by rw [cB];exact fg.1) holds ⟨b,o,none⟩ m c news jY yN (by omega) (by omega) (growslice_fits (by omega) Qw);rw [hr] at eE;cases eE;exact .inl ⟨rfl,rfl,rfl,by simp,fun k hk _=>Below.heap_alloc _ _ _ (by simpa using hk)⟩
theorem WL.push {x s:Operand} {t e k iU:Nat} {z:List Value} [hT:pz P t e k iU] [hZ:qI P t e k z] {base n:Nat} {xs vs:List Value} {v val:Value} {d1:Tmp} {PA:TypeId} {HR:String} {MN:Array Edge}
  (hx:ev l x=val) (hs:∀ u,ev (put l (some d1) u) s=v) (hd:∀ u,ev (put l (some d1) u) (.tmp d1)=u) (hc:val.cells=vs.toArray) (hk:vs.length=k) (I:nc vs=true)
  (fg:iH w base e k v n xs) (VH:n+1<=9223372036854775807) (yH:(n+1) * iU<=140737488355328) (aaR:k<=16777216) (CE:base<=w.heap.size)
  (h:∀ u v' w',iH w' base e k v' (n+1) (xs++vs)->Ext (fun b=>v.ownBlock=some b) w w'->(∀ b,v'.ownBlock=some b->v.ownBlock=some b\/w.heap.size<=b)->(Ext jc w w'\/v'.ownBlock=v.ownBlock)->WL P ops Q rest (put (put l (some d1) u) d v') w') :
  WL P ops Q (⟨some d1,.buildSlice t 1 #[(0,x)],PA,HR,MN,none⟩::⟨d,.call ⟨.builtin .append,#[s,.tmp d1],#[t,t]⟩,ty,pos,af,none⟩::rest) l w:=by
 have hkp:=hZ.pos
 have cB:val.cells.size=k:=by rw [hc];simpa using hk
 have eV:∀ (vs cs:List Value),vs.length=cs.length->jG cs 0 vs=vs:=by
  have gen:∀ (vs pre cs:List Value),vs.length=cs.length->jG (pre++cs) pre.length vs=pre++vs:=by
   intro vs
   induction vs with
   | nil=>intro pre cs hl;cases cs <;> simp_all [jG]
   | cons a r ih =>
    intro pre cs hl
    cases cs with
    | nil=>simp at hl
    | cons c cs =>
     have hu:fS (pre++c::cs) pre.length a=pre++a::cs:=by
      clear hl
      induction pre with
      | nil=>rfl
      | cons p pre ihp=>simp [fS,ihp]
     rw [jG,hu];have:=ih (pre++[a]) cs (by simpa using hl);simpa using this
  intro vs cs hl;exact gen vs [] cs hl
 have XU:qP (fun i=>some (i * k,k)) ((List.range (1 * k)).map fun j=>z.getD (j % k) undef) ([((0:Nat),x)].map fun y=>(y.1,ev l y.2))=some vs:=by
  simp only [List.map_cons,map_nil,qP,hx,cB];simp [hk,hc];exact eV vs _ (by simpa using hk)
 refine WL.DW (n:=1) (parts:=[(0,x)]) (by omega) XU ?_;intro b2 w2 bW;have LF:iH w2 base e k v n xs:=fg.ext bW.ext (fun _ _ h=>h);refine WL.app (base:=base) (v:=v) (n:=n) (xs:=xs) (news:=vs) (m:=1) (hs _) LF (hd _) (by omega) (fun j u hj=>?_) I VH yH (km CE bW.ext.size) ?_
 ·rw [fk];exact MV bW.blk (by simpa using hj)
 ·intro v' w3 ho Oj hb uB;refine h _ v' w3 ho ((bW.ext.mono (fun _ _ h=>h.elim)).trans Oj) (fun b bo=>?_) (uB.imp (fun h5=>bW.ext.trans h5) id)
  rcases hb b bo with h4 | h4
  ·exact .inl h4
  ·exact .inr (km bW.ext.size h4)
end
section
variable {P:Program} {ops:Array Oper} {S:Nat->Prop}
end
def sW:List Oper->Nat->Oper
 | [],_=>default
 | o::_,0=>o
 | _::r,n+1=>sW r n
theorem Uu (ol:List Oper) (i:Nat) (o:Oper) (h:ol.toArray[i]?=some o):sW ol i=o:=by
 have h':ol[i]?=some o:=by simpa using h
 clear h
 induction ol generalizing i with
 | nil=>simp at h'
 | cons x r ih =>
  cases i with
  | zero=>simpa [sW] using h'
  | succ i=>exact ih i (by simpa using h')
section
variable {P:Program} {ops:Array Oper} {S:Nat->Prop} {Q:ml} {l:List Value} {w:World} {r:List (Oper × Bool)} {d:Option Tmp} {op:Op} {ty:TypeId} {pos:String} {af:Array Edge}
end
def Mj:IntKind->IntKind->Bool
 | .i8,.i8 | .i16,.i16 | .i32,.i32 | .i64,.i64 | .u8,.u8 | .u16,.u16 | .u32,.u32 | .u64,.u64=>true
 | _,_=>false
theorem Rq {a b:IntKind} (h:Mj a b=true):a=b:=by cases a <;> cases b <;> first | rfl | cases h
def Lx (op:BinOp) (a b:Int):Option Value :=
 match op with
 | .eql=>some (.bool (a==b))
 | .neq=>some (.bool (a != b))
 | .lss=>some (.bool (decide (a < b)))
 | .leq=>some (.bool (decide (a<=b)))
 | .gtr=>some (.bool (decide (b < a)))
 | .geq=>some (.bool (decide (b<=a)))
 | _=>none
def Lw (op:BinOp):Value->Value->Option Value
 | .int k a,.int k' b=>match Mj k k' with
  | true=>Lx op a b
  | false=>none
 | _,_=>none
def xg (c:Op) (x:Value):Option Value :=
 match c with
 | .nilCheck _=>match x with
  | .pointer (some a)=>some (.pointer (some a))
  | _=>none
 | .unOp .not _ _=>match x with
  | .bool b=>some (.bool (!b))
  | _=>none
 | .extract _ i=>match x with
  | .tuple vs=>vs[i]?
  | _=>none
 | _=>none
def go (ρ:Operand->Value) (o:Op):Option Value :=
 match o with
 | .move x=>some (ρ x)
 | .assign x=>some (ρ x)
 | .makeFunc fn f c=>some (.func fn (f.map ρ) (c.map ρ))
 | .binOp op _ x y _=>Lw op (ρ x) (ρ y)
 | .nilCheck x=>xg o (ρ x)
 | .unOp _ _ x=>xg o (ρ x)
 | .extract x _=>xg o (ρ x)
 | _=>none
section
variable {P:Program} {l:List Value} {w:World}
theorem T0 {o:Op} {v:Value} (h:go (ev l) o=some v):eU P l w o v:=by
 unfold go at h;split at h
 ·cases h;exact R.mv
 ·cases h;exact R.xT
 ·cases h;exact R.DV
 ·rename_i op t x y t';unfold Lw at h;split at h
  ·rename_i k a k' b hx hy;split at h
   ·rename_i hk;have:=Rq hk;subst this;unfold Lx at h
    split at h <;> first | (cases h;done) | skip
    ·cases h;exact R.eq hx hy
    ·cases h;exact R.ne hx hy
    ·cases h;exact R.lt hx hy
    ·cases h;exact R.le hx hy
    ·cases h;exact R.gt' hx hy
    ·cases h;exact R.ge hx hy
   ·cases h
  ·cases h
 ·unfold xg at h;simp only at h;split at h
  ·rename_i a hx;cases h;exact R.L8 hx
  ·cases h
 ·rename_i op t x;unfold xg at h
  cases op <;> simp only at h <;> first | (cases h;done) | skip
  split at h
  ·rename_i b hx;cases h;exact R.not hx
  ·cases h
 ·unfold xg at h;simp only at h;split at h
  ·rename_i vs hx;exact R.extract hx h
  ·cases h
 ·cases h
theorem R.dP {x y:Operand} {t t':TypeId} {a b:Nat} (hx:ev l x=ii a) (hy:ev l y=ii b) (hb:a+b<=9223372036854775807):eU P l w (.binOp .add t x y t') (ii ((a+b:Nat):Int)):=R.add hx hy (by omega) (by omega)
theorem R.yh {x y:Operand} {t t':TypeId} {a:Nat} (hx:ev l x=ii a) (hy:ev l y=ii 1) (hb:a+1<=9223372036854775807):eU P l w (.binOp .add t x y t') (ii ((a+1:Nat):Int)):=R.add hx hy (by omega) (by omega)
theorem R.Td {c a b:Operand} {t:Bool} (hc:ev l c=.bool t) (ht:t=true):eU P l w (.pick c a b) (ev l a):=by
 subst ht;exact R.pick hc
theorem R.Tc {c a b:Operand} {t:Bool} (hc:ev l c=.bool t) (ht:t=false):eU P l w (.pick c a b) (ev l b):=by
 subst ht;exact R.pick hc
end
section
variable {P:Program} {Q:ml} {l:List Value} {w:World} {ops:Array Oper} {rest:List Oper} {d:Option Tmp} {op:Op} {ty:TypeId} {pos:String} {af:Array Edge} {v:Value} {S:Nat->Prop} {r:List (Oper × Bool)}
end
def vz (ops:List Oper) (l:List Value):Option (Nat × Bool)->Bool
 | none=>true
 | some (j,b)=>match (sW ops j).dst with
  | some t=>match nth l t with
   | .bool c=>c==b
   | _=>false
  | none=>false
def kJ {α:Type}:List α->Nat->Bool
 | [],_=>false
 | _::_,0=>true
 | _::r,n+1=>kJ r n
theorem CQ {α:Type}:∀ {l:List α} {n:Nat},kJ l n=true->n < l.length
 | [],_,h=>by cases h
 | _::_,0,_=>by simp
 | _::r,n+1,h=>by have:=CQ (l:=r) (n:=n) h;simp;omega
def Fe:Option (Nat × Bool)->List Oper->List Value->Bool
 | some (j,_),ops,l=>kJ ops j&&(match (sW ops j).dst with
  | some t=>kJ l t&&(match nth l t with | .bool _=>true | .tuple _=>true | _=>false)
  | none=>false)
 | none,_,_=>true
theorem Kp (ol:List Oper) (j:Nat) (h:j < ol.length):ol.toArray[j]?=some (sW ol j):=by
 obtain ⟨o,ho⟩:∃ o,ol.toArray[j]?=some o:=⟨ol[j],by simp [h]⟩;rw [ho,Uu ol j o ho]
theorem WM (l:List Value) (t:Nat) (h:t < l.length):l[t]?=some (nth l t):=by
 induction l generalizing t with
 | nil=>simp at h
 | cons x l ih=>cases t with
  | zero=>rfl
  | succ t=>simpa [nth] using ih t (by simpa using h)
theorem wX {ops:Array Oper} {d:Option Tmp} {op:Op} {ty:TypeId} {pos:String} {af:Array Edge} {gd:Option (Nat × Bool)} {l:List Value} (hb:Fe gd ops.toList l=true) :
  Region.wanted ⟨d,op,ty,pos,af,gd⟩ (yielded ops (act l).tmps)=vz ops.toList l gd:=by
 cases gd with
 | none=>rfl
 | some x =>
  obtain ⟨j,b⟩:=x;simp only [Fe,aE] at hb;obtain ⟨I,F⟩:=hb;have hj:=Kp ops.toList j (CQ I);simp only [Array.toArray_toList] at hj;simp only [Region.wanted,vz,yielded,hj,Option.bind_some]
  cases hd:(sW ops.toList j).dst with
  | none=>rw [hd] at F;cases F
  | some t =>
   rw [hd] at F;simp only [aE] at F;have ht:=WM l t (CQ F.1);simp only [Option.bind_some,act]
   have th:l.toArray[t]?=some (nth l t):=by simpa using ht
   rw [th]
   cases hv:nth l t <;> rw [hv] at F <;> simp_all
def gv (ops:List Oper) (l:List Value) (gd:Nat × Bool):Option Bool :=
 match (sW ops gd.1).dst with
 | some t=>match nth l t with
  | .bool c=>some c
  | _=>none
 | none=>none
theorem PK {ops:List Oper} {l:List Value} {gd:Nat × Bool} {c:Bool} (hv:gv ops l gd=some c) (hc:c=gd.2):vz ops l (some gd)=true:=by
 obtain ⟨j,b⟩:=gd;unfold gv at hv;unfold vz;simp only at hv hc |-;split at hv
 ·rename_i t ht;split at hv
  ·rename_i c' dK;cases hv;simp [hc]
  ·cases hv
 ·cases hv
theorem PJ {ops:List Oper} {l:List Value} {gd:Nat × Bool} {c:Bool} (hv:gv ops l gd=some c) (hc:c=!gd.2):vz ops l (some gd)=false:=by
 obtain ⟨j,b⟩:=gd;unfold gv at hv;unfold vz;simp only at hv hc |-;split at hv
 ·rename_i t ht;split at hv
  ·rename_i c' dK;cases hv;cases b <;> simp_all
  ·cases hv
 ·cases hv
theorem PL {ops:List Oper} {l:List Value} {gd:Nat × Bool} (hv:gv ops l gd=none):vz ops l (some gd)=false:=by
 obtain ⟨j,b⟩:=gd;unfold gv at hv;unfold vz;simp only at hv |-;split at hv
 ·rename_i t ht;split at hv
  ·cases hv
  ·first | rfl | (split <;> simp_all)
 ·rfl
section
variable {P:Program} {Q:ml} {l:List Value} {w:World} {ops:Array Oper} {rest:List Oper} {d:Option Tmp} {op:Op} {ty:TypeId} {pos:String} {af:Array Edge} {v:Value} {S:Nat->Prop} {r:List (Oper × Bool)} {gd:Nat × Bool}
theorem GT {c:Bool} (hb:Fe (some gd) ops.toList l=true) (hv:gv ops.toList l gd=some c) (hc:c=gd.2) (h:WL P ops Q (⟨d,op,ty,pos,af,none⟩::rest) l w):WL P ops Q (⟨d,op,ty,pos,af,some gd⟩::rest) l w:=WL.gt ((wX hb).trans (PK hv hc)) h
theorem GF {c:Bool} (hb:Fe (some gd) ops.toList l=true) (hv:gv ops.toList l gd=some c) (hc:c=!gd.2) (h:WL P ops Q rest (put l d undef) w):WL P ops Q (⟨d,op,ty,pos,af,some gd⟩::rest) l w:=WL.gf ((wX hb).trans (PJ hv hc)) h
theorem GU (hb:Fe (some gd) ops.toList l=true) (hv:gv ops.toList l gd=none) (h:WL P ops Q rest (put l d undef) w):WL P ops Q (⟨d,op,ty,pos,af,some gd⟩::rest) l w:=WL.gf ((wX hb).trans (PL hv)) h
end
def Mb:Value->Bool
 | .agg _=>false
 | .tuple _=>false
 | _=>true
theorem xG {v:Value} (h:Mb v=true):v.cells=#[v]/\v.oneCell'=true:=by
 cases v <;> first | exact ⟨rfl,rfl⟩ | cases h
end Go.Xw
namespace Go.Xg
open Go.RowKit Go.Xw
inductive GV where
 | v (x:Value)
 | U
 | agg (cs:List GV)
 | tup (cs:List GV)
 | sl (k:Nat) (rows:List (List GV))
 | box (cs:List GV) (o:Nat)
 | loc (i o:Nat)
 | vec (i n:Nat)
 | vp (i n k idx off:Nat)
 | arr (i o n:Nat)
 | fn (f:Fn) (first cap:List GV)
open GV (U)
abbrev Fz:=Nat->Nat->Option GV
inductive Bk where
 | no
 | fix (b:Nat)
 | gr (h:Value) (m:Nat)
def Bk.blk:Bk->Option Nat
 | .no=>none
 | .fix b=>some b
 | .gr h _=>h.ownBlock
abbrev Bt:=Nat->Bk
def c6 (K K':Fz):Prop:=∀ b o g,K b o=some g->K' b o=some g
def tX:Bk->Bk->Prop
 | .no,_=>True
 | .fix b,x=>x=.fix b
 | .gr h m,x=>∃ h' m',x=.gr h' m'/\m<=m'/\(m'=m->h'=h)
def dJ (β ca:Bt):Prop:=∀ i,tX (β i) (ca i)
theorem c6.refl (K:Fz):c6 K K:=fun _ _ _ h=>h
theorem c6.trans {a b c:Fz} (h:c6 a b) (k:c6 b c):c6 a c:=fun x y z hz=>k x y z (h x y z hz)
theorem tX.refl (x:Bk):tX x x:=by cases x with | no=>trivial | fix b=>rfl | gr h m=>exact ⟨h,m,rfl,aH _,fun _=>rfl⟩
theorem tX.trans {a b c:Bk} (h:tX a b) (k:tX b c):tX a c:=by
 cases a with
 | no=>trivial
 | fix x=>cases h;exact k
 | gr x m =>
  obtain ⟨x',m',rfl,I,F⟩:=h;obtain ⟨x2,m2,rfl,h3,h4⟩:=k
  exact ⟨x2,m2,rfl,km I h3,fun he=>by
   have:m'=m:=by omega
   rw [h4 (by omega),F this]⟩
theorem dJ.refl (β:Bt):dJ β β:=fun i=>tX.refl _
theorem dJ.trans {a b c:Bt} (h:dJ a b) (k:dJ b c):dJ a c:=fun i=>(h i).trans (k i)
inductive Rel (K:Fz) (β:Bt):Value->GV->Prop
 | v (x:Value):Rel K β x (.v x)
 | U (x:Value):Rel K β x .U
 | agg (vs:List Value) (cs:List GV) (hl:vs.length=cs.length) (h:∀ (i:Nat) v g,vs[i]?=some v->cs[i]?=some g->Rel K β v g):Rel K β (.agg vs.toArray) (.agg cs)
 | tup (vs:List Value) (cs:List GV) (hl:vs.length=cs.length) (h:∀ (i:Nat) v g,vs[i]?=some v->cs[i]?=some g->Rel K β v g):Rel K β (.tuple vs.toArray) (.tup cs)
 | sl0 (a:Option Addr) (c k:Nat):Rel K β (.slice a 0 c) (.sl k [])
 | sl (b o c k:Nat) (rows:List (List GV)) (h:∀ (i:Nat) r,rows[i]?=some r->r.length=k/\∀ (j:Nat) g,r[j]?=some g->K b (o+i * k+j)=some g) (hc:rows.length<=c):Rel K β (.slice (some ⟨b,o,none⟩) rows.length c) (.sl k rows)
 | box (b o' o:Nat) (cs:List GV) (h:∀ (j:Nat) g,cs[j]?=some g->K b (o'+j)=some g):Rel K β (.pointer (some ⟨b,o'+o,none⟩)) (.box cs o)
 | loc (i o b:Nat) (h:β i=.fix b):Rel K β (.pointer (some ⟨b,o,none⟩)) (.loc i o)
 | vec (i n:Nat) (a:Option Addr) (c:Nat) (h:∃ h m,β i=.gr h m/\n<=m/\(m=n->.slice a n c=h)):Rel K β (.slice a n c) (.vec i n)
 | vp (i n k idx off:Nat) (x:Value) (h:∃ h m,β i=.gr h m/\n<=m/\(m=n->∃ b,h.ownBlock=some b/\x=.pointer (some ⟨b,idx * k+off,none⟩))):Rel K β x (.vp i n k idx off)
 | arr (i o n b c:Nat) (h:β i=.fix b):Rel K β (.slice (some ⟨b,o,none⟩) n c) (.arr i o n)
 | fn (f:Fn) (xs ys:List Value) (first cap:List GV) (hl:xs.length=first.length) (jY:ys.length=cap.length) (h:∀ (i:Nat) v g,xs[i]?=some v->first[i]?=some g->Rel K β v g)
   (h':∀ (i:Nat) v g,ys[i]?=some v->cap[i]?=some g->Rel K β v g):Rel K β (.func f xs.toArray ys.toArray) (.fn f first cap)
theorem Rel.mono {K K':Fz} {β ca:Bt} {x:Value} {g:GV} (h:Rel K β x g) (hk:c6 K K') (hb:dJ β ca):Rel K' ca x g:=by
 induction h with
 | v x=>exact .v x
 | U x=>exact .U x
 | agg vs cs hl h ih=>exact .agg vs cs hl ih
 | tup vs cs hl h ih=>exact .tup vs cs hl ih
 | sl0 a c k=>exact .sl0 a c k
 | sl b o c k rows h hc=>exact .sl b o c k rows (fun i r hr=>⟨(h i r hr).1,fun j g hg=>hk _ _ _ ((h i r hr).2 j g hg)⟩) hc
 | box b o' o cs h=>exact .box b o' o cs fun j g hg=>hk _ _ _ (h j g hg)
 | loc i o b h=>exact .loc i o b (by have:=hb i;rw [h] at this;exact this)
 | vec i n a c h =>
  obtain ⟨h0,m,I,F,h3⟩:=h;have h4:=hb i;rw [I] at h4;obtain ⟨h',m',h5,h6,h7⟩:=h4;exact .vec i n a c ⟨h',m',h5,by omega,fun he=>by rw [h7 (by omega)];exact h3 (by omega)⟩
 | vp i n k idx off x h =>
  obtain ⟨h0,m,I,F,h3⟩:=h;have h4:=hb i;rw [I] at h4;obtain ⟨h',m',h5,h6,h7⟩:=h4;exact .vp i n k idx off x ⟨h',m',h5,by omega,fun he=>by rw [h7 (by omega)];exact h3 (by omega)⟩
 | arr i o n b c h=>exact .arr i o n b c (by have:=hb i;rw [h] at this;exact this)
 | fn f xs ys first cap hl jY h h' ih ih'=>exact .fn f xs ys first cap hl jY ih ih'
def GV.pc:GV->Bool
 | .v _=>true
 | .sl _ _=>true
 | .box _ _=>true
 | _=>false
theorem Rel.pc {K:Fz} {β ca:Bt} {x:Value} {g:GV} (h:Rel K β x g) (hp:g.pc=true):Rel K ca x g:=by
 cases h <;> first | (cases hp;done) | skip
 ·exact .v _
 ·exact .sl0 _ _ _
 ·rename_i h hc;exact .sl _ _ _ _ _ h hc
 ·rename_i h;exact .box _ _ _ _ h
def GV.one:GV->Bool
 | .v x=>Mb x
 | .U=>false
 | .agg _=>false
 | .tup _=>false
 | .vp _ _ _ _ _=>false
 | _=>true
theorem Rel.one {K:Fz} {β:Bt} {x:Value} {g:GV} (h:Rel K β x g) (ho:g.one=true):Mb x=true:=by
 cases h <;> first | exact ho | rfl | (cases ho;done)
abbrev bg (K:Fz) (β:Bt) (vs:List Value) (gs:List GV):Prop:=vs.length=gs.length/\∀ (i:Nat) v g,vs[i]?=some v->gs[i]?=some g->Rel K β v g
theorem bg.mono {K K':Fz} {β ca:Bt} {vs:List Value} {gs:List GV} (h:bg K β vs gs) (hk:c6 K K') (hb:dJ β ca):bg K' ca vs gs:=⟨h.1,fun i v g I F=>(h.2 i v g I F).mono hk hb⟩
theorem bg.nil {K:Fz} {β:Bt}:bg K β [] []:=⟨rfl,fun i v g h=>by simp at h⟩
theorem bg.cons {K:Fz} {β:Bt} {v:Value} {g:GV} {vs:List Value} {gs:List GV} (h:Rel K β v g) (hs:bg K β vs gs):bg K β (v::vs) (g::gs):=by
 refine ⟨by simp [hs.1],fun i x y I F=>?_⟩
 cases i with
 | zero=>cases I;cases F;exact h
 | succ i=>exact hs.2 i x y I F
theorem bg.oJ {K:Fz} {β:Bt} {v:Value} {g:GV} {vs:List Value} {gs:List GV} (h:bg K β (v::vs) (g::gs)):Rel K β v g/\bg K β vs gs :=
 ⟨h.2 0 v g rfl rfl,by simpa using h.1,fun i x y I F=>h.2 (i+1) x y I F⟩
theorem bg.app {K:Fz} {β:Bt} {vs us:List Value} {gs hs:List GV} (h:bg K β vs gs) (k:bg K β us hs):bg K β (vs++us) (gs++hs):=by
 induction vs generalizing gs with
 | nil =>
  have:gs=[]:=by have:=h.1;simp at this;exact gQ this.symm
  subst this;exact k
 | cons v vs ih =>
  cases gs with
  | nil=>have:=h.1;simp at this
  | cons g gs=>obtain ⟨I,F⟩:=h.oJ;exact .cons I (ih F)
theorem bg.at {K:Fz} {β:Bt} {vs:List Value} {gs:List GV} (h:bg K β vs gs) {i:Nat} {g:GV} (hg:gs[i]?=some g):∃ v,vs[i]?=some v/\Rel K β v g:=by
 have hi:i < vs.length:=by rw [h.1];exact (bh hg).1
 exact ⟨vs[i],by simp [hi],h.2 i _ g (by simp [hi]) hg⟩
theorem bg.take {K:Fz} {β:Bt} {vs:List Value} {gs:List GV} (h:bg K β vs gs) (n:Nat):bg K β (vs.take n) (gs.take n):=by
 refine ⟨by simp [h.1],fun i x y I F=>?_⟩;rw [getElem?_take] at I F;split at I
 ·rename_i hi;rw [ae hi] at F;exact h.2 i x y I F
 ·cases I
theorem bg.drop {K:Fz} {β:Bt} {vs:List Value} {gs:List GV} (h:bg K β vs gs) (n:Nat):bg K β (vs.drop n) (gs.drop n):=by
 refine ⟨by simp [h.1],fun i x y I F=>?_⟩;rw [getElem?_drop] at I F;exact h.2 _ x y I F
def dj:List GV->Nat->GV
 | [],_=>.U
 | g::_,0=>g
 | _::l,n+1=>dj l n
def bH:List GV->Nat->GV->List GV
 | [],_,_=>[]
 | _::l,0,g=>g::l
 | x::l,n+1,g=>x::bH l n g
def a6 (l:List GV):Operand->GV
 | .tmp t=>dj l t
 | .const v=>.v v
 | .global g=>.v (.pointer (some ⟨g,0,none⟩))
 | .func f=>.v (.func (.func f) #[] #[])
def bz (l:List GV) (d:Option Tmp) (g:GV):List GV:=match d with | some d=>bH l d g | none=>l
inductive FR (K:Fz) (β:Bt):List GV->List Value->Prop
 | nil:FR K β [] []
 | cons {g:GV} {v:Value} {gs:List GV} {vs:List Value} (h:Rel K β v g) (t:FR K β gs vs):FR K β (g::gs) (v::vs)
theorem FR.mono {K K':Fz} {β ca:Bt} {gs:List GV} {vs:List Value} (h:FR K β gs vs) (hk:c6 K K') (hb:dJ β ca):FR K' ca gs vs:=by
 induction h with
 | nil=>exact .nil
 | cons h t ih=>exact .cons (h.mono hk hb) ih
theorem FR.nth {K:Fz} {β:Bt} {gs:List GV} {vs:List Value} (h:FR K β gs vs) (t:Nat):Rel K β (nth vs t) (dj gs t):=by
 induction h generalizing t with
 | nil=>exact .U _
 | cons h _ ih=>cases t with | zero=>exact h | succ t=>exact ih t
theorem FR.ev {K:Fz} {β:Bt} {gs:List GV} {vs:List Value} (h:FR K β gs vs) (x:Operand):Rel K β (ev vs x) (a6 gs x):=by
 cases x with
 | tmp t=>exact h.nth t
 | const v=>exact .v _
 | global g=>exact .v _
 | func f=>exact .v _
theorem FR.fS {K:Fz} {β:Bt} {gs:List GV} {vs:List Value} (h:FR K β gs vs) (t:Nat) {v:Value} {g:GV} (hv:Rel K β v g):FR K β (bH gs t g) (fS vs t v):=by
 induction h generalizing t with
 | nil=>exact .nil
 | cons h ht ih=>cases t with | zero=>exact .cons hv ht | succ t=>exact .cons h (ih t)
theorem FR.put {K:Fz} {β:Bt} {gs:List GV} {vs:List Value} (h:FR K β gs vs) (d:Option Tmp) {v:Value} {g:GV} (hv:Rel K β v g):FR K β (bz gs d g) (put vs d v):=by
 cases d with | none=>exact h | some d=>exact h.fS d hv
theorem FR.args {K:Fz} {β:Bt} {gs:List GV} {vs:List Value} (h:FR K β gs vs) (xs:List Operand):bg K β (xs.map (Xw.ev vs)) (xs.map (a6 gs)):=by
 induction xs with
 | nil=>exact .nil
 | cons x xs ih=>exact .cons (h.ev x) ih
inductive Ob where
 | gone
 | box (E:TypeId) (cs:List GV)
 | vec (E:TypeId) (k fz:Nat) (rows:List (List GV))
 | vech (E:TypeId) (k:Nat) (rows:List (List GV)) (x:Value)
 | lost
 | blk (b:Nat) (p:Obj->Prop)
def nL (K:Fz) (w:World):Prop:=∀ b o g,K b o=some g->g.pc=true/\∃ v,gN w.heap b o=some v/\Rel K (fun _=>.no) v g
def gE (k:Nat) (rows:List (List GV)):Prop:=∀ r∈rows,r.length=k/\∀ g∈r,g.pc=true
def lj (K:Fz) (β:Bt) (w:World) (i:Nat):Ob->Prop
 | .gone=>β i=.no
 | .box E cs=>∃ b vs,β i=.fix b/\w.heap[b]?=some (.cells vs.toArray E (0,0))/\bg K β vs cs/\∀ o,K b o=none
 | .vec E k fz rows=>∃ h xs,β i=.gr h rows.length/\iH w 0 E k h rows.length xs/\bg K β xs rows.flatten/\gE k rows /\
   (∀ b,h.ownBlock=some b->(∀ o,fz * k<=o->K b o=none)/\∀ o g,o < fz * k->rows.flatten[o]?=some g->K b o=some g)/\fz<=rows.length
 | .vech E k rows x=>∃ xs,β i=.gr x rows.length/\iH w 0 E k x rows.length xs/\bg K β xs rows.flatten/\gE k rows/\∀ b,x.ownBlock=some b->∀ o,K b o=none
 | .lost=>∀ b,(β i).blk=some b->b < w.heap.size
 | .blk b p=>β i=.fix b/\(∃ o,w.heap[b]?=some o/\p o)/\∀ o,K b o=none
def wH:List Int:=(List.range 20).map fun i=>((10 ^ i:Nat):Int)
def wO:List Int:=(List.range 256).map fun i=>if i=9\/i=10\/i=11\/i=12\/i=13\/i=32 then 1 else 0
def yg (m:Int):Fz:=fun b o =>
 if b=0 then (match o with | 0=>some (.v (.int .i64 m)) | _=>none)
 else if b=1 then wH[o]?.map fun z=>.v (.int .u64 z)
 else if b=2 then wO[o]?.map fun z=>.v (.int .u8 z)
 else none
def uc (w:World) (b n:Nat):Prop:=∃ cs E z,w.heap[b]?=some (.cells cs E z)/\cs.size=n
theorem uc.lt {w:World} {b n:Nat} (h:uc w b n):b < w.heap.size:=by obtain ⟨cs,E,z,h,_⟩:=h;exact sL h
structure jl (K:Fz) (β:Bt) (w:World):Prop where
 le:∃ m,c6 (yg m) K
 pow:uc w 1 20
 spc:uc w 2 256
 free:∀ i b,(β i).blk=some b->b≠1/\b≠2
theorem jl.step {S:Nat->Prop} {K K':Fz} {β ca:Bt} {w w':World} (h:jl K β w) (hx:Ext S w w') (hS:∀ b,S b->∃ i,(β i).blk=some b) (hk:c6 K K') (rG:∀ i b,(ca i).blk=some b->(∃ j,(β j).blk=some b)\/w.heap.size<=b):jl K' ca w':=by
 obtain ⟨⟨m,I⟩,F,h3,h4⟩:=h
 have key:∀ {b n:Nat},uc w b n->¬ S b->uc w' b n:=fun ⟨cs,E,z,a,e⟩ hn=>⟨cs,E,z,hx.blk a hn,e⟩
 refine ⟨⟨m,I.trans hk⟩,key F (fun hs=>?_),key h3 (fun hs=>?_),fun i b hb=>?_⟩
 ·obtain ⟨i,hi⟩:=hS _ hs;exact (h4 i _ hi).1 rfl
 ·obtain ⟨i,hi⟩:=hS _ hs;exact (h4 i _ hi).2 rfl
 ·rcases rG i b hb with ⟨j,hj⟩ | hs
  ·exact h4 j b hj
  ·have:=F.lt;have:=h3.lt;exact ⟨by omega,by omega⟩
structure Bs where
 w0:World
 foot:Nat->Prop
 K0:Fz
 β0:Bt
 m:Nat
structure Inv (B:Bs) (K:Fz) (β:Bt) (Γ:List Ob) (w:World):Prop where
 ext:Ext B.foot B.w0 w
 kle:c6 B.K0 K
 ble:dJ B.β0 β
 loc:∀ i,B.m<=i->B.β0 i=.no
 fz:nL K w
 ob:∀ i x,Γ[i]?=some x->lj K β w i x
 out:∀ i,Γ.length<=i->β i=.no
 dis:∀ i j b,(β i).blk=some b->(β j).blk=some b->i=j
 own:∀ i b,(β i).blk=some b->B.foot b\/B.w0.heap.size<=b
 kn:∀ b o g,K b o=some g->B.K0 b o=some g\/B.foot b\/B.w0.heap.size<=b
 tab:jl K β w
section
variable {B:Bs} {K:Fz} {β:Bt} {Γ:List Ob} {w:World}
theorem lj.lt {i:Nat} {x:Ob} (h:lj K β w i x) {b:Nat} (hb:(β i).blk=some b):b < w.heap.size:=by
 cases x with
 | gone=>simp only [lj] at h;rw [h] at hb;cases hb
 | box E cs =>
  obtain ⟨b',vs,I,F,_⟩:=h;rw [I] at hb;cases hb;exact sL F
 | vec E k fz rows =>
  obtain ⟨h',xs,I,F,_⟩:=h;rw [I] at hb;exact (F.lt hb).2
 | vech E k rows x =>
  obtain ⟨xs,I,F,_⟩:=h;rw [I] at hb;exact (F.lt hb).2
 | lost=>exact h b hb
 | blk b' p =>
  obtain ⟨I,⟨o,F,_⟩,_⟩:=h;rw [I] at hb;cases hb;exact (Array.getElem?_eq_some_iff.1 F).1
theorem Inv.lt (h:Inv B K β Γ w) {i b:Nat} (hb:(β i).blk=some b):b < w.heap.size:=by
 by_cases hi:i < Γ.length
 ·exact (h.ob i Γ[i] (by simp [hi])).lt hb
 ·rw [h.out i (by omega)] at hb;cases hb
theorem nL.lt (h:nL K w) {b o:Nat} {g:GV} (hg:K b o=some g):b < w.heap.size:=by
 obtain ⟨_,v,hv,_⟩:=h b o g hg;exact Gh hv
def blocks (β:Bt):Nat->Prop:=fun b=>∃ i,(β i).blk=some b
def cur (K:Fz) (β:Bt) (Γ:List Ob) (w:World):Bs:=⟨w,blocks β,K,β,Γ.length⟩
theorem Inv.here (h:Inv B K β Γ w):Inv (cur K β Γ w) K β Γ w :=
 ⟨Ext.refl w,c6.refl K,dJ.refl β,h.out,h.fz,h.ob,h.out,h.dis,fun i b hb=>.inl ⟨i,hb⟩,fun _ _ _ h=>.inl h,h.tab⟩
theorem Inv.Pa {K':Fz} {ca:Bt} {aS Zz:List Ob} {w':World} (h:Inv B K β Γ w) (k:Inv (cur K β Zz w) K' ca aS w'):Inv B K' ca aS w' :=
 ⟨h.ext.step k.ext (fun j hj=>by obtain ⟨i,hi⟩:=hj;exact (h.own i j hi).symm),h.kle.trans k.kle,h.ble.trans k.ble,h.loc,k.fz,k.ob,k.out,k.dis,
  fun i b hb=>by
   rcases k.own i b hb with I | I
   ·obtain ⟨j,hj⟩:=I;exact h.own j b hj
   ·exact .inr (km h.ext.size I),
  fun b o g hg=>by
   rcases k.kn b o g hg with I | ⟨j,hj⟩ | I
   ·exact h.kn b o g I
   ·exact .inr (h.own j b hj)
   ·exact .inr (.inr (km h.ext.size I)),k.tab⟩
theorem lj.ext {S:Nat->Prop} {K':Fz} {ca:Bt} {w':World} {i:Nat} {x:Ob} (h:lj K β w i x) (hx:Ext S w w') (hs:∀ b,(β i).blk=some b->¬ S b) (hk:c6 K K') (hb:dJ β ca)
  (he:ca i=β i) (hn:∀ b o,(β i).blk=some b->K b o=none->K' b o=none):lj K' ca w' i x:=by
 cases x with
 | gone=>simp only [lj] at h |-;rw [he,h]
 | box E cs =>
  obtain ⟨b,vs,I,F,h3,h4⟩:=h
  have dQ:(β i).blk=some b:=by rw [I];rfl
  exact ⟨b,vs,he.trans I,hx.blk F (hs b dQ),h3.mono hk hb,fun o=>hn b o dQ (h4 o)⟩
 | vec E k fz rows =>
  obtain ⟨h',xs,I,F,h3,h4,h5,h6⟩:=h
  have dQ:∀ b,h'.ownBlock=some b->(β i).blk=some b:=fun b hb=>by rw [I];exact hb
  exact ⟨h',xs,he.trans I,F.ext hx (fun b bo=>hs b (dQ b bo)),h3.mono hk hb,h4,fun b bo=>⟨fun o ho=>hn b o (dQ b bo) ((h5 b bo).1 o ho),fun o g ho hg=>hk _ _ _ ((h5 b bo).2 o g ho hg)⟩,h6⟩
 | vech E k rows x =>
  obtain ⟨xs,I,F,h3,h4,h5⟩:=h
  have dQ:∀ b,x.ownBlock=some b->(β i).blk=some b:=fun b hb=>by rw [I];exact hb
  exact ⟨xs,he.trans I,F.ext hx (fun b bo=>hs b (dQ b bo)),h3.mono hk hb,h4,fun b bo o=>hn b o (dQ b bo) (h5 b bo o)⟩
 | lost=>exact fun b bo=>xS (h b (by rw [<-he];exact bo)) hx.size
 | blk b p =>
  obtain ⟨I,⟨o,F,h3⟩,h4⟩:=h
  have dQ:(β i).blk=some b:=by rw [I];rfl
  exact ⟨he.trans I,⟨o,hx.blk F (hs b dQ),h3⟩,fun o=>hn b o dQ (h4 o)⟩
theorem nL.ext {S:Nat->Prop} {w':World} (h:nL K w) (hx:Ext S w w') (hs:∀ b o g,K b o=some g->¬ S b):nL K w':=fun b o g hg=>by
 obtain ⟨I,v,hv,hr⟩:=h b o g hg;exact ⟨I,v,hx.c hv (hs b o g hg),hr⟩
theorem Inv.same {w':World} (h:Inv B K β Γ w) (hx:Ext jc w w'):Inv B K β Γ w' :=
 ⟨h.ext.step hx (fun j hj=>hj.elim),h.kle,h.ble,h.loc,h.fz.ext hx (fun _ _ _ _ h=>h),fun i x hi=>(h.ob i x hi).ext hx (fun _ _ h=>h) (c6.refl K) (dJ.refl β) rfl (fun _ _ _ h=>h),h.out,h.dis,h.own,h.kn,h.tab.step hx (fun _ h=>h.elim) (c6.refl K) (fun i b h=>.inl ⟨i,h⟩)⟩
def fU (p:Nat->Bool) (β:Bt):Bt:=fun i=>match p i with
 | true=>β i
 | false=>.no
theorem iQ {p:Nat->Bool} {β:Bt} {i:Nat} (h:p i=true):fU p β i=β i:=by simp [fU,h]
theorem tR {p:Nat->Bool} {β:Bt} {i:Nat} (h:p i=false):fU p β i=.no:=by simp [fU,h]
end
section
variable {B:Bs} {K:Fz} {β:Bt} {Γ:List Ob} {w:World}
def fC (β:Bt) (i:Nat) (x:Bk):Bt:=fun j=>if j=i then x else β j
theorem bq {i:Nat} {x:Bk}:fC β i x i=x:=by simp [fC]
theorem bM {i j:Nat} {x:Bk} (h:j≠i):fC β i x j=β j:=by simp [fC,h]
theorem mO {i j b:Nat} {x:Bk} (h:(fC β i x j).blk=some b):x.blk=some b\/(β j).blk=some b:=by
 by_cases hj:j=i
 ·subst hj;rw [bq] at h;exact .inl h
 ·rw [bM hj] at h;exact .inr h
theorem ic {i:Nat} {x:Bk} (h:tX (β i) x):dJ β (fC β i x):=fun j=>by
 by_cases hj:j=i
 ·subst hj;rw [bq];exact h
 ·rw [bM hj];exact tX.refl _
theorem bg.self {vs:List Value}:bg K β vs (vs.map .v):=⟨by simp,fun i v g I F=>by
 rw [aV,I] at F;cases F;exact .v _⟩
theorem Inv.add {w':World} {b:Nat} {vs:List Value} {cs:List GV} {E:TypeId} (h:Inv B K β Γ w) (hn:vQ w w' b (.cells vs.toArray E)) (hr:bg K β vs cs) :
  Inv B K (fC β Γ.length (.fix b)) (Γ++[.box E cs]) w':=by
 have bX:β Γ.length=.no:=h.out _ (aH _);have hle:dJ β (fC β Γ.length (.fix b)):=ic (by rw [bX];trivial)
 have ar:∀ i b',(β i).blk=some b'->b'≠b:=fun i b' bo=>by have:=h.lt bo;have:=hn.fresh;omega
 have hK:∀ o,K b o=none:=fun o=>by
  cases hk:K b o with
  | none=>rfl
  | some g=>have:=h.fz.lt hk;have:=hn.fresh;omega
 refine ⟨h.ext.step hn.ext (fun j hj=>hj.elim),h.kle,h.ble.trans hle,h.loc,h.fz.ext hn.ext (fun _ _ _ _ h=>h),fun i x hi=>?_,fun i hi=>?_,fun i j b' hi hj=>?_,fun i b' hi=>?_,h.kn,h.tab.step hn.ext (fun _ h=>h.elim) (c6.refl K) (fun i b2 hi=>by rcases mO hi with I | I;(· cases I;exact .inr (by have:=hn.fresh;omega));exact .inl ⟨i,I⟩)⟩
 ·by_cases qR:i < Γ.length
  ·rw [kl qR] at hi
   have cj:i≠Γ.length:=by omega
   exact (h.ob i x hi).ext hn.ext (fun _ _ h=>h) (c6.refl K) hle (bM cj) (fun _ _ _ h=>h)
  ·have:i=Γ.length:=by have:=(bh hi).1;simp at this;omega
   subst this;simp at hi;subst hi;exact ⟨b,vs,bq,hn.blk,hr.mono (c6.refl K) hle,hK⟩
 ·simp at hi;rw [bM (by omega)];exact h.out i (by omega)
 ·by_cases I:i=Γ.length <;> by_cases F:j=Γ.length
  ·omega
  ·subst I;rw [bq] at hi;rw [bM F] at hj;cases hi;exact absurd rfl (ar j _ hj)
  ·subst F;rw [bq] at hj;rw [bM I] at hi;cases hj;exact absurd rfl (ar i _ hi)
  ·rw [bM I] at hi;rw [bM F] at hj;exact h.dis i j b' hi hj
 ·by_cases I:i=Γ.length
  ·subst I;rw [bq] at hi;cases hi;exact .inr (by have:=hn.fresh;have:=h.ext.size;omega)
  ·rw [bM I] at hi;exact h.own i b' hi
theorem Inv.Ga {w':World} {E k:Nat} {x:Value} {xs:List Value} {rows:List (List GV)} (h:Inv B K β Γ w) (hx:Ext jc w w') (ho:iH w' 0 E k x rows.length xs) (hf:∀ b,x.ownBlock=some b->w.heap.size<=b)
  (hr:bg K β xs rows.flatten) (hk:gE k rows):Inv B K (fC β Γ.length (.gr x rows.length)) (Γ++[.vec E k 0 rows]) w':=by
 have bX:β Γ.length=.no:=h.out _ (aH _);have hle:dJ β (fC β Γ.length (.gr x rows.length)):=ic (by rw [bX];trivial)
 have ar:∀ i b',(β i).blk=some b'->x.ownBlock≠some b':=fun i b' bo he=>by have:=h.lt bo;have:=hf b' he;omega
 have hK:∀ b,x.ownBlock=some b->∀ o,K b o=none:=fun b hb o=>by
  cases hk:K b o with
  | none=>rfl
  | some g=>have:=h.fz.lt hk;have:=hf b hb;omega
 refine ⟨h.ext.step hx (fun j hj=>hj.elim),h.kle,h.ble.trans hle,h.loc,h.fz.ext hx (fun _ _ _ _ h=>h),fun i y hi=>?_,fun i hi=>?_,fun i j b' hi hj=>?_,fun i b' hi=>?_,h.kn,h.tab.step hx (fun _ h=>h.elim) (c6.refl K) (fun i b2 hi=>by rcases mO hi with I | I;(· exact .inr (hf b2 I));exact .inl ⟨i,I⟩)⟩
 ·by_cases qR:i < Γ.length
  ·rw [kl qR] at hi
   have cj:i≠Γ.length:=by omega
   exact (h.ob i y hi).ext hx (fun _ _ h=>h) (c6.refl K) hle (bM cj) (fun _ _ _ h=>h)
  ·have:i=Γ.length:=by have:=(bh hi).1;simp at this;omega
   subst this;simp at hi;subst hi;exact ⟨x,xs,bq,ho,hr.mono (c6.refl K) hle,hk,fun b hb=>⟨fun o _=>hK b hb o,fun o g ho _=>by omega⟩,aX _⟩
 ·simp at hi;rw [bM (by omega)];exact h.out i (by omega)
 ·by_cases I:i=Γ.length <;> by_cases F:j=Γ.length
  ·omega
  ·subst I;rw [bq] at hi;rw [bM F] at hj;exact absurd hi (ar j _ hj)
  ·subst F;rw [bq] at hj;rw [bM I] at hi;exact absurd hj (ar i _ hi)
  ·rw [bM I] at hi;rw [bM F] at hj;exact h.dis i j b' hi hj
 ·by_cases I:i=Γ.length
  ·subst I;rw [bq] at hi;exact .inr (km h.ext.size (hf b' hi))
  ·rw [bM I] at hi;exact h.own i b' hi
def mn (K:Fz) (b:Nat) (cs:List GV):Fz:=fun b' o=>if b'=b then cs[o]? else K b' o
theorem zu {b o:Nat} {cs:List GV} {g:GV} (h:cs[o]?=some g):mn K b cs b o=some g:=by simp [mn,h]
theorem Inv.yy {w':World} {b:Nat} {vs:List Value} {cs:List GV} {E:TypeId} (h:Inv B K β Γ w) (hn:vQ w w' b (.cells vs.toArray E)) (hr:bg K β vs cs) (hp:∀ g∈cs,g.pc=true) :
  c6 K (mn K b cs)/\Inv B (mn K b cs) β Γ w':=by
 have VM:∀ o,K b o=none:=fun o=>by
  cases hk:K b o with
  | none=>rfl
  | some g=>have:=h.fz.lt hk;have:=hn.fresh;omega
 have hle:c6 K (mn K b cs):=fun b' o g hg=>by
  by_cases hb:b'=b
  ·subst hb;rw [VM] at hg;cases hg
  ·simp [mn,hb,hg]
 refine ⟨hle,h.ext.step hn.ext (fun j hj=>hj.elim),h.kle.trans hle,h.ble,h.loc,fun b' o g hg=>?_,fun i x hi=>?_,h.out,h.dis,h.own,fun b' o g hg=>?_,h.tab.step hn.ext (fun _ h=>h.elim) hle (fun i b2 h=>.inl ⟨i,h⟩)⟩
 ·by_cases hb:b'=b
  ·subst hb;simp [mn] at hg;obtain ⟨v,hv,gJ⟩:=hr.at hg;have yP:=hp g (bm hg);exact ⟨yP,v,w9 hn.blk (by simpa using hv),(gJ.mono hle (dJ.refl β)).pc yP⟩
  ·have la:K b' o=some g:=by simpa [mn,hb] using hg
   obtain ⟨I,v,F,h3⟩:=h.fz b' o g la;exact ⟨I,v,hn.ext.c F (fun h=>h),h3.mono hle (dJ.refl _)⟩
 ·refine (h.ob i x hi).ext hn.ext (fun _ _ h=>h) hle (dJ.refl β) rfl (fun b' o hb hk=>?_)
  have:b'≠b:=by have:=h.lt hb;have:=hn.fresh;omega
  simp [mn,this,hk]
 ·by_cases hb:b'=b
  ·exact .inr (.inr (by have:=hn.fresh;have:=h.ext.size;omega))
  ·exact h.kn b' o g (by simpa [mn,hb] using hg)
theorem Inv.store {w':World} {i b:Nat} {E:TypeId} {cs Ap:List GV} {Xi:List Value} (h:Inv B K β Γ w) (hi:Γ[i]?=some (.box E cs)) (hb:β i=.fix b) (hs:vc w w' b Xi.toArray E)
  (hr:bg K β Xi Ap):Inv B K β (Γ.set i (.box E Ap)) w':=by
 obtain ⟨b0,vs,I,F,h3,h4⟩:=h.ob i _ hi;rw [hb] at I;cases I
 have dQ:(β i).blk=some b:=by rw [hb];rfl
 refine ⟨h.ext.step hs.ext (fun j hj=>?_),h.kle,h.ble,h.loc,h.fz.ext hs.ext (fun b' o g hg he=>?_),fun j x hj=>?_,fun j hj=>h.out j (by simpa using hj),h.dis,h.own,h.kn,h.tab.step hs.ext (fun j hj=>⟨i,by subst hj;exact dQ⟩) (c6.refl K) (fun i b2 h=>.inl ⟨i,h⟩)⟩
 ·subst hj;exact (h.own i _ dQ).symm
 ·subst he;rw [h4] at hg;cases hg
 ·rw [iz] at hj;split at hj
  ·rename_i fx;split at hj
   ·cases hj;subst fx
    exact ⟨b,Xi,hb,hs.blk,hr,h4⟩
   ·cases hj
  ·rename_i fx;refine (h.ob j x hj).ext hs.ext (fun b' bo he=>?_) (c6.refl K) (dJ.refl β) rfl (fun _ _ _ h=>h);subst he;exact fx (h.dis i j _ dQ bo)
def Cx (K:Fz) (x:Value) (n:Nat) (fl:List GV):Fz:=fun b o=>if x.ownBlock=some b/\o < n then fl[o]? else K b o
theorem zM {x:Value} {n b o:Nat} {fl:List GV} (I:x.ownBlock=some b) (F:o < n):Cx K x n fl b o=fl[o]?:=by unfold Cx;rw [ae ⟨I,F⟩]
theorem xh {x:Value} {n b o:Nat} {fl:List GV} (h:¬ (x.ownBlock=some b/\o < n)):Cx K x n fl b o=K b o:=by unfold Cx;rw [ab h]
theorem Cy {x:Value} {n b o:Nat} {fl:List GV} {g:GV} (h:Cx K x n fl b o=some g):(x.ownBlock=some b/\o < n/\fl[o]?=some g)\/(¬ (x.ownBlock=some b/\o < n)/\K b o=some g):=by
 by_cases hc:x.ownBlock=some b/\o < n
 ·rw [zM hc.1 hc.2] at h;exact .inl ⟨hc.1,hc.2,h⟩
 ·rw [xh hc] at h;exact .inr ⟨hc,h⟩
theorem Inv.grow {w':World} {i:Nat} {E k fz:Nat} {rows news:List (List GV)} {h0 x:Value} {xs ns:List Value} (h:Inv B K β Γ w) (hi:Γ[i]?=some (.vec E k fz rows)) (hb:β i=.gr h0 rows.length)
  (oz:iH w 0 E k h0 rows.length xs/\bg K β xs rows.flatten) (ho:iH w' 0 E k x (rows.length+news.length) (xs++ns)) (hx:Ext (fun b=>h0.ownBlock=some b) w w') (hf:∀ b,x.ownBlock=some b->h0.ownBlock=some b\/w.heap.size<=b)
  (hr:bg K β ns news.flatten) (hk:gE k news) (cj:news≠[]) (mc:∀ b,h0.ownBlock=some b->∀ o v,o < fz * k->gN w.heap b o=some v->gN w'.heap b o=some v) :
  ∃ K',c6 K K'/\dJ β (fC β i (.gr x (rows++news).length))/\Inv B K' (fC β i (.gr x (rows++news).length)) (Γ.set i (.vec E k fz (rows++news))) w':=by
 obtain ⟨um,xs',I,F,h3,h4,h5,h6⟩:=h.ob i _ hi;rw [hb] at I;cases I;clear F h3
 have hlen:news.length≠0:=fun h=>cj (gQ h)
 have hle:dJ β (fC β i (.gr x (rows++news).length)):=ic (by rw [hb];exact ⟨x,_,rfl,by simp,fun he=>by rw [aZ] at he;omega⟩)
 have yF:∀ b,h0.ownBlock=some b->(β i).blk=some b:=fun b bo=>by rw [hb];exact bo
 have Lz:rows.flatten.length=rows.length * k:=by rw [<-oz.2.1];exact oz.1.1
 have aaQ:fz * k<=rows.flatten.length:=by rw [Lz];exact ru k h6
 have EW:c6 K (Cx K x (fz * k) rows.flatten):=fun b o g hg=>by
  by_cases hc:x.ownBlock=some b/\o < fz * k
  ·rw [zM hc.1 hc.2]
   rcases hf b hc.1 with h7 | h7
   ·have SN:o < rows.flatten.length:=by omega
    have:=(h5 b h7).2 o rows.flatten[o] hc.2 (by simp [SN]);rw [this] at hg;cases hg;simp [SN]
   ·have:=h.fz.lt hg;omega
  ·rw [xh hc];exact hg
 refine ⟨Cx K x (fz * k) rows.flatten,EW,hle,h.ext.step hx (fun j hj=>(h.own i j (yF j hj)).symm),h.kle.trans EW,h.ble.trans hle,h.loc,fun b o g hg=>?_,fun j y hj=>?_,fun j hj=>?_,fun j j' b hj mJ=>?_,fun j b hj=>?_,fun b o g hg=>?_,h.tab.step hx (fun j hj=>⟨i,yF j hj⟩) EW (fun j b2 hi=>by rcases mO hi with I | I;(· exact (hf b2 I).imp (fun F=>⟨i,yF b2 F⟩) id);exact .inl ⟨j,I⟩)⟩
 ·rcases Cy hg with ⟨bo,AF,hg⟩ | ⟨hc,hg⟩
  ·have yP:g.pc=true:=by
    obtain ⟨r,lg,eE⟩:=List.mem_flatten.1 (bm hg);exact (h4 r lg).2 g eE
   obtain ⟨v,hv,gJ⟩:=oz.2.at hg;obtain ⟨b2,c,sH,_,_,kB⟩:=ho.cells.2 (by intro h0;have:xs=[]:=(List.append_eq_nil_iff.1 h0).1;rw [this] at hv;simp at hv)
   have fv:b2=b:=by rw [sH] at bo;cases bo;rfl
   subst fv;have ar:o < xs.length:=(bh hv).1;refine ⟨yP,v,?_,(gJ.mono EW hle).pc yP⟩;rw [<-fP];exact kB o v (by rw [kl ar];exact hv)
  ·obtain ⟨hp,v,hv,gJ⟩:=h.fz b o g hg;refine ⟨hp,v,?_,gJ.mono EW (dJ.refl _)⟩
   by_cases h7:h0.ownBlock=some b
   ·by_cases h8:o < fz * k
    ·exact mc b h7 o v h8 hv
    ·rw [(h5 b h7).1 o (by omega)] at hg;cases hg
   ·exact hx.c hv h7
 ·rw [iz] at hj;split at hj
  ·rename_i fx;split at hj
   ·cases hj;subst fx
    refine ⟨x,xs++ns,bq,by simpa using ho,?_,?_,fun b bo=>⟨fun o AF=>?_,fun o g AF hg=>?_⟩,by simp;omega⟩
    ·rw [List.flatten_append];exact (oz.2.mono EW hle).app (hr.mono EW hle)
    ·intro r Oe
     rcases qp Oe with h7 | h7
     ·exact h4 r h7
     ·exact hk r h7
    ·rw [xh (by omega)]
     rcases hf b bo with h7 | h7
     ·exact (h5 b h7).1 o AF
     ·cases mq:K b o with
      | none=>rfl
      | some g=>have:=h.fz.lt mq;omega
    ·rw [zM bo AF];rw [List.flatten_append,kl (by omega)] at hg;exact hg
   ·cases hj
  ·rename_i fx;refine (h.ob j y hj).ext hx (fun b bo he=>?_) EW hle (bM (fun he=>fx he.symm)) (fun b o bo mq=>?_)
   ·exact fx (h.dis i j b (yF b he) bo)
   ·rw [xh];exact mq;rintro ⟨h7,_⟩
    rcases hf b h7 with h8 | h8
    ·exact fx (h.dis i j b (yF b h8) bo)
    ·have:=h.lt bo;omega
 ·have mJ:Γ.length<=j:=by simpa using hj
  have:i < Γ.length:=(bh hi).1;rw [bM (by omega)];exact h.out j mJ
 ·have key:∀ j b,j≠i->(β j).blk=some b->x.ownBlock≠some b:=fun j b QB bo he=>by
   rcases hf b he with h7 | h7
   ·exact QB (h.dis j i b bo (yF b h7))
   ·have:=h.lt bo;omega
  by_cases I:j=i <;> by_cases F:j'=i
  ·omega
  ·subst I;rw [bq] at hj;rw [bM F] at mJ;exact absurd hj (key j' b F mJ)
  ·subst F;rw [bq] at mJ;rw [bM I] at hj;exact absurd mJ (key j b I hj)
  ·rw [bM I] at hj;rw [bM F] at mJ;exact h.dis j j' b hj mJ
 ·by_cases I:j=i
  ·subst I;rw [bq] at hj
   rcases hf b hj with h7 | h7
   ·exact h.own j b (yF b h7)
   ·exact .inr (km h.ext.size h7)
  ·rw [bM I] at hj;exact h.own j b hj
 ·rcases Cy hg with ⟨bo,_,_⟩ | ⟨_,hg⟩
  ·rcases hf b bo with h7 | h7
   ·exact .inr (h.own i b (yF b h7))
   ·exact .inr (.inr (km h.ext.size h7))
  ·exact h.kn b o g hg
theorem Inv.ki {i E k fz:Nat} {rows:List (List GV)} (h:Inv B K β Γ w) (hi:Γ[i]?=some (.vec E k fz rows)) :
  ∃ K',c6 K K'/\(∀ x b,β i=.gr x rows.length->x.ownBlock=some b->∀ (o:Nat) g,rows.flatten[o]?=some g->K' b o=some g)/\Inv B K' β (Γ.set i (.vec E k rows.length rows)) w:=by
 obtain ⟨x,xs,I,F,h3,h4,h5,h6⟩:=h.ob i _ hi
 have Lz:rows.flatten.length=rows.length * k:=by rw [<-h3.1];exact F.1
 have dQ:∀ b,x.ownBlock=some b->(β i).blk=some b:=fun b hb=>by rw [I];exact hb
 have hle:c6 K (Cx K x (rows.length * k) rows.flatten):=fun b o g hg=>by
  by_cases hc:x.ownBlock=some b/\o < rows.length * k
  ·rw [zM hc.1 hc.2]
   have ar:o < rows.flatten.length:=by omega
   by_cases ho:o < fz * k
   ·have:=(h5 b hc.1).2 o rows.flatten[o] ho (by simp [ar]);rw [this] at hg;cases hg;simp [ar]
   ·rw [(h5 b hc.1).1 o (by omega)] at hg;cases hg
  ·rw [xh hc];exact hg
 refine ⟨Cx K x (rows.length * k) rows.flatten,hle,fun x' b SV hb o g hg=>?_,h.ext,h.kle.trans hle,h.ble,h.loc,fun b o g hg=>?_,fun j y hj=>?_,fun j hj=>h.out j (by simpa using hj),h.dis,h.own,fun b o g hg=>?_,h.tab.step (S:=jc) (Ext.refl w) (fun _ h=>h.elim) hle (fun i b2 h=>.inl ⟨i,h⟩)⟩
 ·rw [I] at SV;cases SV;rw [zM hb (by rw [<-Lz];exact (bh hg).1)];exact hg
 ·rcases Cy hg with ⟨bo,AF,hg⟩ | ⟨hc,hg⟩
  ·have yP:g.pc=true:=by
    obtain ⟨r,lg,eE⟩:=List.mem_flatten.1 (bm hg);exact (h4 r lg).2 g eE
   obtain ⟨v,hv,gJ⟩:=h3.at hg;obtain ⟨b2,c,sH,_,_,kB⟩:=F.cells.2 (by intro h0;rw [h0] at hv;simp at hv)
   have fv:b2=b:=by rw [sH] at bo;cases bo;rfl
   subst fv;exact ⟨yP,v,by rw [<-fP];exact kB o v hv,(gJ.mono hle (dJ.refl β)).pc yP⟩
  ·obtain ⟨h7,v,h8,h9⟩:=h.fz b o g hg;exact ⟨h7,v,h8,h9.mono hle (dJ.refl _)⟩
 ·rw [iz] at hj;split at hj
  ·rename_i fx;split at hj
   ·cases hj;subst fx
    refine ⟨x,xs,I,F,h3.mono hle (dJ.refl β),h4,fun b hb=>⟨fun o ho=>?_,fun o g ho hg=>?_⟩,aH _⟩
    ·rw [xh (by omega)];exact (h5 b hb).1 o (km (ru k h6) ho)
    ·rw [zM hb ho];exact hg
   ·cases hj
  ·rename_i fx;refine (h.ob j y hj).ext (Ext.refl w) (fun _ _ h=>h) hle (dJ.refl β) rfl (fun b o bo mq=>?_) (S:=jc);rw [xh];exact mq;rintro ⟨h7,_⟩;exact fx (h.dis i j b (dQ b h7) bo)
 ·rcases Cy hg with ⟨bo,_,_⟩ | ⟨_,hg⟩
  ·exact .inr (h.own i b (dQ b bo))
  ·exact h.kn b o g hg
end
mutual
def eN (f:Nat->Nat):GV->GV
 | .v x=>.v x
 | .U=>.U
 | .agg cs=>.agg (ng f cs)
 | .tup cs=>.tup (ng f cs)
 | .sl k rows=>.sl k rows
 | .box cs o=>.box cs o
 | .loc i o=>.loc (f i) o
 | .vec i n=>.vec (f i) n
 | .vp i n k idx off=>.vp (f i) n k idx off
 | .arr i o n=>.arr (f i) o n
 | .fn g a c=>.fn g (ng f a) (ng f c)
def ng (f:Nat->Nat):List GV->List GV
 | []=>[]
 | g::gs=>eN f g::ng f gs
end
theorem kP (f:Nat->Nat) (gs:List GV):ng f gs=gs.map (eN f):=by
 induction gs with
 | nil=>rfl
 | cons g gs ih=>simp [ng,ih]
theorem Rel.Dh {K:Fz} {β:Bt} {f:Nat->Nat} {x:Value} {g:GV} (h:Rel K (fun j=>β (f j)) x g):Rel K β x (eN f g):=by
 induction h with
 | v x=>exact .v x
 | U x=>exact .U x
 | agg vs cs hl h ih =>
  rw [eN,kP]
  refine .agg vs _ (by simpa using hl) fun i v g I F=>?_
  rw [aV] at F
  cases hc:cs[i]? with
  | none=>rw [hc] at F;cases F
  | some c=>rw [hc] at F;cases F;exact ih i v c I hc
 | tup vs cs hl h ih =>
  rw [eN,kP]
  refine .tup vs _ (by simpa using hl) fun i v g I F=>?_
  rw [aV] at F
  cases hc:cs[i]? with
  | none=>rw [hc] at F;cases F
  | some c=>rw [hc] at F;cases F;exact ih i v c I hc
 | sl0 a c k=>exact .sl0 a c k
 | sl b o c k rows h hc=>exact .sl b o c k rows h hc
 | box b o' o cs h=>exact .box b o' o cs h
 | loc i o b h=>exact .loc _ o b h
 | vec i n a c h=>exact .vec _ n a c h
 | vp i n k idx off x h=>exact .vp _ n k idx off x h
 | arr i o n b c h=>exact .arr _ o n b c h
 | fn g xs ys first cap hl jY h h' ih ih' =>
  rw [eN,kP,kP];refine .fn g xs ys _ _ (by simpa using hl) (by simpa using jY) (fun i v g I F=>?_) (fun i v g I F=>?_)
  ·rw [aV] at F
   cases hc:first[i]? with
   | none=>rw [hc] at F;cases F
   | some c=>rw [hc] at F;cases F;exact ih i v c I hc
  ·rw [aV] at F
   cases hc:cap[i]? with
   | none=>rw [hc] at F;cases F
   | some c=>rw [hc] at F;cases F;exact ih' i v c I hc
theorem Rel.C3 {K:Fz} {β:Bt} {f:Nat->Nat} {x:Value} {g:GV} (h:Rel K β x (eN f g)):Rel K (fun j=>β (f j)) x g:=by
 generalize he:eN f g=g' at h
 induction h generalizing g with
 | v x =>
  cases g <;> simp only [eN] at he <;> first | (cases he;done) | skip
  cases he;exact .v x
 | U x =>
  cases g <;> simp only [eN] at he <;> first | (cases he;done) | skip
  exact .U x
 | agg vs cs hl h ih =>
  cases g <;> simp only [eN] at he <;> first | (cases he;done) | skip
  rename_i ds;rw [kP] at he;cases he
  exact .agg vs ds (by simpa using hl) fun i v g I F=>ih i v (eN f g) I (by rw [aV,F];rfl) rfl
 | tup vs cs hl h ih =>
  cases g <;> simp only [eN] at he <;> first | (cases he;done) | skip
  rename_i ds;rw [kP] at he;cases he
  exact .tup vs ds (by simpa using hl) fun i v g I F=>ih i v (eN f g) I (by rw [aV,F];rfl) rfl
 | sl0 a c k =>
  cases g <;> simp only [eN] at he <;> first | (cases he;done) | skip
  cases he;exact .sl0 a c _
 | sl b o c k rows h hc =>
  cases g <;> simp only [eN] at he <;> first | (cases he;done) | skip
  cases he;exact .sl b o c k rows h hc
 | box b o' o cs h =>
  cases g <;> simp only [eN] at he <;> first | (cases he;done) | skip
  cases he;exact .box b o' o cs h
 | loc i o b h =>
  cases g <;> simp only [eN] at he <;> first | (cases he;done) | skip
  cases he;exact .loc _ o b h
 | vec i n a c h =>
  cases g <;> simp only [eN] at he <;> first | (cases he;done) | skip
  cases he;exact .vec _ n a c h
 | vp i n k idx off x h =>
  cases g <;> simp only [eN] at he <;> first | (cases he;done) | skip
  cases he;exact .vp _ n k idx off x h
 | arr i o n b c h =>
  cases g <;> simp only [eN] at he <;> first | (cases he;done) | skip
  cases he;exact .arr _ o n b c h
 | fn g' xs ys first cap hl jY h h' ih ih' =>
  cases g <;> simp only [eN] at he <;> first | (cases he;done) | skip
  rename_i f' ds es;rw [kP,kP] at he;cases he;exact .fn _ xs ys ds es (by simpa using hl) (by simpa using jY) (fun i v g I F=>ih i v (eN f g) I (by rw [aV,F];rfl) rfl)
   (fun i v g I F=>ih' i v (eN f g) I (by rw [aV,F];rfl) rfl)
mutual
def GV.ok (p:Nat->Bool):GV->Bool
 | .loc i _=>p i
 | .vec i _=>p i
 | .vp i _ _ _ _=>p i
 | .arr i _ _=>p i
 | .agg cs=>Fq p cs
 | .tup cs=>Fq p cs
 | .fn _ a c=>Fq p a&&Fq p c
 | .v _=>true
 | .U=>true
 | .sl _ _=>true
 | .box _ _=>true
def Fq (p:Nat->Bool):List GV->Bool
 | []=>true
 | g::gs=>GV.ok p g&&Fq p gs
end
def below (n:Nat):Nat->Bool:=fun i=>Nat.blt i n
def other (n:Nat):Nat->Bool:=fun i=>!Nat.beq i n
abbrev GV.lt (n:Nat) (g:GV):Bool:=g.ok (below n)
theorem wE {p:Nat->Bool} {gs:List GV} (h:Fq p gs=true) {g:GV} (hg:g∈gs):g.ok p=true:=by
 induction gs with
 | nil=>cases hg
 | cons x gs ih =>
  simp only [Fq,aE] at h
  rcases ei hg with rfl | hg
  ·exact h.1
  ·exact ih h.2 hg
theorem Rel.res {K:Fz} {β:Bt} {p:Nat->Bool} {x:Value} {g:GV} (h:Rel K β x g) (hl:g.ok p=true):Rel K (fU p β) x g:=by
 induction h with
 | v x=>exact .v x
 | U x=>exact .U x
 | agg vs cs ow h ih=>simp only [GV.ok] at hl;exact .agg vs cs ow fun i v g I F=>ih i v g I F (wE hl (bm F))
 | tup vs cs ow h ih=>simp only [GV.ok] at hl;exact .tup vs cs ow fun i v g I F=>ih i v g I F (wE hl (bm F))
 | sl0 a c k=>exact .sl0 a c k
 | sl b o c k rows h hc=>exact .sl b o c k rows h hc
 | box b o' o cs h=>exact .box b o' o cs h
 | loc i o b h=>simp only [GV.ok] at hl;exact .loc _ o b (by rw [iQ hl,h])
 | vec i m a c h=>simp only [GV.ok] at hl;exact .vec _ m a c (by rw [iQ hl];exact h)
 | vp i m k idx off x h=>simp only [GV.ok] at hl;exact .vp _ m k idx off x (by rw [iQ hl];exact h)
 | arr i o m b c h=>simp only [GV.ok] at hl;exact .arr _ o m b c (by rw [iQ hl,h])
 | fn g' xs ys first cap ow jY h h' ih ih' =>
  simp only [GV.ok,aE] at hl
  exact .fn _ xs ys first cap ow jY (fun i v g I F=>ih i v g I F (wE hl.1 (bm F))) (fun i v g I F=>ih' i v g I F (wE hl.2 (bm F)))
def Ob.ok (p:Nat->Bool):Ob->Bool
 | .box _ cs=>Fq p cs
 | _=>true
def Ob.eN (f:Nat->Nat):Ob->Ob
 | .box E cs=>.box E (ng f cs)
 | x=>x
def Kr (p:Nat->Bool):List Ob->Bool
 | []=>true
 | x::r=>Ob.ok p x&&Kr p r
abbrev AP (n:Nat) (Γ:List Ob):Bool:=Kr (below n) Γ
theorem Ks {p:Nat->Bool} {gs:List Ob} (h:Kr p gs=true) {g:Ob} (hg:g∈gs):g.ok p=true:=by
 induction gs with
 | nil=>cases hg
 | cons x gs ih =>
  simp only [Kr,aE] at h
  rcases ei hg with rfl | hg
  ·exact h.1
  ·exact ih h.2 hg
def Mh (p:Nat->Bool):List GV->List GV
 | []=>[]
 | g::gs=>(match GV.ok p g with | true=>g | false=>.U)::Mh p gs
abbrev Vj (n:Nat) (fr:List GV):List GV:=Mh (below n) fr
theorem FR.res {K:Fz} {β:Bt} {p:Nat->Bool} {fr:List GV} {l:List Value} (h:FR K β fr l):FR K (fU p β) (Mh p fr) l:=by
 induction h with
 | nil=>exact .nil
 | cons h t ih =>
  rw [Mh];split
  ·rename_i hl;exact .cons (h.res hl) ih
  ·exact .cons (.U _) ih
theorem lj.res {K:Fz} {β:Bt} {w:World} {p:Nat->Bool} {i:Nat} {x:Ob} (h:lj K β w i x) (hi:p i=true) (hx:x.ok p=true):lj K (fU p β) w i x:=by
 cases x with
 | gone=>simp only [lj] at h |-;rw [iQ hi,h]
 | box E cs =>
  obtain ⟨b,vs,I,F,h3,h4⟩:=h;exact ⟨b,vs,by rw [iQ hi,I],F,⟨h3.1,fun i v g h5 h6=>(h3.2 i v g h5 h6).res (wE hx (bm h6))⟩,h4⟩
 | vec E k fz rows =>
  obtain ⟨h0,xs,I,F,h3,h4,h5⟩:=h;refine ⟨h0,xs,by rw [iQ hi,I],F,⟨h3.1,fun i v g h6 h7=>(h3.2 i v g h6 h7).pc ?_⟩,h4,h5⟩;obtain ⟨r,lg,eE⟩:=List.mem_flatten.1 (bm h7);exact (h4 r lg).2 g eE
 | vech E k rows x =>
  obtain ⟨xs,I,F,h3,h4,h5⟩:=h;refine ⟨xs,by rw [iQ hi,I],F,⟨h3.1,fun i v g h6 h7=>(h3.2 i v g h6 h7).pc ?_⟩,h4,h5⟩;obtain ⟨r,lg,eE⟩:=List.mem_flatten.1 (bm h7);exact (h4 r lg).2 g eE
 | lost=>exact fun b hb=>h b (by rw [iQ hi] at hb;exact hb)
 | blk b q=>exact ⟨by rw [iQ hi,h.1],h.2⟩
section
variable {B:Bs} {K:Fz} {β:Bt} {Γ:List Ob} {w:World}
theorem zy {n i:Nat} (h:i < n):below n i=true:=by simpa [below] using h
theorem zx {n i:Nat} (h:n<=i):below n i=false:=by
 cases hb:below n i with
 | false=>rfl
 | true=>simp [below] at hb;omega
theorem Inv.cut {n:Nat} (h:Inv B K β Γ w) (hm:B.m<=n) (hl:AP n (Γ.take n)=true):Inv B K (fU (below n) β) (Γ.take n) w:=by
 have eA:∀ i b,(fU (below n) β i).blk=some b->(β i).blk=some b:=fun i b hi=>by
  simp only [fU] at hi;split at hi
  ·exact hi
  ·cases hi
 refine ⟨h.ext,h.kle,fun i=>?_,h.loc,h.fz,fun i x hi=>?_,fun i hi=>?_,fun i j b hi hj=>h.dis i j b (eA i b hi) (eA j b hj),fun i b hi=>h.own i b (eA i b hi),h.kn,h.tab.step (S:=jc) (Ext.refl w) (fun _ h=>h.elim) (c6.refl K) (fun i b2 F=>.inl ⟨i,eA i b2 F⟩)⟩
 ·by_cases kC:i < n
  ·rw [iQ (zy kC)];exact h.ble i
  ·rw [h.loc i (by omega)];trivial
 ·have ar:=Ks hl (bm hi);rw [getElem?_take] at hi;split at hi
  ·rename_i kC;exact (h.ob i x hi).res (zy kC) ar
  ·cases hi
 ·by_cases kC:i < n
  ·rw [iQ (zy kC)];exact h.out i (by simp at hi;omega)
  ·exact tR (zx (by omega))
theorem Kw {i:Nat}:other i i=false:=by simp [other]
theorem wF {i j:Nat} (h:j≠i):other i j=true:=by
 cases hb:Nat.beq j i with
 | false=>simp [other,hb]
 | true=>exact absurd (Nat.eq_of_beq_eq_true hb) h
theorem Inv.freeze {i:Nat} {E:TypeId} {cs:List GV} (h:Inv B K β Γ w) (hi:Γ[i]?=some (.box E cs)) (hp:∀ g∈cs,g.pc=true) (bX:Kr (other i) (Γ.set i .gone)=true) (hm:B.m<=i) :
  ∃ K',c6 K K'/\(∀ b,β i=.fix b->∀ (j:Nat) g,cs[j]?=some g->K' b j=some g)/\Inv B K' (fU (other i) β) (Γ.set i .gone) w:=by
 obtain ⟨b,vs,I,F,h3,h4⟩:=h.ob i _ hi
 have dQ:(β i).blk=some b:=by rw [I];rfl
 have hle:c6 K (mn K b cs):=fun b' o g hg=>by
  by_cases hb:b'=b
  ·subst hb;rw [h4] at hg;cases hg
  ·simp [mn,hb,hg]
 have eA:∀ j b',(fU (other i) β j).blk=some b'->j≠i/\(β j).blk=some b':=fun j b' hj=>by
  by_cases pd:j=i
  ·subst pd;rw [tR Kw] at hj;cases hj
  ·rw [iQ (wF pd)] at hj;exact ⟨pd,hj⟩
 refine ⟨mn K b cs,hle,fun b' bo j g hg=>?_,h.ext,h.kle.trans hle,fun j=>?_,h.loc,fun b' o g hg=>?_,fun j x hj=>?_,fun j hj=>?_,fun j j' b' hj mJ=>?_,fun j b' hj=>?_,fun b' o g hg=>?_,h.tab.step (S:=jc) (Ext.refl w) (fun _ h=>h.elim) hle (fun i b2 F=>.inl ⟨i,(eA i b2 F).2⟩)⟩
 ·rw [I] at bo;cases bo;exact zu hg
 ·by_cases pd:j=i
  ·subst pd;rw [h.loc j hm];trivial
  ·rw [iQ (wF pd)];exact h.ble j
 ·by_cases hb:b'=b
  ·subst hb;simp [mn] at hg;obtain ⟨v,hv,gJ⟩:=h3.at hg;have yP:=hp g (bm hg);exact ⟨yP,v,w9 F (by simpa using hv),(gJ.mono hle (dJ.refl β)).pc yP⟩
  ·have la:K b' o=some g:=by simpa [mn,hb] using hg
   obtain ⟨h5,v,h6,h7⟩:=h.fz b' o g la;exact ⟨h5,v,h6,h7.mono hle (dJ.refl _)⟩
 ·have eT:=Ks bX (bm hj);rw [iz] at hj;split at hj
  ·rename_i fx;split at hj
   ·cases hj;subst fx;exact tR Kw
   ·cases hj
  ·rename_i fx;refine lj.res ?_ (wF (fun he=>fx he.symm)) eT;refine (h.ob j x hj).ext (Ext.refl w) (fun _ _ h=>h) hle (dJ.refl β) rfl (fun b' o bo hk=>?_) (S:=jc)
   have:b'≠b:=fun he=>by subst he;exact fx (h.dis i j _ dQ bo)
   simp [mn,this,hk]
 ·have:i < Γ.length:=(bh hi).1
  have mJ:Γ.length<=j:=by simpa using hj
  rw [iQ (wF (by omega))];exact h.out j mJ
 ·exact h.dis j j' b' (eA j b' hj).2 (eA j' b' mJ).2
 ·exact h.own j b' (eA j b' hj).2
 ·by_cases hb:b'=b
  ·subst hb;exact .inr (h.own i _ dQ)
  ·exact h.kn b' o g (by simpa [mn,hb] using hg)
end
abbrev eu:=Exit->List GV->List Ob->Prop
def gl (B:Bs) (Q:eu):ml:=fun e l w=>∃ K β fr Γ,Inv B K β Γ w/\FR K β fr l/\Q e fr Γ
def GW (P:Program) (m:Nat) (c:Code) (Q:eu) (fr:List GV) (Γ:List Ob):Prop :=
 ∀ B K β w l,B.m=m->Inv B K β Γ w->FR K β fr l->W P c (gl B Q) l w
def GL (P:Program) (m:Nat) (ops:Array Oper) (Q:eu) (rest:List Oper) (fr:List GV) (Γ:List Ob):Prop :=
 ∀ B K β w l,B.m=m->Inv B K β Γ w->FR K β fr l->WL P ops (gl B Q) rest l w
def ba (next:List GV->List Ob->Prop) (Q:eu):eu
 | .normal,fr,Γ=>next fr Γ
 | e,fr,Γ=>Q e fr Γ
def bc (id:Nat) (Q:eu):eu
 | .exit x8,fr,Γ=>if x8=id then Q .normal fr Γ else Q (.exit x8) fr Γ
 | e,fr,Γ=>Q e fr Γ
def Wk (m:Nat) (fr:List GV) (Γ:List Ob) (cl:List GV) (aS:List Ob):Prop :=
 ∀ B K β w l,B.m=m->Inv B K β Γ w->FR K β fr l->∃ K' ca,Inv B K' ca aS w/\FR K' ca cl l
section
variable {P:Program} {m:Nat} {Q:eu} {fr:List GV} {Γ:List Ob} {ops:Array Oper} {rest:List Oper}
theorem Wk.trans {cl NI:List GV} {aS Tt:List Ob} (h:Wk m fr Γ cl aS) (k:Wk m cl aS NI Tt):Wk m fr Γ NI Tt:=fun B K β w l hm hI hF=>by
 obtain ⟨K',ca,bA,we⟩:=h B K β w l hm hI hF;exact k B K' ca w l hm bA we
theorem GW.wk {c:Code} {cl:List GV} {aS:List Ob} (h:Wk m fr Γ cl aS) (k:GW P m c Q cl aS):GW P m c Q fr Γ:=fun B K β w l hm hI hF=>by
 obtain ⟨K',ca,bA,we⟩:=h B K β w l hm hI hF;exact k B K' ca w l hm bA we
theorem GL.wk {cl:List GV} {aS:List Ob} (h:Wk m fr Γ cl aS) (k:GL P m ops Q rest cl aS):GL P m ops Q rest fr Γ:=fun B K β w l hm hI hF=>by
 obtain ⟨K',ca,bA,we⟩:=h B K β w l hm hI hF;exact k B K' ca w l hm bA we
theorem Wk.cut {n:Nat} (hm:m<=n) (hl:AP n (Γ.take n)=true):Wk m fr Γ (Vj n fr) (Γ.take n):=fun B K β w l hB hI hF =>
 ⟨K,fU (below n) β,hI.cut (by omega) hl,hF.res⟩
inductive ud:List GV->List GV->Prop
 | nil:ud [] []
 | U {f:GV} {fs gs:List GV} (h:ud fs gs):ud (f::fs) (.U::gs)
 | eq {f g:GV} {fs gs:List GV} (he:f=g) (h:ud fs gs):ud (f::fs) (g::gs)
theorem FR.aaE {K:Fz} {β:Bt} {l:List Value} {fr cl:List GV} (h:ud fr cl) (k:FR K β fr l):FR K β cl l:=by
 induction h generalizing l with
 | nil=>exact k
 | U h ih=>cases k with | cons k1 k2=>exact .cons (.U _) (ih k2)
 | eq he h ih=>subst he;cases k with | cons k1 k2=>exact .cons k1 (ih k2)
theorem Wk.aK {cl:List GV} (h:ud fr cl):Wk m fr Γ cl Γ:=fun B K β w l _ hI hF=>⟨K,β,hI,hF.aaE h⟩
theorem GW.seq {x y:Code} (h:GW P m x (ba (GW P m y Q) Q) fr Γ):GW P m (.seq x y) Q fr Γ:=fun B K β w l hm hI hF=>by
 refine W.seq (W.mono (h B K β w l hm hI hF) ?_);rintro e l w ⟨K,β,fr,Γ,hI,hF,hq⟩
 cases e with
 | normal=>exact hq B K β w l hm hI hF
 | _=>exact ⟨K,β,fr,Γ,hI,hF,hq⟩
theorem GW.skip (h:Q .normal fr Γ):GW P m .skip Q fr Γ:=fun B K β w l hm hI hF=>W.skip ⟨K,β,fr,Γ,hI,hF,h⟩
theorem GW.exit {n:Nat} (h:Q (.exit n) fr Γ):GW P m (.exit n) Q fr Γ:=fun B K β w l hm hI hF=>W.exit ⟨K,β,fr,Γ,hI,hF,h⟩
theorem GW.ret (h:Q .ret fr Γ):GW P m .ret Q fr Γ:=fun B K β w l hm hI hF=>W.ret ⟨K,β,fr,Γ,hI,hF,h⟩
theorem GW.block {id:Nat} {c:Code} (h:GW P m c (bc id Q) fr Γ):GW P m (.block id c) Q fr Γ:=fun B K β w l hm hI hF=>by
 refine W.block (W.mono (h B K β w l hm hI hF) ?_);rintro e l w ⟨K,β,fr,Γ,hI,hF,hq⟩
 cases e with
 | exit x8 =>
  simp only [bc] at hq;simp only [Ws];split <;> rename_i hh
  ·rw [ae hh] at hq;exact ⟨K,β,fr,Γ,hI,hF,hq⟩
  ·rw [ab hh] at hq;exact ⟨K,β,fr,Γ,hI,hF,hq⟩
 | _=>exact ⟨K,β,fr,Γ,hI,hF,hq⟩
theorem Rel.gy {K:Fz} {β:Bt} {x a:Value} (h:Rel K β x (.v a)):x=a:=by cases h;rfl
theorem FR.ij {K:Fz} {β:Bt} {l:List Value} {x:Operand} {a:Value} (h:FR K β fr l) (hx:a6 fr x=.v a):Xw.ev l x=a:=Rel.gy (by rw [<-hx];exact h.ev x)
theorem GW.cond {c:Operand} {x y:Code} {t:Bool} (hc:a6 fr c=.v (.bool t)) (ht:t=true->GW P m x Q fr Γ) (hf:t=false->GW P m y Q fr Γ):GW P m (.cond c x y) Q fr Γ:=fun B K β w l hm hI hF =>
 W.cond (hF.ij hc) (fun h=>ht h B K β w l hm hI hF) (fun h=>hf h B K β w l hm hI hF)
theorem R0 {c:Operand} {x y:Code} {t:Bool} (hc:a6 fr c=.v (.bool t)) (ht:t=true) (h:GW P m x Q fr Γ):GW P m (.cond c x y) Q fr Γ:=GW.cond hc (fun _=>h) (fun F=>by rw [ht] at F;cases F)
theorem RZ {c:Operand} {x y:Code} {t:Bool} (hc:a6 fr c=.v (.bool t)) (ht:t=false) (h:GW P m y Q fr Γ):GW P m (.cond c x y) Q fr Γ:=GW.cond hc (fun F=>by rw [ht] at F;cases F) (fun _=>h)
theorem GW.mono {c:Code} {Q':eu} (h:GW P m c Q fr Γ) (hq:∀ e fr Γ,Q e fr Γ->Q' e fr Γ):GW P m c Q' fr Γ:=fun B K β w l hm hI hF =>
 W.mono (h B K β w l hm hI hF) fun e l w ⟨K,β,fr,Γ,hI,hF,q⟩=>⟨K,β,fr,Γ,hI,hF,hq _ _ _ q⟩
def Ak (m:Nat) (K:List GV->List Ob->Prop) (fr:List GV) (Γ:List Ob):Prop:=∃ cl aS,Wk m fr Γ cl aS/\K cl aS
theorem GW.loop {c:Code} {α:Type} (μ:α->Nat) (abf:α->List GV->List Ob->Prop) (x:α) (h0:Ak m (abf x) fr Γ)
  (round:∀ x fr Γ,abf x fr Γ->GW P m c (ba (fun cl aS=>∃ y,Ak m (abf y) cl aS/\μ y < μ x) Q) fr Γ):GW P m (.loop c) Q fr Γ:=fun B K β w l hm hI hF=>by
 obtain ⟨cl,aS,hw,h0⟩:=h0;obtain ⟨K',ca,bA,we⟩:=hw B K β w l hm hI hF;refine W.loop μ (fun x l w=>∃ K β fr Γ,Inv B K β Γ w/\FR K β fr l/\abf x fr Γ) x ⟨K',ca,cl,aS,bA,we,h0⟩ ?_;rintro x l w ⟨K,β,fr,Γ,hI,hF,hi⟩;refine W.mono (round x fr Γ hi B K β w l hm hI hF) ?_;rintro e l w ⟨K,β,fr,Γ,hI,hF,hq⟩
 cases e with
 | normal =>
  obtain ⟨y,⟨cl,aS,hw,hy⟩,ar⟩:=hq;obtain ⟨K',ca,bA,we⟩:=hw B K β w l hm hI hF;exact ⟨y,⟨K',ca,cl,aS,bA,we,hy⟩,ar⟩
 | _=>exact ⟨K,β,fr,Γ,hI,hF,hq⟩
theorem GW.region {id:Nat} {ol:List Oper} (h:GL P m ol.toArray Q ol fr Γ):GW P m (.region id ol.toArray false) Q fr Γ:=fun B K β w l hm hI hF=>W.region (h B K β w l hm hI hF)
theorem GL.nil (h:Q .normal fr Γ):GL P m ops Q [] fr Γ:=fun B K β w l hm hI hF=>WL.nil ⟨K,β,fr,Γ,hI,hF,h⟩
end
section
variable {next:List GV->List Ob->Prop} {Q:eu} {fr:List GV} {Γ:List Ob} {id x8:Nat}
theorem be (h:next fr Γ):ba next Q .normal fr Γ:=h
theorem G5 (h:Q (.exit id) fr Γ):ba next Q (.exit id) fr Γ:=h
theorem nu (h:Q .ret fr Γ):ba next Q .ret fr Γ:=h
theorem jf (h:Q .normal fr Γ):bc id Q .normal fr Γ:=h
theorem nt (h:Q .ret fr Γ):bc id Q .ret fr Γ:=h
theorem JW (h:Q .normal fr Γ):bc id Q (.exit id) fr Γ:=by simpa [bc] using h
theorem TY (hn:(x8==id)=false) (h:Q (.exit x8) fr Γ):bc id Q (.exit x8) fr Γ:=by
 simp only [bc];rw [ab (by simpa using hn)];exact h
end
def GC (P:Program) (f:FuncId) (gs:List GV) (Γ:List Ob) (R:GV->List Ob->Prop):Prop :=
 ∀ B K β w vs,B.m=Γ.length->Inv B K β Γ w->bg K β vs gs->nm P f vs w fun v w'=>∃ K' ca g aS,Inv B K' ca aS w'/\Rel K' ca v g/\R g aS
abbrev GF (P:Program) (f:FuncId) (gs:List GV) (Γ:List Ob) (g:GV) (aS:List Ob):Prop:=GC P f gs Γ fun x Δ=>x=g/\Δ=aS
theorem GC.mono {P:Program} {f:FuncId} {gs:List GV} {Γ:List Ob} {R R':GV->List Ob->Prop} (h:GC P f gs Γ R) (hr:∀ g Γ,R g Γ->R' g Γ):GC P f gs Γ R':=fun B K β w vs hm hI hF =>
 (h B K β w vs hm hI hF).mono fun v w' ⟨K',ca,g,aS,I,F,h3⟩=>⟨K',ca,g,aS,I,F,hr _ _ h3⟩
def G4:Nat->List GV
 | 0=>[]
 | n+1=>.v undef::G4 n
def yz:List GV->Nat->List GV
 | [],n=>G4 n
 | a::r,n=>a::yz r (n - 1)
theorem FR.HV {K:Fz} {β:Bt} (n:Nat):FR K β (G4 n) (HV n):=by
 induction n with
 | zero=>exact .nil
 | succ n ih=>exact .cons (.v _) ih
theorem FR.frame {K:Fz} {β:Bt} {vs:List Value} {gs:List GV} (h:bg K β vs gs) (n:Nat):FR K β (yz gs n) (frame vs n):=by
 induction gs generalizing vs n with
 | nil =>
  have:vs=[]:=gQ h.1;subst this;exact FR.HV n
 | cons g gs ih =>
  cases vs with
  | nil=>have:=h.1;simp at this
  | cons v vs=>obtain ⟨I,F⟩:=h.oJ;exact .cons I (ih F _)
def xY (P:Program) (fn:Func) (m:Nat) (R:GV->List Ob->Prop):eu:=fun e fr Γ =>
 (e=.normal\/e=.ret)/\∀ B K β w l,B.m=m->Inv B K β Γ w->FR K β fr l->∃ v K' ca g aS,(results fn l.toArray).run P w=.ok v w/\Inv B K' ca aS w/\Rel K' ca v g/\R g aS
theorem GC.enter {P:Program} {f:FuncId} {fn:Func} {c:Code} {gs:List GV} {Γ:List Ob} {R:GV->List Ob->Prop} {n:Nat} {fr:List GV}
  (hf:P.funcs[f]?=some fn) (hn:fn.ntmps=n) (hb:fn.body=some c) (hl:yz gs n=fr) (h:GW P Γ.length c (xY P fn Γ.length R) fr Γ):GC P f gs Γ R:=fun B K β w vs hm hI hF=>by
 subst hl;refine nm.enter hf hn hb rfl (W.mono (h B K β w _ hm hI (FR.frame hF n)) ?_);rintro e l w ⟨K,β,fr,Γ,hI,hF,he,hq⟩;obtain ⟨v,K',ca,g,aS,I,F,h3,h4⟩:=hq B K β w l hm hI hF
 rcases he with rfl | rfl
 ·exact ⟨v,I,K',ca,g,aS,F,h3,h4⟩
 ·exact ⟨v,I,K',ca,g,aS,F,h3,h4⟩
section
variable {P:Program} {fn:Func} {m:Nat} {R:GV->List Ob->Prop} {fr:List GV} {Γ:List Ob} {e:Exit}
theorem Vz {n:Nat} (hr:fn.results=#[]) (he:e=.normal\/e=.ret) (hm:m<=n) (hl:AP n (Γ.take n)=true) (h:R (.tup []) (Γ.take n)):xY P fn m R e fr Γ :=
 ⟨he,fun B K β w l hB hI hF=>⟨.tuple #[],K,fU (below n) β,.tup [],Γ.take n,by rw [results_none hr],hI.cut (by omega) hl,.tup [] [] rfl (fun i v g h=>by simp at h),h⟩⟩
theorem pk {n:Nat} {t:Tmp} {g:GV} (hr:fn.results=#[.tmp t]) (he:e=.normal\/e=.ret) (hg:dj fr t=g) (hm:m<=n) (hl:AP n (Γ.take n)=true) (lF:g.lt n=true) (h:R g (Γ.take n)):xY P fn m R e fr Γ :=
 ⟨he,fun B K β w l hB hI hF=>⟨nth l t,K,fU (below n) β,g,Γ.take n,by rw [results_tmp hr,lO],hI.cut (by omega) hl,by rw [<-hg] at lF |-;exact (hF.nth t).res lF,h⟩⟩
theorem VA {n:Nat} {t u:Tmp} {g g':GV} (hr:fn.results=#[.tmp t,.tmp u]) (he:e=.normal\/e=.ret) (hg:dj fr t=g) (la:dj fr u=g') (hm:m<=n) (hl:AP n (Γ.take n)=true) (lF:(GV.tup [g,g']).lt n=true) (h:R (.tup [g,g']) (Γ.take n)):xY P fn m R e fr Γ :=
 ⟨he,fun B K β w l hB hI hF=>⟨.tuple #[nth l t,nth l u],K,fU (below n) β,.tup [g,g'],Γ.take n,by rw [results_tmp2 hr,lO,lO],hI.cut (by omega) hl,by
  refine Rel.res ?_ lF;subst hg la;have hc:bg K β [nth l t,nth l u] [dj fr t,dj fr u]:=.cons (hF.nth t) (.cons (hF.nth u) .nil)
  exact .tup [nth l t,nth l u] _ hc.1 hc.2,h⟩⟩
theorem VB {n:Nat} {t u s:Tmp} {g g' g2:GV} (hr:fn.results=#[.tmp t,.tmp u,.tmp s]) (he:e=.normal\/e=.ret) (hg:dj fr t=g) (la:dj fr u=g') (ik:dj fr s=g2) (hm:m<=n) (hl:AP n (Γ.take n)=true) (lF:(GV.tup [g,g',g2]).lt n=true)
  (h:R (.tup [g,g',g2]) (Γ.take n)):xY P fn m R e fr Γ :=
 ⟨he,fun B K β w l hB hI hF=>⟨.tuple #[nth l t,nth l u,nth l s],K,fU (below n) β,.tup [g,g',g2],Γ.take n,by
   rw [<-lO l t,<-lO l u,<-lO l s];simp [results,hr],hI.cut (by omega) hl,by
  refine Rel.res ?_ lF;subst hg la ik;have hc:bg K β [nth l t,nth l u,nth l s] [dj fr t,dj fr u,dj fr s]:=.cons (hF.nth t) (.cons (hF.nth u) (.cons (hF.nth s) .nil))
  exact .tup [nth l t,nth l u,nth l s] _ hc.1 hc.2,h⟩⟩
theorem VC {n:Nat} {t:Tmp} {T:TypeId} {k:Nat} [hT:Ty P T true k] {i:Nat} {E:TypeId} {cs:List GV} (hr:fn.results=#[.cell t T]) (he:e=.normal\/e=.ret) (hg:dj fr t=.loc i 0) (bJ:Γ[i]?=some (.box E cs)) (hk:cs.length=k)
  (hm:m<=n) (hl:AP n (Γ.take n)=true) (lF:(GV.agg cs).lt n=true) (h:R (.agg cs) (Γ.take n)):xY P fn m R e fr Γ :=
 ⟨he,fun B K β w l hB hI hF=>by
  obtain ⟨b,vs,I,F,h3,h4⟩:=hI.ob i _ bJ
  have hp:nth l t=.pointer (some ⟨b,0,none⟩):=by
   have:=hF.nth t;rw [hg] at this;generalize nth l t=v at this
   cases this with
   | loc _ _ b' bo=>rw [I] at bo;cases bo;rfl
  have kp:l.toArray.getD t undef=.pointer (some ⟨b,0,none⟩):=by rw [lO,hp]
  have N8:=ri (P:=P) (w:=w) (t:=T) (b:=b) (o:=0) (vs:=vs) (k:=k) (by rw [h3.1,hk]) (fun j v hj=>by
   rw [fk,cell_of_row w b j _ E (0,0) F];simpa using hj)
  have Hj:l[t]?.getD undef=.pointer (some ⟨b,0,none⟩):=by simpa using kp
  exact ⟨.agg vs.toArray,K,fU (below n) β,.agg cs,Γ.take n,by simp [results,hr,Hj,asAddr,N8],hI.cut (by omega) hl,Rel.res (.agg vs cs h3.1 h3.2) lF,h⟩⟩
end
def YG (P:Program) (op:Op) (fr:List GV) (Γ:List Ob) (g:GV):Prop :=
 ∀ B K β w l,Inv B K β Γ w->FR K β fr l->∃ v,eU P l w op v/\Rel K β v g
section
variable {P:Program} {m:Nat} {Q:eu} {fr:List GV} {Γ:List Ob} {ops:Array Oper} {rest:List Oper} {d:Option Tmp} {op:Op} {ty:TypeId} {pos:String} {af:Array Edge}
theorem GL.q {g:GV} (hy:YG P op fr Γ g) (h:GL P m ops Q rest (bz fr d g) Γ):GL P m ops Q (⟨d,op,ty,pos,af,none⟩::rest) fr Γ:=fun B K β w l hm hI hF=>by
 obtain ⟨v,hr,hv⟩:=hy B K β w l hI hF;exact WL.v hr (h B K β w _ hm hI (hF.put d hv))
theorem vb {cl:List GV} {aS:List Ob} (I:fr=cl) (F:Γ=aS) (h:GL P m ops Q rest cl aS):GL P m ops Q rest fr Γ:=by subst I;subst F;exact h
theorem GN {cl:List GV} (I:fr=cl) (h:GL P m ops Q rest cl Γ):GL P m ops Q rest fr Γ:=by subst I;exact h
theorem YG.v1 {x:Operand} {a v:Value} (hx:a6 fr x=.v a) (h:∀ l w,ev l x=a->eU P l w op v):YG P op fr Γ (.v v):=fun B K β w l hI hF=>⟨v,h l w (hF.ij hx),.v v⟩
theorem YG.v2 {x y:Operand} {a b v:Value} (hx:a6 fr x=.v a) (hy:a6 fr y=.v b) (h:∀ l w,ev l x=a->ev l y=b->eU P l w op v):YG P op fr Γ (.v v):=fun B K β w l hI hF=>⟨v,h l w (hF.ij hx) (hF.ij hy),.v v⟩
theorem YG.mv {x:Operand}:YG P (.move x) fr Γ (a6 fr x):=fun B K β w l hI hF=>⟨_,R.mv,hF.ev x⟩
theorem YG.xT {x:Operand}:YG P (.assign x) fr Γ (a6 fr x):=fun B K β w l hI hF=>⟨_,R.xT,hF.ev x⟩
theorem YG.DV {fn:Fn} {first cap:List Operand}:YG P (.makeFunc fn first.toArray cap.toArray) fr Γ (.fn fn (first.map (a6 fr)) (cap.map (a6 fr))):=fun B K β w l hI hF =>
 ⟨_,R.DV,by
  have I:=hF.args first
  have F:=hF.args cap
  simpa using Rel.fn fn _ _ _ _ I.1 F.1 I.2 F.2⟩
def DK:GV->Value
 | .v x=>x
 | _=>.nilFunc
def VE (ρ:Operand->Value) (op:Op):Option Value :=
 match op with
 | .binOp _ _ _ _ _=>go ρ op
 | .unOp _ _ _=>go ρ op
 | _=>none
theorem Ua {K:Fz} {β:Bt} {x:Value} {g:GV} (h:Rel K β x g):DK g=x\/DK g=.nilFunc:=by
 cases h <;> first | exact .inl rfl | exact .inr rfl
theorem YG.go {v:Value} (h:VE (fun x=>DK (a6 fr x)) op=some v):YG P op fr Γ (.v v):=fun B K β w l hI hF=>by
 refine ⟨v,T0 ?_,.v v⟩
 have key:∀ x,DK (a6 fr x)=ev l x\/DK (a6 fr x)=.nilFunc:=fun x=>Ua (hF.ev x)
 unfold VE at h;split at h
 ·rename_i o t x y t';simp only [Xw.go] at h |-
  rcases key x with hx | hx <;> rcases key y with hy | hy <;> rw [hx,hy] at h
  ·exact h
  ·cases hv:ev l x <;> rw [hv] at h <;> cases h
  ·cases h
  ·cases h
 ·rename_i o t x;simp only [Xw.go,xg] at h |-
  rcases key x with hx | hx <;> rw [hx] at h
  ·exact h
  ·cases o <;> simp only at h <;> cases h
 ·cases h
theorem YG.Td {c a b:Operand} {t:Bool} (hc:a6 fr c=.v (.bool t)) (ht:t=true):YG P (.pick c a b) fr Γ (a6 fr a):=fun B K β w l hI hF=>⟨_,R.Td (hF.ij hc) ht,hF.ev a⟩
theorem YG.Tc {c a b:Operand} {t:Bool} (hc:a6 fr c=.v (.bool t)) (ht:t=false):YG P (.pick c a b) fr Γ (a6 fr b):=fun B K β w l hI hF=>⟨_,R.Tc (hF.ij hc) ht,hF.ev b⟩
theorem YG.aaz {x:Operand} {i o:Nat} (hx:a6 fr x=.loc i o):YG P (.nilCheck x) fr Γ (.loc i o):=fun B K β w l hI hF=>by
 have h:=hF.ev x;rw [hx] at h;generalize hv:ev l x=v at h
 cases h with | loc _ _ b hb=>exact ⟨_,R.L8 hv,.loc i o b hb⟩
theorem YG.aay {x:Operand} {cs:List GV} {o:Nat} (hx:a6 fr x=.box cs o):YG P (.nilCheck x) fr Γ (.box cs o):=fun B K β w l hI hF=>by
 have h:=hF.ev x;rw [hx] at h;generalize hv:ev l x=v at h
 cases h with | box b o' _ _ hb=>exact ⟨_,R.L8 hv,.box b o' o cs hb⟩
theorem YG.QZ {x:Operand} {t:TypeId} [hT:qJ P t] {s:ah} (hx:a6 fr x=.v (sv s)):YG P (.call ⟨.builtin .len,#[x],#[t]⟩) fr Γ (.v (ii s.length)):=YG.v1 hx fun l w h=>R.QZ h
theorem YG.X8 {x:Operand} {t e:TypeId} {k:Nat} [hT:nT P t e k] {k':Nat} {rows:List (List GV)} (hx:a6 fr x=.sl k' rows):YG P (.call ⟨.builtin .len,#[x],#[t]⟩) fr Γ (.v (ii rows.length)):=fun B K β w l hI hF=>by
 have h:=hF.ev x;rw [hx] at h;generalize hv:ev l x=v at h
 cases h with
 | sl0 a c=>exact ⟨_,R.L3 hv,.v _⟩
 | sl b o c _ _ h _=>exact ⟨_,R.L3 hv,.v _⟩
theorem YG.aav {x:Operand} {t e:TypeId} {k:Nat} [hT:nT P t e k] {i n:Nat} (hx:a6 fr x=.vec i n):YG P (.call ⟨.builtin .len,#[x],#[t]⟩) fr Γ (.v (ii n)):=fun B K β w l hI hF=>by
 have h:=hF.ev x;rw [hx] at h;generalize hv:ev l x=v at h
 cases h with | vec _ _ a c h=>exact ⟨_,R.L3 hv,.v _⟩
theorem YG.aau {x:Operand} {t e:TypeId} {k:Nat} [hT:nT P t e k] {a:Option Addr} {n c:Nat} (hx:a6 fr x=.v (.slice a n c)):YG P (.call ⟨.builtin .len,#[x],#[t]⟩) fr Γ (.v (ii n)):=YG.v1 hx fun l w h=>R.L3 h
theorem YG.Gs {x y:Operand} {t t':TypeId} {a b:ah} (hx:a6 fr x=.v (sv a)) (hy:a6 fr y=.v (sv b)):YG P (.binOp .eql t x y t') fr Γ (.v (.bool (a==b))):=YG.v2 hx hy fun l w h k=>R.Gs h k
theorem YG.HL {x y:Operand} {t t':TypeId} {a b:ah} (hx:a6 fr x=.v (sv a)) (hy:a6 fr y=.v (sv b)):YG P (.binOp .neq t x y t') fr Γ (.v (.bool (!(a==b)))):=YG.v2 hx hy fun l w h k=>R.HL h k
theorem YG.uH {x y:Operand} {t:TypeId} [hT:qJ P t] {s:ah} {k:IntKind} {i:Nat} {c:UInt8} (hx:a6 fr x=.v (sv s)) (hy:a6 fr y=.v (.int k i)) (hc:s[i]?=some c):YG P (.index t x y) fr Γ (.v (.int .u8 c.toNat)):=YG.v2 hx hy fun l w h k=>R.uH h k hc
theorem YG.add {x y:Operand} {t t':TypeId} {a b:Int} (hx:a6 fr x=.v (ii a)) (hy:a6 fr y=.v (ii b)) (hb : -9223372036854775808<=a+b/\a+b<=9223372036854775807):YG P (.binOp .add t x y t') fr Γ (.v (ii (a+b))):=YG.v2 hx hy fun l w h k=>R.add h k hb.1 hb.2
theorem YG.dP {x y:Operand} {t t':TypeId} {a b:Nat} (hx:a6 fr x=.v (ii a)) (hy:a6 fr y=.v (ii b)) (hb:a+b<=9223372036854775807):YG P (.binOp .add t x y t') fr Γ (.v (ii ((a+b:Nat):Int))):=YG.v2 hx hy fun l w h k=>R.dP h k hb
theorem YG.yh {x y:Operand} {t t':TypeId} {a:Nat} (hx:a6 fr x=.v (ii a)) (hy:a6 fr y=.v (ii 1)) (hb:a+1<=9223372036854775807):YG P (.binOp .add t x y t') fr Γ (.v (ii ((a+1:Nat):Int))):=YG.v2 hx hy fun l w h k=>R.yh h k hb
theorem YG.sub {x y:Operand} {t t':TypeId} {a b:Int} (hx:a6 fr x=.v (ii a)) (hy:a6 fr y=.v (ii b)) (hb : -9223372036854775808<=a - b/\a - b<=9223372036854775807):YG P (.binOp .sub t x y t') fr Γ (.v (ii (a - b))):=YG.v2 hx hy fun l w h k=>R.sub h k hb.1 hb.2
theorem YG.mul {x y:Operand} {t t':TypeId} {a b:Int} (hx:a6 fr x=.v (ii a)) (hy:a6 fr y=.v (ii b)) (hb : -9223372036854775808<=a * b/\a * b<=9223372036854775807):YG P (.binOp .mul t x y t') fr Γ (.v (ii (a * b))):=YG.v2 hx hy fun l w h k=>R.mul h k hb.1 hb.2
theorem YG.cat {x y:Operand} {t t':TypeId} {a b:ah} (hx:a6 fr x=.v (sv a)) (hy:a6 fr y=.v (sv b)) (hb:a.length+b.length<=9223372036854775807):YG P (.binOp .add t x y t') fr Γ (.v (sv (a++b))):=YG.v2 hx hy fun l w h k=>R.cat h k hb
theorem YG.Ii {x:Operand} {t:TypeId} [hT:qJ P t] {s:ah} {lo hi:Operand} {k k':IntKind} {i j:Nat} (hx:a6 fr x=.v (sv s)) (jg:a6 fr lo=.v (.int k i)) (CG:a6 fr hi=.v (.int k' j)) (hb:i<=j/\j<=s.length):YG P (.slice t x (some lo) (some hi) none) fr Γ (.v (sv ((s.take j).drop i))) :=
 fun B K β w l hI hF=>⟨_,R.RB (hF.ij hx) ⟨k,hF.ij jg⟩ ⟨k',hF.ij CG⟩ hb.1 hb.2,.v _⟩
theorem YG.Ih {x:Operand} {t:TypeId} [hT:qJ P t] {s:ah} {lo:Operand} {k:IntKind} {i:Nat} (hx:a6 fr x=.v (sv s)) (jg:a6 fr lo=.v (.int k i)) (hb:i<=s.length):YG P (.slice t x (some lo) none none) fr Γ (.v (sv (s.drop i))) :=
 fun B K β w l hI hF=>⟨_,by
  have:=R.RB (P:=P) (w:=w) (l:=l) (t:=t) (lo:=some lo) (hi:=none) (i:=i) (j:=s.length) (hF.ij hx) ⟨k,hF.ij jg⟩ rfl hb (aH _);rw [cy] at this
  exact this,.v _⟩
theorem YG.Ig {x:Operand} {t:TypeId} [hT:qJ P t] {s:ah} {hi:Operand} {k:IntKind} {j:Nat} (hx:a6 fr x=.v (sv s)) (CG:a6 fr hi=.v (.int k j)) (hb:j<=s.length):YG P (.slice t x none (some hi) none) fr Γ (.v (sv (s.take j))) :=
 fun B K β w l hI hF=>⟨_,R.RB (P:=P) (w:=w) (l:=l) (t:=t) (lo:=none) (hi:=some hi) (i:=0) (j:=j) (hF.ij hx) rfl ⟨k,hF.ij CG⟩ (aX _) hb,.v _⟩
theorem YG.ext {x:Operand} {i:Nat} {cs:List GV} {g:GV} (hx:a6 fr x=.tup cs) (hg:cs[i]?=some g):YG P (.extract x i) fr Γ g:=fun B K β w l hI hF=>by
 have h:=hF.ev x;rw [hx] at h;generalize hv:ev l x=v at h
 cases h with
 | tup vs _ hl h =>
  have hi:i < vs.length:=by rw [hl];exact (bh hg).1
  exact ⟨vs[i],R.extract hv (by simp [hi]),h i _ g (by simp [hi]) hg⟩
theorem YG.xl {x y:Operand} {t e:TypeId} {k:Nat} [hT:nT P t e k] {rows:List (List GV)} {kk:IntKind} {i:Nat} {r:List GV} (hx:a6 fr x=.sl k rows) (hy:a6 fr y=.v (.int kk i)) (hr:rows[i]?=some r):YG P (.indexAddr t x y) fr Γ (.box r 0):=fun B K β w l hI hF=>by
 have h:=hF.ev x;rw [hx] at h;have hi:=(bh hr).1;generalize hv:ev l x=v at h
 cases h with
 | sl0 a c=>simp at hi
 | sl b o c _ _ h _=>exact ⟨_,R.yT hv (hF.ij hy) hi,.box b (o+i * k) 0 r (h i r hr).2⟩
theorem YG.Vv {x:Operand} {s:TypeId} {f off k:Nat} {agg:Bool} [hT:dz P s f off k agg] {i o:Nat} (hx:a6 fr x=.loc i o):YG P (.fieldAddr s x f) fr Γ (.loc i (o+off)):=fun B K β w l hI hF=>by
 have h:=hF.ev x;rw [hx] at h;generalize hv:ev l x=v at h
 cases h with | loc _ _ b hb=>exact ⟨_,R.Qn hv,.loc i _ b hb⟩
theorem YG.Vt {x:Operand} {s:TypeId} {f off k:Nat} {agg:Bool} [hT:dz P s f off k agg] {cs:List GV} {o:Nat} (hx:a6 fr x=.box cs o):YG P (.fieldAddr s x f) fr Γ (.box cs (o+off)):=fun B K β w l hI hF=>by
 have h:=hF.ev x;rw [hx] at h;generalize hv:ev l x=v at h
 cases h with | box b o' _ _ hb=>exact ⟨_,R.Qn hv,by rw [gW];exact .box b o' _ cs hb⟩
theorem YG.Zr {x:Operand} {t:TypeId} [hT:Ty P t false 1] {i o:Nat} {E:TypeId} {cs:List GV} {g:GV} (hx:a6 fr x=.loc i o) (bJ:Γ[i]?=some (.box E cs)) (hg:cs[o]?=some g):YG P (.load t x) fr Γ g:=fun B K β w l hI hF=>by
 have h:=hF.ev x;rw [hx] at h;generalize hv:ev l x=v at h
 cases h with
 | loc _ _ b hb =>
  obtain ⟨b',vs,I,F,h3,h4⟩:=hI.ob i _ bJ;rw [hb] at I;cases I;obtain ⟨u,hu,hr⟩:=h3.at hg;exact ⟨u,R.ld hv (w9 F (by simpa using hu)),hr⟩
theorem YG.Zp {x:Operand} {t:TypeId} [hT:Ty P t false 1] {cs:List GV} {o:Nat} {g:GV} (hx:a6 fr x=.box cs o) (hg:cs[o]?=some g):YG P (.load t x) fr Γ g:=fun B K β w l hI hF=>by
 have h:=hF.ev x;rw [hx] at h;generalize hv:ev l x=v at h
 cases h with
 | box b o' _ _ hb =>
  obtain ⟨hp,u,hu,hr⟩:=hI.fz _ _ _ (hb o g hg);exact ⟨u,R.ld hv hu,hr.pc hp⟩
theorem wJ {k:Nat} {rows:List (List GV)} (hk:gE k rows) {i j:Nat} {r:List GV} {g:GV} (hr:rows[i]?=some r) (hg:r[j]?=some g):rows.flatten[i * k+j]?=some g:=by
 induction rows generalizing i with
 | nil=>simp at hr
 | cons a rows ih =>
  have ha:a.length=k:=(hk a (mem_cons_self)).1
  cases i with
  | zero =>
   cases hr;have hj:=(bh hg).1;rw [Nat.zero_mul,fk,flatten_cons,kl hj];exact hg
  | succ i =>
   rw [flatten_cons,nk (by rw [ha,Nat.succ_mul];omega),ha];rw [show (i+1) * k+j - k=i * k+j by rw [Nat.succ_mul];omega];exact ih (fun r hr=>hk r (cV _ hr)) (by simpa using hr)
theorem YG.Wy {x:Operand} {t:TypeId} {k:Nat} [hT:Ty P t true k] {i o:Nat} {E:TypeId} {cs gs:List GV} (hx:a6 fr x=.loc i o) (bJ:Γ[i]?=some (.box E cs)) (hg:(cs.drop o).take k=gs) (hk:gs.length=k):YG P (.load t x) fr Γ (.agg gs):=fun B K β w l hI hF=>by
 have h:=hF.ev x;rw [hx] at h;generalize hv:ev l x=v at h
 cases h with
 | loc _ _ b hb =>
  obtain ⟨b',vs,I,F,h3,h4⟩:=hI.ob i _ bJ;rw [hb] at I;cases I;have h5:=(h3.drop o).take k;rw [hg] at h5;refine ⟨.agg ((vs.drop o).take k).toArray,R.Zs hv (by rw [h5.1,hk]) (fun j v hj=>?_),.agg _ _ h5.1 h5.2⟩;rw [getElem?_take] at hj;split at hj
  ·rw [getElem?_drop] at hj;exact w9 F (by simpa using hj)
  ·cases hj
theorem xb {K:Fz} {β:Bt} {H:Array Obj} {b:Nat}:∀ (gs:List GV) (o:Nat),(∀ (j:Nat) g,gs[j]?=some g->∃ v,gN H b (o+j)=some v/\Rel K β v g)->∃ vs:List Value,bg K β vs gs/\∀ (j:Nat) v,vs[j]?=some v->gN H b (o+j)=some v
 | [],o,_=>⟨[],.nil,fun j v h=>by simp at h⟩
 | g::gs,o,h=>by
  obtain ⟨v,hv,hr⟩:=h 0 g rfl;obtain ⟨vs,I,F⟩:=xb gs (o+1) (fun j g' hg=>by rw [show o+1+j=o+(j+1) by omega];exact h (j+1) g' hg);refine ⟨v::vs,.cons hr I,fun j u hj=>?_⟩
  cases j with
  | zero=>cases hj;exact hv
  | succ j=>rw [show o+(j+1)=o+1+j by omega];exact F j u hj
theorem YG.Wx {x:Operand} {t:TypeId} {k:Nat} [hT:Ty P t true k] {cs gs:List GV} {o:Nat} (hx:a6 fr x=.box cs o) (hg:(cs.drop o).take k=gs) (hk:gs.length=k):YG P (.load t x) fr Γ (.agg gs):=fun B K β w l hI hF=>by
 have h:=hF.ev x;rw [hx] at h;generalize hv:ev l x=v at h
 cases h with
 | box b o' _ _ hb =>
  obtain ⟨vs,I,F⟩:=xb (K:=K) (β:=β) (H:=w.heap) (b:=b) gs (o'+o) (fun j g hj=>by
   have mJ:cs[o+j]?=some g:=by
    rw [<-hg,getElem?_take] at hj;split at hj
    ·rw [getElem?_drop] at hj;exact hj
    ·cases hj
   obtain ⟨hp,u,hu,hr⟩:=hI.fz _ _ _ (hb (o+j) g mJ)
   exact ⟨u,by rw [gW];exact hu,hr.pc hp⟩)
  exact ⟨.agg vs.toArray,R.Zs hv (by rw [I.1,hk]) F,.agg _ _ I.1 I.2⟩
def oq:GV->Option (List GV)
 | .v x=>match Mb x with
  | true=>some [.v x]
  | false=>none
 | .agg cs=>some cs
 | .U=>none
 | .tup _=>none
 | .vp _ _ _ _ _=>none
 | .sl k rows=>some [.sl k rows]
 | .box cs o=>some [.box cs o]
 | .loc i o=>some [.loc i o]
 | .vec i n=>some [.vec i n]
 | .arr i o n=>some [.arr i o n]
 | .fn f a c=>some [.fn f a c]
def oT:List GV->Nat->List GV->List GV
 | cs,_,[]=>cs
 | cs,o,v::r=>oT (bH cs o v) (o+1) r
def zK (pl:Nat->Option (Nat × Nat)):List GV->List (Nat × GV)->Option (List GV)
 | cs,[]=>some cs
 | cs,(i,g)::r=>match pl i with
  | none=>none
  | some (o,k)=>match oq g with
   | none=>none
   | some gs=>if gs.length≠k || decide (o+gs.length > cs.length) then none else zK pl (oT cs o gs) r
theorem Rel.cells {K:Fz} {β:Bt} {x:Value} {g:GV} {gs:List GV} (h:Rel K β x g) (hg:oq g=some gs):∃ vs:List Value,x.cells=vs.toArray/\bg K β vs gs:=by
 have one:∀ {x:Value} {g:GV},Rel K β x g->x.cells=#[x]->∃ vs:List Value,x.cells=vs.toArray/\bg K β vs [g]:=fun hr hc=>⟨[_],hc,.cons hr .nil⟩
 cases h with
 | v x =>
  simp only [oq] at hg;split at hg
  ·rename_i ho;cases hg;exact one (.v _) (xG ho).1
  ·cases hg
 | U x=>cases hg
 | agg vs cs hl h=>cases hg;exact ⟨vs,rfl,hl,h⟩
 | tup vs cs hl h=>cases hg
 | sl0 a c k=>cases hg;exact one (.sl0 a c k) rfl
 | sl b o c k rows h hc=>cases hg;exact one (.sl b o c k rows h hc) rfl
 | box b o' o cs h=>cases hg;exact one (.box b o' o cs h) rfl
 | loc i o b h=>cases hg;exact one (.loc i o b h) rfl
 | vec i n a c h=>cases hg;exact one (.vec i n a c h) rfl
 | vp i n k idx off x h=>cases hg
 | arr i o n b c h=>cases hg;exact one (.arr i o n b c h) rfl
 | fn f xs ys first cap hl jY h h'=>cases hg;exact one (.fn f xs ys first cap hl jY h h') rfl
def n5:List GV->Bool
 | []=>true
 | g::gs=>g.one&&n5 gs
def uP:List GV->Bool
 | []=>true
 | g::gs=>g.pc&&uP gs
theorem nI {gs:List GV} (h:uP gs=true):∀ g∈gs,g.pc=true:=by
 induction gs with
 | nil=>intro g hg;cases hg
 | cons x gs ih =>
  simp only [uP,aE] at h;intro g hg
  rcases ei hg with rfl | hg
  ·exact h.1
  ·exact ih h.2 g hg
theorem bg.nc {K:Fz} {β:Bt} {vs:List Value} {gs:List GV} (h:bg K β vs gs) (ho:n5 gs=true):nc vs=true:=by
 induction gs generalizing vs with
 | nil=>have:vs=[]:=gQ h.1;subst this;rfl
 | cons g gs ih =>
  cases vs with
  | nil=>have:=h.1;simp at this
  | cons v vs =>
   simp only [n5,aE] at ho;obtain ⟨I,F⟩:=h.oJ;have h3:=(xG (I.one ho.1)).2;have h4:=ih F ho.2;simp only [Xw.nc,all_cons,aE] at h4 |-;exact ⟨h3,h4⟩
end
theorem bg.jG {K:Fz} {β:Bt} {us:List Value} {hs:List GV} (k:bg K β us hs):∀ {vs:List Value} {gs:List GV} (o:Nat),bg K β vs gs->bg K β (jG vs o us) (oT gs o hs):=by
 have hu:∀ {vs:List Value} {gs:List GV} (o:Nat) {v:Value} {g:GV},Rel K β v g->bg K β vs gs->bg K β (fS vs o v) (bH gs o g):=by
  intro vs
  induction vs with
  | nil =>
   intro gs o v g hv h;have:gs=[]:=gQ h.1.symm;subst this;exact .nil
  | cons x vs ih =>
   intro gs o v g hv h
   cases gs with
   | nil=>have:=h.1;simp at this
   | cons y gs =>
    obtain ⟨I,F⟩:=h.oJ
    cases o with
    | zero=>exact .cons hv F
    | succ o=>exact .cons I (ih o hv F)
 induction us generalizing hs with
 | nil =>
  intro vs gs o h;have:hs=[]:=gQ k.1.symm;subst this;exact h
 | cons u us ih =>
  intro vs gs o h
  cases hs with
  | nil=>have:=k.1;simp at this
  | cons g hs =>
   obtain ⟨I,F⟩:=k.oJ;exact ih F (o+1) (hu o I h)
theorem xf {K:Fz} {β:Bt} {pl:Nat->Option (Nat × Nat)} {l:List Value} {fr:List GV} (hF:FR K β fr l):∀ (parts:List (Nat × Operand)) (vs:List Value) (gs cs:List GV),bg K β vs gs ->
  zK pl gs (parts.map fun x=>(x.1,a6 fr x.2))=some cs->∃ us,qP pl vs (parts.map fun x=>(x.1,ev l x.2))=some us/\bg K β us cs
 | [],vs,gs,cs,h,hf=>by cases hf;exact ⟨vs,rfl,h⟩
 | (i,x)::r,vs,gs,cs,h,hf=>by
  simp only [List.map_cons,zK] at hf;simp only [List.map_cons,qP]
  cases hp:pl i with
  | none=>rw [hp] at hf;cases hf
  | some y =>
   obtain ⟨o,k⟩:=y;rw [hp] at hf;simp only at hf |-
   cases hg:oq (a6 fr x) with
   | none=>rw [hg] at hf;cases hf
   | some hs =>
    rw [hg] at hf;simp only at hf;obtain ⟨us,kq,kG⟩:=(hF.ev x).cells hg
    have cB:(ev l x).cells.size=hs.length:=by rw [kq];simpa using kG.1
    rw [cB,h.1];split at hf
    ·cases hf
    ·rename_i hc;rw [ab hc]
     have kE:(ev l x).cells.toList=us:=by rw [kq]
     rw [kE];exact xf hF r _ _ cs (kG.jG o h) hf
section
variable {P:Program} {m:Nat} {Q:eu} {fr:List GV} {Γ:List Ob} {ops:Array Oper} {rest:List Oper} {d:Option Tmp} {op:Op} {ty:TypeId} {pos:String} {af:Array Edge}
def kR (z:List Value):List GV:=z.map .v
theorem YG.build {t:TypeId} {pl:List (Nat × Nat)} {z:List Value} [hT:ua P t pl z] {parts:List (Nat × Operand)} {cs:List GV} (hf:zK (fun i=>pl[i]?) (kR z) (parts.map fun x=>(x.1,a6 fr x.2))=some cs) :
  YG P (.build t parts.toArray) fr Γ (.agg cs):=fun B K β w l hI hF=>by
 obtain ⟨us,I,F⟩:=xf hF parts z _ cs bg.self hf;exact ⟨_,R.build I,.agg us cs F.1 F.2⟩
theorem oA {K:Fz} {β:Bt} {l:List Value} {t:Nat} (h:FR K β fr l) (ht:kJ fr t=true):kJ l t=true:=by
 induction h generalizing t with
 | nil=>cases ht
 | cons _ _ ih=>cases t with | zero=>rfl | succ t=>exact ih ht
theorem wD {l:List Value} {t:Nat} (h:kJ l t=true) (u:Value):nth (fS l t u) t=u:=by
 induction l generalizing t with
 | nil=>cases h
 | cons x l ih=>cases t with | zero=>rfl | succ t=>exact ih h
theorem q9 {l:List Value} {t t':Nat} (h:t'≠t) (u:Value):nth (fS l t u) t'=nth l t':=by
 induction l generalizing t t' with
 | nil=>rfl
 | cons x l ih=>cases t with
  | zero=>cases t' with | zero=>exact absurd rfl h | succ t'=>rfl
  | succ t=>cases t' with | zero=>rfl | succ t'=>exact ih (fun e=>h (by rw [e]))
theorem GL.alloc {t:TypeId} {z:Value} {cs:List GV} [hT:rv P t z] (hz:kR z.cells.toList=cs) (h:GL P m ops Q rest (bz fr d (.loc Γ.length 0)) (Γ++[.box t cs])):GL P m ops Q (⟨d,.alloc t,ty,pos,af,none⟩::rest) fr Γ:=fun B K β w l hm hI hF=>by
 refine WL.alloc (z:=z) fun b w' hn=>?_
 have bA:=hI.add (vs:=z.cells.toList) (cs:=cs) (E:=t) (by simpa using hn) (by rw [<-hz];exact bg.self);exact h B K _ w' _ hm bA ((hF.mono (c6.refl K) (ic (by rw [hI.out _ (aH _)];trivial))).put d (.loc _ 0 b bq))
theorem GL.box {t:TypeId} {x:Operand} {cs:List GV} (hx:oq (a6 fr x)=some cs) (h:GL P m ops Q rest (bz fr d (.loc Γ.length 0)) (Γ++[.box t cs])):GL P m ops Q (⟨d,.box t x,ty,pos,af,none⟩::rest) fr Γ:=fun B K β w l hm hI hF=>by
 obtain ⟨vs,I,F⟩:=(hF.ev x).cells hx
 refine WL.box rfl fun b w' hn=>?_
 rw [I] at hn;have bA:=hI.add hn F;exact h B K _ w' _ hm bA ((hF.mono (c6.refl K) (ic (by rw [hI.out _ (aH _)];trivial))).put d (.loc _ 0 b bq))
def oset:List Ob->Nat->Ob->List Ob
 | [],_,_=>[]
 | _::l,0,x=>x::l
 | y::l,n+1,x=>y::oset l n x
theorem bD (l:List Ob) (i:Nat) (x:Ob):oset l i x=l.set i x:=by
 induction l generalizing i with
 | nil=>rfl
 | cons y l ih=>cases i with | zero=>rfl | succ i=>simp [oset,ih]
theorem zf:∀ (us:List Value) (vs:List Value) (o:Nat),xL vs.toArray o us=(jG vs o us).toArray
 | [],vs,o=>rfl
 | u::us,vs,o=>by rw [xL,jG,zn];exact zf us _ _
theorem GL.st {x y:Operand} {t:TypeId} {agg:Bool} {k:Nat} [hT:Ty P t agg k] {i o:Nat} {E:TypeId} {cs gs:List GV} (hx:a6 fr x=.loc i o) (bJ:Γ[i]?=some (.box E cs)) (hy:oq (a6 fr y)=some gs) (hk:gs.length=k) (I:n5 gs=true)
  (hl:Nat.ble (o+k) cs.length=true) (h:GL P m ops Q rest (bz fr d (.v undef)) (oset Γ i (.box E (oT cs o gs)))):GL P m ops Q (⟨d,.store t x y,ty,pos,af,none⟩::rest) fr Γ:=fun B K β w l hm hI hF=>by
 have hr:=hF.ev x;rw [hx] at hr;generalize hv:ev l x=v at hr
 cases hr with
 | loc _ _ b hb =>
  obtain ⟨b',vs,F,h3,h4,h5⟩:=hI.ob i _ bJ;rw [hb] at F;cases F;obtain ⟨us,kq,kG⟩:=(hF.ev y).cells hy
  have jY:o+k<=cs.length:=by simpa using hl
  refine WL.st (t:=t) hv rfl h3 (by rw [kq];simpa [hk] using kG.1) (by rw [size_toArray,h4.1];exact jY) (by rw [kq];simpa using kG.nc I) fun w' hs=>?_
  rw [kq,List.toList_toArray,zf] at hs;have bA:=hI.store bJ hb hs (kG.jG o h4);rw [<-bD] at bA;exact h B K β w' _ hm bA (hF.put d (.v _))
def chunk:Nat->Nat->List GV->List (List GV)
 | 0,_,_=>[]
 | n+1,k,gs=>gs.take k::chunk n k (gs.drop k)
theorem xc {k:Nat}:∀ (n:Nat) (gs:List GV),gs.length=n * k->(chunk n k gs).flatten=gs/\(chunk n k gs).length=n/\∀ r∈chunk n k gs,r.length=k/\∀ g∈r,g∈gs
 | 0,gs,h=>by
  have:gs=[]:=gQ (by simpa using h);subst this;exact ⟨rfl,rfl,fun r hr=>by cases hr⟩
 | n+1,gs,h=>by
  have hk:k<=gs.length:=by rw [h,Nat.succ_mul];omega
  obtain ⟨I,F,h3⟩:=xc (k:=k) n (gs.drop k) (by rw [iM,h,Nat.succ_mul];omega);refine ⟨by rw [chunk,flatten_cons,I,List.take_append_drop],by rw [chunk,length_cons,F],fun r hr=>?_⟩;rw [chunk] at hr
  rcases ei hr with rfl | hr
  ·exact ⟨by simp [hk],fun g hg=>List.mem_of_mem_take hg⟩
  ·obtain ⟨h4,h5⟩:=h3 r hr;exact ⟨h4,fun g hg=>List.mem_of_mem_drop (h5 g hg)⟩
def zs:Nat->List Value->List GV
 | 0,_=>[]
 | n+1,z=>kR z++zs n z
theorem IC {K:Fz} {β:Bt} {n k:Nat} {z:List Value} (hz:z.length=k) (hk:0 < k):bg K β ((List.range (n * k)).map fun j=>z.getD (j % k) undef) (zs n z):=by
 induction n with
 | zero=>simpa [zs] using bg.nil
 | succ n ih =>
  have he:(List.range ((n+1) * k)).map (fun j=>z.getD (j % k) undef)=(List.range k).map (fun j=>z.getD (j % k) undef)++(List.range (n * k)).map fun j=>z.getD (j % k) undef:=by
   rw [Nat.succ_mul,Nat.add_comm,List.range_add,o0,List.map_map]
   congr 1
   apply List.map_congr_left;intro j _;simp
  rw [he,zs];refine bg.app ?_ ih
  have:(List.range k).map (fun j=>z.getD (j % k) undef)=z:=by
   apply List.ext_getElem
   ·simp [hz]
   ·intro j I F;simp at I;simp [Nat.mod_eq_of_lt I,eF F]
  rw [this];exact bg.self
theorem GL.Zt {t e:TypeId} {k:Nat} {z:List Value} [hT:qI P t e k z] {n:Nat} {parts:List (Nat × Operand)} {cs:List GV} (hn:Nat.ble (n * k) 16777216=true) (hf:zK (fun i=>some (i * k,k)) (zs n z) (parts.map fun x=>(x.1,a6 fr x.2))=some cs)
  (hl:Nat.beq cs.length (n * k)=true) (hp:uP cs=true) (h:GL P m ops Q rest (bz fr d (.sl k (chunk n k cs))) Γ):GL P m ops Q (⟨d,.buildSlice t n parts.toArray,ty,pos,af,none⟩::rest) fr Γ:=fun B K β w l hm hI hF=>by
 obtain ⟨us,I,F⟩:=xf hF parts _ _ cs (IC (n:=n) hT.zl hT.pos) hf
 have jY:cs.length=n * k:=by simpa using hl
 refine WL.DW (by simpa using hn) I fun b w' tg=>?_
 obtain ⟨hle,bA⟩:=hI.yy tg F (nI hp);obtain ⟨c1,c2,c3⟩:=xc n cs jY;refine h B _ β w' _ hm bA ((hF.mono hle (dJ.refl β)).put d ?_)
 have mf:gE k (chunk n k cs):=fun r hr=>⟨(c3 r hr).1,fun g hg=>nI hp g ((c3 r hr).2 g hg)⟩
 have:=Rel.sl (K:=mn K b cs) (β:=β) b 0 n k (chunk n k cs) (fun i r hr=>⟨(mf r (bm hr)).1,fun j g hg=>by
  rw [fk];exact zu (by have:=wJ mf hr hg;rw [c1] at this;exact this)⟩) (by rw [c2];exact aH _)
 rw [c2] at this;exact this
theorem GL.S6 {t e:TypeId} {k:Nat} {z:List Value} [hT:qI P t e k z] {n:Nat} {parts:List (Nat × Operand)} {cs:List GV} (hn:Nat.ble (n * k) 16777216=true) (hf:zK (fun i=>some (i * k,k)) (zs n z) (parts.map fun x=>(x.1,a6 fr x.2))=some cs)
  (hl:Nat.beq cs.length (n * k)=true) (hp:uP cs=true) (h:GL P m ops Q rest (bz fr d (.vec Γ.length n)) (Γ++[.vec e k 0 (chunk n k cs)])):GL P m ops Q (⟨d,.buildSlice t n parts.toArray,ty,pos,af,none⟩::rest) fr Γ:=fun B K β w l hm hI hF=>by
 obtain ⟨us,I,F⟩:=xf hF parts _ _ cs (IC (n:=n) hT.zl hT.pos) hf
 have jY:cs.length=n * k:=by simpa using hl
 have CH:n * k<=16777216:=by simpa using hn
 have bW:n<=16777216:=km (Nat.le_mul_of_pos_right n hT.pos) CH
 refine WL.DW CH I fun b w' tg=>?_
 obtain ⟨c1,c2,c3⟩:=xc n cs jY
 have mf:gE k (chunk n k cs):=fun r hr=>⟨(c3 r hr).1,fun g hg=>nI hp g ((c3 r hr).2 g hg)⟩
 have how:=iH.WN tg (n:=n) (k:=k) (by rw [F.1,jY]) (by simp only [maxLen];omega);have bA:=hI.Ga (x:=.slice (some ⟨b,0,none⟩) n n) (xs:=us) (rows:=chunk n k cs) tg.ext (by rw [c2];exact how.base (aX _)) (fun b' bo=>by cases bo;rw [tg.fresh];exact aH _) (by rw [c1];exact F) mf;refine h B K _ w' _ hm bA ((hF.mono (c6.refl K) (ic (by rw [hI.out _ (aH _)];trivial))).put d ?_);exact .vec _ n _ n ⟨_,_,bq,by rw [c2];exact aH _,fun _=>rfl⟩
def Rr (x:Operand) (t:Tmp):Bool :=
 match x with
 | .tmp t'=>!Nat.beq t' t
 | _=>true
theorem Vo {l:List Value} {x:Operand} {t:Tmp} (h:Rr x t=true) (u:Value):ev (put l (some t) u) x=ev l x:=by
 cases x with
 | tmp t'=>exact q9 (fun e=>by subst e;simp [Rr] at h) u
 | _=>rfl
theorem GL.push {x s:Operand} {t e k iU:Nat} {z:List Value} [hT:pz P t e k iU] [hZ:qI P t e k z] {d1:Tmp} {PA:TypeId} {HR:String} {MN:Array Edge} {i n fz:Nat} {rows:List (List GV)} {gs:List GV}
  (hx:oq (a6 fr x)=some gs) (hk:Nat.beq gs.length k=true) (I:n5 gs=true) (hp:uP gs=true) (hs:a6 fr s=.vec i n) (Wd:Rr s d1=true) (hd:kJ fr d1=true) (bJ:Γ[i]?=some (.vec e k fz rows)) (hn:rows.length=n)
  (hb:(n+1<=9223372036854775807/\(n+1) * iU<=140737488355328)/\k<=16777216)
  (h:GL P m ops Q rest (bz (bz fr (some d1) U) d (.vec i (n+1))) (oset Γ i (.vec e k fz (rows++[gs])))) :
  GL P m ops Q (⟨some d1,.buildSlice t 1 #[(0,x)],PA,HR,MN,none⟩::⟨d,.call ⟨.builtin .append,#[s,.tmp d1],#[t,t]⟩,ty,pos,af,none⟩::rest) fr Γ:=fun B K β w l hm hI hF=>by
 subst hn;obtain ⟨us,kq,kG⟩:=(hF.ev x).cells hx;obtain ⟨h0,xs,o1,o2,o3,o4,o5,o6⟩:=hI.ob i _ bJ;have uE:=hF.ev s;rw [hs] at uE
 have rF:ev l s=h0:=by
  generalize hv:ev l s=v at uE
  cases uE with
  | vec _ _ a c hh =>
   obtain ⟨h',m',e1,e2,e3⟩:=hh;rw [o1] at e1;cases e1;exact e3 rfl
 have N0:=oA hF hd
 have mq:gs.length=k:=by simpa using hk
 refine WL.push (base:=0) (v:=h0) (vs:=us) (val:=ev l x) (xs:=xs) (n:=rows.length) rfl (fun u=>by rw [Vo Wd];exact rF) (fun u=>wD N0 u) kq (by rw [kG.1,mq]) (kG.nc I) o2 hb.1.1 hb.1.2 hb.2 (aX _) ?_;intro u v' w' how gU pb uB
 obtain ⟨K',hK,rG,bA⟩:=hI.grow bJ o1 ⟨o2,o3⟩ (news:=[gs]) (ns:=us) how gU pb (by simpa using kG) (fun r hr=>by simp at hr;subst hr;exact ⟨mq,nI hp⟩) (by simp) (fun b bo o v ho hv=>by
  rcases uB with h7 | h7
  ·exact h7.c hv (fun h=>h)
  ·have jg:o < xs.length:=by rw [o2.1];exact xS ho (ru k o6)
   obtain ⟨b2,c2,qz,_,_,kB⟩:=o2.cells.2 (by intro h0;rw [h0] at jg;simp at jg)
   have fv:b2=b:=by rw [qz] at bo;cases bo;rfl
   subst fv;have Fb:=kB o xs[o] (by simp [jg]);rw [fP,hv] at Fb;cases Fb;obtain ⟨b3,c3,N2,_,_,NX⟩:=how.cells.2 (by intro h0;have:xs=[]:=(List.append_eq_nil_iff.1 h0).1;rw [this] at jg;simp at jg)
   have yE:b3=b2:=by rw [N2,bo] at h7;cases h7;rfl
   subst yE
   rw [<-fP];exact NX o _ (by rw [kl jg];simp [jg]))
 rw [<-bD] at bA;refine h B K' _ w' _ hm bA (((hF.mono hK rG).put (some d1) (.U u)).put d ?_);obtain ⟨a,c,rfl⟩:=how.shape;exact .vec i _ a c ⟨_,_,bq,by simp,fun _=>rfl⟩
theorem Wk.DY {t:Nat} {a:Option Addr} {c:Nat} (E k:Nat) (ht:dj fr t=.v (.slice none 0 0)):Wk m fr Γ (bH fr t (.vec Γ.length 0)) (Γ++[.vec E k 0 []]):=fun B K β w l hm hI hF=>by
 have bX:β Γ.length=.no:=hI.out _ (aH _);have bA:=hI.Ga (w':=w) (E:=E) (k:=k) (x:=.slice none 0 0) (xs:=[]) (rows:=[]) (Ext.refl w) (iH.nil w 0 E k) (fun b hb=>by cases hb) bg.nil (fun r hr=>by cases hr);refine ⟨K,_,bA,?_⟩;have we:=hF.mono (c6.refl K) (ic (i:=Γ.length) (x:=.gr (.slice none 0 0) ([]:List (List GV)).length) (by rw [bX];trivial));have hv:nth l t=.slice none 0 0:=Rel.gy (by rw [<-ht];exact hF.nth t)
 have hu:∀ (l:List Value) (t:Nat) (v:Value),nth l t=v->(∃ a n c,v=.slice a n c)->fS l t v=l:=by
  intro l
  induction l with
  | nil=>intro t v _ _;rfl
  | cons x l ih =>
   intro t v I F
   cases t with
   | zero=>simp only [nth] at I;subst I;rfl
   | succ t=>simp only [nth] at I;simp only [fS];rw [ih t v I F]
 have:=we.fS t (v:=.slice none 0 0) (g:=.vec Γ.length 0) (.vec _ 0 none 0 ⟨_,_,bq,aH _,fun _=>rfl⟩);rw [hu l t _ hv ⟨_,_,_,rfl⟩] at this;exact this
theorem B9 {l:List Value} {t:Nat} (h:kJ l t=true):fS l t (nth l t)=l:=by
 induction l generalizing t with
 | nil=>cases h
 | cons x l ih=>cases t with | zero=>rfl | succ t=>simp only [fS,nth];rw [ih h]
theorem Wk.ki {t i n E k fz:Nat} {rows:List (List GV)} (ht:dj fr t=.vec i n) (kC:kJ fr t=true) (bJ:Γ[i]?=some (.vec E k fz rows)) (hn:rows.length=n):Wk m fr Γ (bH fr t (.sl k rows)) (oset Γ i (.vec E k n rows)):=fun B K β w l hm hI hF=>by
 subst hn;obtain ⟨h0,xs,o1,o2,o3,o4,o5,o6⟩:=hI.ob i _ bJ;obtain ⟨K',hK,yK,bA⟩:=hI.ki bJ;rw [<-bD] at bA;refine ⟨K',β,bA,?_⟩;have hr:=hF.nth t;rw [ht] at hr
 have gJ:Rel K' β (nth l t) (.sl k rows):=by
  generalize nth l t=v at hr
  cases hr with
  | vec _ _ a c hh =>
   obtain ⟨h',m',e1,e2,e3⟩:=hh;rw [o1] at e1;cases e1;have e4:=e3 rfl
   rcases o2.2 with ⟨e5,e6⟩ | ⟨g,cap,cu,e5,_,_,pI,_⟩
   ·have:rows=[]:=gQ e6;subst this;exact .sl0 _ _ _
   ·rw [e5] at e4;cases e4;refine .sl g 0 _ k rows (fun j r hr=>⟨(o4 r (bm hr)).1,fun q g' la=>?_⟩) pI;rw [fk];exact yK _ g o1 (by rw [e5];rfl) _ g' (wJ o4 hr la)
 have:=(hF.mono hK (dJ.refl β)).fS t gJ;rw [B9 (oA hF kC)] at this;exact this
def nM (i:Nat) (cs:List GV):GV->GV
 | .loc j o=>match Nat.beq j i with
  | true=>.box cs o
  | false=>.loc j o
 | g=>match g.ok (other i) with
  | true=>g
  | false=>.U
theorem Rel.frz {K K':Fz} {β:Bt} {i b:Nat} {cs:List GV} {x:Value} {g:GV} (h:Rel K β x g) (hk:c6 K K') (hb:β i=.fix b) (hc:∀ (j:Nat) g,cs[j]?=some g->K' b j=some g):Rel K' (fU (other i) β) x (nM i cs g):=by
 have gen:∀ {g:GV},Rel K β x g->Rel K' (fU (other i) β) x (match g.ok (other i) with | true=>g | false=>.U):=by
  intro g h;split
  ·rename_i ho;exact (h.mono hk (dJ.refl β)).res ho
  ·exact .U _
 cases g with
 | loc j o =>
  simp only [nM];split
  ·rename_i hj
   have hj:j=i:=by simpa using hj
   subst hj
   cases h with
   | loc _ _ b' bo =>
    rw [hb] at bo;cases bo;have:=Rel.box (K:=K') (β:=fU (other j) β) b 0 o cs (fun q g hg=>by rw [fk];exact hc q g hg);rw [fk] at this;exact this
  ·rename_i hj
   have hj:j≠i:=by intro e;subst e;simp at hj
   exact (h.mono hk (dJ.refl β)).res (wF hj)
 | _=>exact gen h
def om (i:Nat) (cs:List GV):List GV->List GV
 | []=>[]
 | g::gs=>nM i cs g::om i cs gs
theorem Wk.freeze {i:Nat} {E:TypeId} {cs:List GV} (bJ:Γ[i]?=some (.box E cs)) (hp:uP cs=true) (bX:Kr (other i) (oset Γ i .gone)=true) (hm:m<=i):Wk m fr Γ (om i cs fr) (oset Γ i .gone):=fun B K β w l hB hI hF=>by
 rw [bD] at bX |-;obtain ⟨b,vs,I,F,h3,h4⟩:=hI.ob i _ bJ;obtain ⟨K',hK,yK,bA⟩:=hI.freeze bJ (nI hp) bX (by omega);refine ⟨K',_,bA,?_⟩;clear hI bA bX bJ
 induction hF with
 | nil=>exact .nil
 | cons h t ih=>exact .cons (h.frz hK I (yK b I)) ih
end
def b7:List Nat->Nat->Nat->Nat
 | [],n,j=>n+j
 | i::_,_,0=>i
 | _::r,n,j+1=>b7 r n j
def gF:List Ob->List Nat->List Ob->List Ob
 | Γ,[],xs=>Γ++xs
 | Γ,_::_,[]=>Γ
 | Γ,i::r,x::xs=>gF (oset Γ i x) r xs
def kW:List Nat->Nat->Bool
 | [],_=>true
 | i::r,n=>Nat.blt i n&&!(r.contains i)&&kW r n
theorem D6 {aR:List Nat} {n j:Nat} (h:aR.length<=j):b7 aR n j=n+(j - aR.length):=by
 induction aR generalizing j with
 | nil=>simp [b7]
 | cons i r ih =>
  cases j with
  | zero=>simp at h
  | succ j=>rw [b7,ih (by simpa using h)];simp
theorem UH {aR:List Nat} {n j:Nat} (h:j < aR.length):∃ i∈aR,b7 aR n j=i:=by
 induction aR generalizing j with
 | nil=>simp at h
 | cons i r ih =>
  cases j with
  | zero=>exact ⟨i,by simp,rfl⟩
  | succ j=>obtain ⟨x,I,F⟩:=ih (j:=j) (by simpa using h);exact ⟨x,by simp [I],F⟩
theorem HN {aR:List Nat} {n:Nat} (h:kW aR n=true):∀ i∈aR,i < n:=by
 induction aR with
 | nil=>intro i hi;cases hi
 | cons x r ih =>
  simp only [kW,aE] at h;intro i hi
  rcases ei hi with rfl | hi
  ·simpa using h.1.1
  ·exact ih h.2 i hi
theorem B3 {aR:List Nat} {n:Nat} (h:kW aR n=true):∀ {j j':Nat},b7 aR n j=b7 aR n j'->j=j':=by
 induction aR with
 | nil=>intro j j' he;simp only [b7] at he;omega
 | cons x r ih =>
  have ar:=HN h;simp only [kW,aE,Bool.not_eq_true'] at h
  have hx:∀ j,b7 r n j≠x:=fun j he=>by
   by_cases hj:j < r.length
   ·obtain ⟨i,hi,F⟩:=UH (n:=n) hj;rw [he] at F;subst F;have:=h.1.2;rw [ej.2 hi] at this;cases this
   ·have:=D6 (n:=n) (Nat.le_of_not_lt hj);have:=ar x (by simp);omega
  intro j j' he
  cases j with
  | zero=>cases j' with
   | zero=>rfl
   | succ j'=>exact absurd he.symm (hx j')
  | succ j=>cases j' with
   | zero=>exact absurd he (hx j)
   | succ j'=>rw [ih h.2 he]
theorem Jc {aR:List Nat} {n:Nat}:∀ {Γ xs:List Ob},Γ.length=n->kW aR n=true->aR.length<=xs.length ->
  (∀ j,(gF Γ aR xs)[b7 aR n j]?=xs[j]?)/\(∀ i,(∀ j,b7 aR n j≠i)->(gF Γ aR xs)[i]?=Γ[i]?)/\(gF Γ aR xs).length=n+(xs.length - aR.length):=by
 induction aR with
 | nil =>
  intro Γ xs hn _ _;refine ⟨fun j=>?_,fun i hi=>?_,by simp [gF,hn]⟩
  ·simp only [gF,b7];rw [nk (by omega)];congr 1;omega
  ·simp only [gF,b7] at hi |-
   by_cases ar:i < n
   ·rw [kl (by omega)]
   ·exact absurd (by omega) (hi (i - n))
 | cons x r ih =>
  intro Γ xs hn eT hl;have Qz:=@B3 (x::r) n eT;have ar:=HN eT x (by simp)
  cases xs with
  | nil=>simp at hl
  | cons y ys =>
   simp only [kW,aE,Bool.not_eq_true'] at eT;obtain ⟨I,F,h3⟩:=ih (Γ:=oset Γ x y) (xs:=ys) (by rw [bD];simpa using hn) eT.2 (by simpa using hl)
   have hx:∀ j,b7 r n j≠x:=fun j he=>by
    have:=@Qz (j+1) 0 he;omega
   refine ⟨fun j=>?_,fun i hi=>?_,by simp only [gF,h3,length_cons];omega⟩
   ·cases j with
    | zero =>
     simp only [gF,b7];rw [F x hx,bD,iz];simp [hn,ar]
    | succ j=>simp only [gF,b7];exact I j
   ·simp only [gF];rw [F i (fun j=>hi (j+1)),bD,iz];rw [ab (by intro e;exact hi 0 e)]
theorem lj.C3 {K:Fz} {β:Bt} {w:World} {f:Nat->Nat} {j:Nat} {x:Ob} (h:lj K β w (f j) (x.eN f)):lj K (fun j=>β (f j)) w j x:=by
 cases x with
 | gone=>exact h
 | box E cs =>
  obtain ⟨b,vs,I,F,h3,h4⟩:=h;rw [kP] at h3;exact ⟨b,vs,I,F,⟨by simpa using h3.1,fun i v g h5 h6=>(h3.2 i v (eN f g) h5 (by rw [aV,h6];rfl)).C3⟩,h4⟩
 | vec E k fz rows =>
  obtain ⟨h0,xs,I,F,h3,h4,h5⟩:=h;refine ⟨h0,xs,I,F,⟨h3.1,fun i v g h6 h7=>(h3.2 i v g h6 h7).pc ?_⟩,h4,h5⟩;obtain ⟨r,lg,eE⟩:=List.mem_flatten.1 (bm h7);exact (h4 r lg).2 g eE
 | vech E k rows x =>
  obtain ⟨xs,I,F,h3,h4,h5⟩:=h;refine ⟨xs,I,F,⟨h3.1,fun i v g h6 h7=>(h3.2 i v g h6 h7).pc ?_⟩,h4,h5⟩;obtain ⟨r,lg,eE⟩:=List.mem_flatten.1 (bm h7);exact (h4 r lg).2 g eE
 | lost=>exact h
 | blk b q=>exact h
theorem lj.Dh {K:Fz} {β:Bt} {w:World} {f:Nat->Nat} {j:Nat} {x:Ob} (h:lj K (fun j=>β (f j)) w j x):lj K β w (f j) (x.eN f):=by
 cases x with
 | gone=>exact h
 | box E cs =>
  obtain ⟨b,vs,I,F,h3,h4⟩:=h;refine ⟨b,vs,I,F,?_,h4⟩;rw [kP];refine ⟨by simpa using h3.1,fun i v g h5 h6=>?_⟩;rw [aV] at h6
  cases hc:cs[i]? with
  | none=>rw [hc] at h6;cases h6
  | some c=>rw [hc] at h6;cases h6;exact (h3.2 i v c h5 hc).Dh
 | vec E k fz rows =>
  obtain ⟨h0,xs,I,F,h3,h4,h5⟩:=h;refine ⟨h0,xs,I,F,⟨h3.1,fun i v g h6 h7=>(h3.2 i v g h6 h7).pc ?_⟩,h4,h5⟩;obtain ⟨r,lg,eE⟩:=List.mem_flatten.1 (bm h7);exact (h4 r lg).2 g eE
 | vech E k rows x =>
  obtain ⟨xs,I,F,h3,h4,h5⟩:=h;refine ⟨xs,I,F,⟨h3.1,fun i v g h6 h7=>(h3.2 i v g h6 h7).pc ?_⟩,h4,h5⟩;obtain ⟨r,lg,eE⟩:=List.mem_flatten.1 (bm h7);exact (h4 r lg).2 g eE
 | lost=>exact h
 | blk b q=>exact h
section
variable {K:Fz} {β:Bt} {Γ:List Ob} {w:World} {B:Bs}
theorem Inv.enter {aR:List Nat} {iN:List Ob} (h:Inv B K β Γ w) (eT:kW aR Γ.length=true) (hl:iN.length=aR.length) (bJ:∀ j x,iN[j]?=some x->Γ[b7 aR Γ.length j]?=some (x.eN (b7 aR Γ.length))) :
  Inv (cur K (fun j=>β (b7 aR Γ.length j)) iN w) K (fun j=>β (b7 aR Γ.length j)) iN w:=by
 have bX:∀ i,iN.length<=i->β (b7 aR Γ.length i)=.no:=fun i hi=>by
  rw [D6 (by omega)];exact h.out _ (by omega)
 exact ⟨Ext.refl w,c6.refl K,dJ.refl _,bX,h.fz,fun i x hi=>(h.ob _ _ (bJ i x hi)).C3,bX,fun i j b hi hj=>B3 eT (h.dis _ _ b hi hj),fun i b hb=>.inl ⟨i,hb⟩,fun _ _ _ h=>.inl h,h.tab.step (S:=jc) (Ext.refl w) (fun _ h=>h.elim) (c6.refl K) (fun i b2 F=>.inl ⟨_,F⟩)⟩
theorem Inv.leave {aR:List Nat} {iN sc:List Ob} {K':Fz} {Ce:Bt} {w':World} (h:Inv B K β Γ w) (eT:kW aR Γ.length=true) (hl:iN.length=aR.length) (jY:aR.length<=sc.length)
  (hI:Inv (cur K (fun j=>β (b7 aR Γ.length j)) iN w) K' Ce sc w') :
  ∃ ca,c6 K K'/\dJ β ca/\(∀ j,ca (b7 aR Γ.length j)=Ce j)/\Inv B K' ca (gF Γ aR (sc.map (Ob.eN (b7 aR Γ.length)))) w':=by
 obtain ⟨s1,s2,s3⟩:=Jc (aR:=aR) (n:=Γ.length) (Γ:=Γ) (xs:=sc.map (Ob.eN (b7 aR Γ.length))) rfl eT (by simpa using jY);rw [bS] at s3;generalize hf:b7 aR Γ.length=f at *
 have Qz:∀ {j j'},f j=f j'->j=j':=by subst hf;exact B3 eT
 have ko:∀ j,aR.length<=j->f j=Γ.length+(j - aR.length):=fun j hj=>by subst hf;exact D6 hj
 have ZV:∀ i,Γ.length<=i->f (aR.length+(i - Γ.length))=i:=fun i hi=>by rw [ko _ (by omega)];omega
 have ⟨ca,hβ1,hβ2⟩:∃ ca:Bt,(∀ j,ca (f j)=Ce j)/\∀ i,(∀ j,f j≠i)->ca i=β i:=by
  classical
  refine ⟨fun i=>if h:∃ j,f j=i then Ce (Classical.choose h) else β i,fun j=>?_,fun i hi=>?_⟩
  ·have hex:∃ j',f j'=f j:=⟨j,rfl⟩;simp only;rw [dif_pos hex,Qz (Classical.choose_spec hex)]
  ·simp only;rw [dif_neg (fun ⟨j,hj⟩=>hi j hj)]
 have VJ:dJ β ca:=fun i=>by
  by_cases hi:∃ j,f j=i
  ·obtain ⟨j,rfl⟩:=hi;rw [hβ1];exact hI.ble j
  ·rw [hβ2 i (fun j hj=>hi ⟨j,hj⟩)];exact tX.refl _
 have LA:∀ b,blocks (fun j=>β (f j)) b->blocks β b:=fun b ⟨j,hj⟩=>⟨f j,hj⟩
 have fg:∀ i b,(ca i).blk=some b->blocks β b\/w.heap.size<=b:=fun i b hb=>by
  by_cases hi:∃ j,f j=i
  ·obtain ⟨j,rfl⟩:=hi;rw [hβ1] at hb;exact (hI.own j b hb).imp (LA b) id
  ·rw [hβ2 i (fun j hj=>hi ⟨j,hj⟩)] at hb;exact .inl ⟨i,hb⟩
 have sE:∀ i b,(∀ j,f j≠i)->(β i).blk=some b->¬ blocks (fun j=>β (f j)) b:=fun i b hi hb ⟨j,hj⟩=>hi j (h.dis _ _ b hj hb)
 refine ⟨ca,hI.kle,VJ,hβ1,h.Pa (Zz:=Γ) ?_⟩;refine ⟨hI.ext.mono (fun k _ hk=>LA k hk),hI.kle,VJ,h.out,hI.fz,fun i x hi=>?_,fun i hi=>?_,fun i i' b hi pG=>?_,fg,fun b o g hg=>?_,⟨hI.tab.le,hI.tab.pow,hI.tab.spc,fun i b hb=>(fg i b hb).elim (fun ⟨j,hj⟩=>h.tab.free j b hj) (fun hs=>⟨by have:=h.tab.pow.lt;have hs:w.heap.size<=b:=hs;omega,by have:=h.tab.spc.lt;have hs:w.heap.size<=b:=hs;omega⟩)⟩⟩
 ·by_cases hj:∃ j,f j=i
  ·obtain ⟨j,rfl⟩:=hj;rw [s1 j,aV] at hi
   cases hc:sc[j]? with
   | none=>rw [hc] at hi;cases hi
   | some c =>
    rw [hc] at hi;cases hi;refine lj.Dh ?_;have:=hI.ob j c hc;rw [show (fun j=>ca (f j))=Ce from funext hβ1];exact this
  ·have mJ:∀ j,f j≠i:=fun j h=>hj ⟨j,h⟩
   rw [s2 i mJ] at hi;refine (h.ob i x hi).ext hI.ext (fun b hb=>sE i b mJ hb) hI.kle VJ (hβ2 i mJ) (fun b o hb hk=>?_)
   cases mq:K' b o with
   | none=>rfl
   | some g =>
    rcases hI.kn b o g mq with h7 | h7 | h7
    ·have h7:K b o=some g:=h7;rw [hk] at h7;cases h7
    ·exact absurd h7 (sE i b mJ hb)
    ·have:=h.lt hb;have h7:w.heap.size<=b:=h7;omega
 ·rw [s3] at hi;have I:=ZV i (by omega);rw [<-I,hβ1];exact hI.out _ (by omega)
 ·by_cases I:∃ j,f j=i <;> by_cases F:∃ j,f j=i'
  ·obtain ⟨j,rfl⟩:=I;obtain ⟨j',rfl⟩:=F;rw [hβ1] at hi pG;rw [hI.dis j j' b hi pG]
  ·obtain ⟨j,rfl⟩:=I
   have rz:∀ j,f j≠i':=fun j h=>F ⟨j,h⟩
   rw [hβ1] at hi;rw [hβ2 i' rz] at pG
   rcases hI.own j b hi with h7 | h7
   ·exact absurd h7 (sE i' b rz pG)
   ·have:=h.lt pG;have h7:w.heap.size<=b:=h7;omega
  ·obtain ⟨j,rfl⟩:=F
   have c7:∀ j,f j≠i:=fun j h=>I ⟨j,h⟩
   rw [hβ1] at pG;rw [hβ2 i c7] at hi
   rcases hI.own j b pG with h7 | h7
   ·exact absurd h7 (sE i b c7 hi)
   ·have:=h.lt hi;have h7:w.heap.size<=b:=h7;omega
  ·rw [hβ2 i (fun j h=>I ⟨j,h⟩)] at hi;rw [hβ2 i' (fun j h=>F ⟨j,h⟩)] at pG;exact h.dis i i' b hi pG
 ·rcases hI.kn b o g hg with h7 | h7 | h7
  ·exact .inl h7
  ·exact .inr (.inl (LA b h7))
  ·exact .inr (.inr h7)
end
section
variable {P:Program} {m:Nat} {Q:eu} {fr:List GV} {Γ:List Ob} {ops:Array Oper} {rest:List Oper} {d:Option Tmp} {op:Op} {ty:TypeId} {pos:String} {af:Array Edge}
def seen (f:Nat->Nat) (Γ:List Ob):List Nat->List Ob->Prop
 | [],[]=>True
 | i::r,x::xs=>Γ[i]?=some (x.eN f)/\seen f Γ r xs
 | _,_=>False
theorem FB {f:Nat->Nat} {Γ:List Ob} {n:Nat}:∀ {aR:List Nat} {iN:List Ob},seen f Γ aR iN->iN.length=aR.length/\∀ j x,iN[j]?=some x->Γ[b7 aR n j]?=some (x.eN f)
 | [],[],_=>⟨rfl,fun j x h=>by simp at h⟩
 | i::r,y::ys,h=>by
  obtain ⟨I,F⟩:=h;obtain ⟨h3,h4⟩:=FB (n:=n) F;refine ⟨by simp [h3],fun j x hx=>?_⟩
  cases j with
  | zero=>cases hx;exact I
  | succ j=>exact h4 j x hx
 | [],_::_,h=>h.elim
 | _::_,[],h=>h.elim
theorem GL.calls {f:FuncId} {aR:List Nat} {gs:List GV} {iN:List Ob} {R:GV->List Ob->Prop} {vs:List Value->List Value} (hr:∀ K β w l,FR K β fr l->bg K β (vs l) (ng (b7 aR Γ.length) gs)/\(execOp (ev l) ⟨d,op,ty,pos,af,none⟩).run P w=.ok (.enter f (vs l).toArray) w)
  (eT:kW aR Γ.length=true) (bJ:seen (b7 aR Γ.length) Γ aR iN) (hc:GC P f gs iN R)
  (h:∀ g aS,R g aS->aR.length<=aS.length/\GL P m ops Q rest (bz fr d (eN (b7 aR Γ.length) g)) (gF Γ aR (aS.map (Ob.eN (b7 aR Γ.length))))) :
  GL P m ops Q (⟨d,op,ty,pos,af,none⟩::rest) fr Γ:=fun B K β w l hm hI hF=>by
 obtain ⟨hl,hs⟩:=FB (n:=Γ.length) bJ;obtain ⟨ha,hr⟩:=hr K β w l hF;have hIc:=hI.enter eT hl hs
 have vi:bg K (fun j=>β (b7 aR Γ.length j)) (vs l) gs:=by
  rw [kP] at ha;exact ⟨by simpa using ha.1,fun i v g h5 h6=>(ha.2 i v (eN _ g) h5 (by rw [aV,h6];rfl)).C3⟩
 refine WL.calls hr (hc _ K _ w _ rfl hIc vi) ?_;rintro v w' ⟨K',Ce,g,aS,bA,gJ,hR⟩;obtain ⟨jY,h⟩:=h g aS hR;obtain ⟨ca,hK,hB,rG,o8⟩:=hI.leave eT hl jY bA;refine h B K' ca w' _ hm o8 ((hF.mono hK hB).put d (Rel.Dh ?_));rw [show (fun j=>ca (b7 aR Γ.length j))=Ce from funext rG];exact gJ
theorem GL.sf {f:FuncId} [hf:aI P f] (aR:List Nat) {x:Operand} {first cap:List GV} {args:List Operand} {qF:Array TypeId} {gs:List GV} {iN:List Ob} {R:GV->List Ob->Prop} (hc:GC P f gs iN R) (hx:a6 fr x=.fn (.func f) first cap) (ha:first++args.map (a6 fr)++cap=ng (b7 aR Γ.length) gs) (eT:kW aR Γ.length=true)
  (bJ:seen (b7 aR Γ.length) Γ aR iN) (h:∀ g aS,R g aS->aR.length<=aS.length/\GL P m ops Q rest (bz fr d (eN (b7 aR Γ.length) g)) (gF Γ aR (aS.map (Ob.eN (b7 aR Γ.length))))) :
  GL P m ops Q (⟨d,.call ⟨.value x,args.toArray,qF⟩,ty,pos,af,none⟩::rest) fr Γ :=
 GL.calls (vs:=fun l=>match ev l x with | .func _ a c=>a.toList++args.map (ev l)++c.toList | _=>[]) (fun K β w l hF=>by
  have hr:=hF.ev x;rw [hx] at hr;generalize hv:ev l x=v at hr
  cases hr with
  | fn _ xs ys _ _ I F h3 h4 =>
   refine ⟨?_,?_⟩
   ·rw [<-ha];exact (bg.app (bg.app ⟨I,h3⟩ (hF.args args)) ⟨F,h4⟩)
   ·simp [execOp,resolve,hv,Deferred.ofValue,invoke,oE]) eT bJ hc h
theorem GL.XE {f:FuncId} [hf:aI P f] (aR:List Nat) {x:Operand} {args:List Operand} {qF:Array TypeId} {gs:List GV} {iN:List Ob} {R:GV->List Ob->Prop} (hc:GC P f gs iN R) (hx:a6 fr x=.v (.func (.func f) #[] #[])) (ha:args.map (a6 fr)=ng (b7 aR Γ.length) gs) (eT:kW aR Γ.length=true)
  (bJ:seen (b7 aR Γ.length) Γ aR iN) (h:∀ g aS,R g aS->aR.length<=aS.length/\GL P m ops Q rest (bz fr d (eN (b7 aR Γ.length) g)) (gF Γ aR (aS.map (Ob.eN (b7 aR Γ.length))))) :
  GL P m ops Q (⟨d,.call ⟨.value x,args.toArray,qF⟩,ty,pos,af,none⟩::rest) fr Γ :=
 GL.calls (vs:=fun l=>args.map (ev l)) (fun K β w l hF=>⟨by rw [<-ha];exact hF.args args,by
  have hv:=hF.ij hx
  simp [execOp,resolve,hv,Deferred.ofValue,invoke,oE]⟩) eT bJ hc h
end
def oo (ops:List Oper) (fr:List GV):Nat->Option (Option Bool):=fun j =>
 match kJ ops j,(sW ops j).dst with
 | true,some t=>match kJ fr t,dj fr t with
  | true,.v (.bool c)=>some (some c)
  | true,.v (.tuple _)=>some none
  | _,_=>none
 | _,_=>none
section
variable {P:Program} {m:Nat} {Q:eu} {fr:List GV} {Γ:List Ob} {ops:Array Oper} {rest:List Oper} {d:Option Tmp} {op:Op} {ty:TypeId} {pos:String} {af:Array Edge}
theorem wc {K:Fz} {β:Bt} {l:List Value} {j:Nat} {b:Bool} {c:Option Bool} (hF:FR K β fr l) (h:oo ops.toList fr j=some c):Fe (some (j,b)) ops.toList l=true/\gv ops.toList l (j,b)=c:=by
 unfold oo at h;split at h
 ·rename_i t I F;split at h
  ·rename_i c' h3 h4;cases h;have hv:nth l t=.bool c':=Rel.gy (by rw [<-h4];exact hF.nth t);have hl:=oA hF h3;simp only [Fe,gv,I,F,hl,hv,Bool.and_self];exact ⟨trivial,trivial⟩
  ·rename_i vs h3 h4;cases h;have hv:nth l t=.tuple vs:=Rel.gy (by rw [<-h4];exact hF.nth t);have hl:=oA hF h3;simp only [Fe,gv,I,F,hl,hv,Bool.and_self];exact ⟨trivial,trivial⟩
  ·cases h
 ·cases h
theorem GL.gt {gd:Nat × Bool} {c:Bool} (hv:oo ops.toList fr gd.1=some (some c)) (hc:c=gd.2) (h:GL P m ops Q (⟨d,op,ty,pos,af,none⟩::rest) fr Γ):GL P m ops Q (⟨d,op,ty,pos,af,some gd⟩::rest) fr Γ:=fun B K β w l hm hI hF=>by
 obtain ⟨I,F⟩:=wc (b:=gd.2) hF hv;exact Xw.GT I F hc (h B K β w l hm hI hF)
theorem GL.gf {gd:Nat × Bool} {c:Bool} (hv:oo ops.toList fr gd.1=some (some c)) (hc:c=!gd.2) (h:GL P m ops Q rest (bz fr d (.v undef)) Γ):GL P m ops Q (⟨d,op,ty,pos,af,some gd⟩::rest) fr Γ:=fun B K β w l hm hI hF=>by
 obtain ⟨I,F⟩:=wc (b:=gd.2) hF hv;exact Xw.GF I F hc (h B K β w _ hm hI (hF.put d (.v _)))
theorem GL.gu {gd:Nat × Bool} (hv:oo ops.toList fr gd.1=some none) (h:GL P m ops Q rest (bz fr d (.v undef)) Γ):GL P m ops Q (⟨d,op,ty,pos,af,some gd⟩::rest) fr Γ:=fun B K β w l hm hI hF=>by
 obtain ⟨I,F⟩:=wc (b:=gd.2) hF hv;exact Xw.GU I F (h B K β w _ hm hI (hF.put d (.v _)))
end
def gG (ops:List Oper) (fr:List GV):Option (Nat × Bool)->Option Bool
 | none=>some true
 | some (j,b)=>match oo ops fr j with
  | some (some c)=>some (c==b)
  | some none=>some false
  | none=>none
theorem JU {ops:Array Oper} {K:Fz} {β:Bt} {fr:List GV} {l:List Value} {o:Oper} {c:Bool} (hF:FR K β fr l) (h:gG ops.toList fr o.guard=some c):Region.wanted o (yielded ops (act l).tmps)=c:=by
 obtain ⟨d,op,ty,pos,af,gd⟩:=o
 cases gd with
 | none=>simp only [gG] at h;cases h;rfl
 | some gd =>
  obtain ⟨j,b⟩:=gd;simp only [gG] at h;split at h
  ·rename_i c' hc;cases h;obtain ⟨I,F⟩:=wc (b:=b) hF hc;rw [wX I]
   cases wj:(c'==b) with
   | true=>exact PK F (by simpa using wj)
   | false=>exact PJ F (by cases c' <;> cases b <;> simp_all)
  ·rename_i hc;cases h;obtain ⟨I,F⟩:=wc (b:=b) hF hc;rw [wX I];exact PL F
  ·cases h
def Fs (P:Program) (o:Oper) (e:Operand->Value) (w:World) (Kv:Value->World->Prop):Prop :=
 match (execOp e o).run P w with
 | .ok (.value v) w'=>Kv v w'
 | .ok .skip w'=>Kv undef w'
 | .ok (.enter f args) w'=>Calls P f args w' fun e Tk=>∃ v,e=.returned v/\Kv v Tk
 | .ok (.row row args) w'=>Rows P row args w' Kv
 | _=>False
theorem WO {P:Program} {o:Oper} {a:Act} {w:World} {Kv:Value->World->Prop} {next:Act->World->Prop} {Q:Exit->Act->World->Prop} (h:Fs P o a.eval w Kv) (hn:∀ v w',Kv v w'->next (a.put o.dst v) w'):o.wp P a w next Q:=by
 unfold Fs at h;unfold Oper.wp;generalize (execOp a.eval o).run P w=r at *
 cases r with
 | ok n w' =>
  cases n <;> simp only [Oper.upon] at h |- <;> first
   | exact hn _ _ h
   | exact Calls.mono h (fun e Tk ⟨v,he,hv⟩=>by subst he;exact hn _ _ hv)
   | exact Rows.mono h (fun _ _ hv=>hn _ _ hv)
   | exact h.elim
 | halt x w'=>exact h.elim
theorem Xm {P:Program} {o:Oper} {a:Act} {w:World} {Kv:Value->World->Prop} {next:Act->World->Prop} {Q:Exit->Act->World->Prop} (h:o.wp P a w next Q) (hQ:∀ c a w,¬ Q (.panic c) a w) (hQ':∀ a w,¬ Q .outgrown a w) (hn:∀ v w',next (a.put o.dst v) w'->Kv v w')
  (hd:∀ d w',¬ next ({ a with defers:=d::a.defers }.put o.dst undef) w'):Fs P o a.eval w Kv:=by
 unfold Fs;unfold Oper.wp at h;generalize (execOp a.eval o).run P w=r at *
 cases r with
 | ok n w' =>
  cases n <;> simp only [Oper.upon] at h |- <;> first
   | exact hn _ _ h
   | exact Calls.mono h (fun e Tk he=>by
     cases e with
     | returned v=>exact ⟨v,rfl,hn _ _ he⟩
     | panicked c=>exact (hQ _ _ _ he).elim
     | outgrown=>obtain ⟨a0,w0,hf⟩:=he;exact (hQ' _ _ hf).elim)
   | exact Rows.mono h (fun _ _ hv=>hn _ _ hv)
   | exact h.elim
   | exact absurd h (hd _ _)
 | halt x w' =>
  cases x <;> simp only [Oper.upon] at h
  exact (hQ _ _ _ h).elim
def db (ts:List Nat):Nat->List GV->List GV
 | _,[]=>[]
 | k,g::gs=>(match ts.contains k with | true=>g | false=>.U)::db ts (k+1) gs
theorem FR.mask {K:Fz} {β:Bt} {ts:List Nat} {fr:List GV} {l:List Value} (h:FR K β fr l):∀ k,FR K β (db ts k fr) l:=by
 induction h with
 | nil=>intro k;exact .nil
 | cons h t ih =>
  intro k;rw [db];split
  ·exact .cons h (ih _)
  ·exact .cons (.U _) (ih _)
theorem Q6 {ts:List Nat} {d:Option Tmp} {g:GV} (hd:∀ t,d=some t->t ∉ ts) (fr:List GV):db ts 0 (bz fr d g)=db ts 0 fr:=by
 cases d with
 | none=>rfl
 | some t =>
  have hd:=hd t rfl
  have gen:∀ (fr:List GV) (k t:Nat),k+t ∉ ts->db ts k (bH fr t g)=db ts k fr:=by
   intro fr
   induction fr with
   | nil=>intro k t _;rfl
   | cons x fr ih =>
    intro k t h
    cases t with
    | zero =>
     have hc:ts.contains k=false:=by
      cases hb:ts.contains k with
      | false=>rfl
      | true=>exact absurd (ej.1 hb) (by simpa using h)
     simp only [bH,db,hc]
    | succ t=>simp only [bH,db];rw [ih (k+1) t (by rw [show k+1+t=k+(t+1) by omega];exact h)]
  exact gen fr 0 t (by simpa using hd)
section
variable {P:Program} {ops:Array Oper}
def YQ (P:Program) (ops:Array Oper) (i:Nat) (g:GV) (fr:List GV) (Γ:List Ob):Prop :=
 ∃ o c,ops[i]?=some o/\gG ops.toList (db (o.looksAt ops) 0 fr) o.guard=some c/\match c with
  | true=>YG P o.op (db (o.looksAt ops) 0 fr) Γ g
  | false=>g=.v undef
abbrev lT:=List (Nat × GV × List GV)
def GA (P:Program) (o:Oper) (Kt:GV->List Ob->Prop) (fr:List GV) (Γ:List Ob):Prop :=
 ∀ B K β w l,Inv B K β Γ w->FR K β fr l->Fs P o (ev l) w fun v w'=>∃ K' ca g aS,c6 K K'/\dJ β ca/\Inv B K' ca aS w'/\(∀ fr l,FR K' ca fr l->FR K' ca (bz fr o.dst g) (put l o.dst v))/\Kt g aS
def GI (P:Program) (ops:Array Oper) (i:Nat) (Kt:GV->List Ob->Prop) (fr:List GV) (Γ:List Ob):Prop :=
 ∃ o c,ops[i]?=some o/\gG ops.toList fr o.guard=some c/\match c with
  | true=>GA P o Kt fr Γ
  | false=>Kt (.v undef) Γ
def lW (ops:Array Oper) (i:Nat):Option Tmp:=(ops[i]?).bind (·.dst)
def waits (ops:Array Oper) (i j:Nat):Bool:=match ops[i]? with
 | some o=>o.after.any fun e=>Region.binds .any e&&e.on==j
 | none=>false
def stay (ops:Array Oper) (i:Nat) (a7:lT):lT:=a7.filter fun p=>!waits ops i p.1
def qH (P:Program) (ops:Array Oper) (Q:List GV->List Ob->Prop):Nat->lT->Array Bool->List GV->List Ob->Prop
 | 0,_,listed,fr,Γ=>Region.ready .any ops listed=[]/\Q fr Γ
 | n+1,a7,listed,fr,Γ=>(Region.ready .any ops listed=[]->Q fr Γ) /\
   ∀ i∈Region.ready .any ops listed,GI P ops i (fun g aS=>(∀ p∈stay ops i a7,YQ P ops p.1 p.2.1 p.2.2 aS)/\qH P ops Q n (stay ops i a7) (listed.setIfInBounds i true) (bz fr (lW ops i) g) aS) fr Γ
theorem GA.mono {o:Oper} {Kt F7:GV->List Ob->Prop} {fr:List GV} {Γ:List Ob} (h:GA P o Kt fr Γ) (hk:∀ g aS,Kt g aS->F7 g aS):GA P o F7 fr Γ:=fun B K β w l hI hF=>by
 have:=h B K β w l hI hF;unfold Fs at *;generalize (execOp (ev l) o).run P w=r at *
 have key:∀ v w',(∃ K' ca g aS,c6 K K'/\dJ β ca/\Inv B K' ca aS w'/\(∀ fr l,FR K' ca fr l->FR K' ca (bz fr o.dst g) (put l o.dst v))/\Kt g aS)->∃ K' ca g aS,c6 K K'/\dJ β ca/\Inv B K' ca aS w'/\(∀ fr l,FR K' ca fr l->FR K' ca (bz fr o.dst g) (put l o.dst v))/\F7 g aS :=
  fun v w' ⟨K',ca,g,aS,I,F,h3,h4,h5⟩=>⟨K',ca,g,aS,I,F,h3,h4,hk _ _ h5⟩
 cases r with
 | ok n w'=>cases n <;> simp only at this |- <;> first
   | exact key _ _ this
   | exact Calls.mono this (fun e Tk ⟨v,he,hv⟩=>⟨v,he,key _ _ hv⟩)
   | exact Rows.mono this (fun _ _ hv=>key _ _ hv)
   | exact this.elim
 | halt x w'=>exact this.elim
theorem GI.mono {i:Nat} {Kt F7:GV->List Ob->Prop} {fr:List GV} {Γ:List Ob} (h:GI P ops i Kt fr Γ) (hk:∀ g aS,Kt g aS->F7 g aS):GI P ops i F7 fr Γ:=by
 obtain ⟨o,c,I,F,h3⟩:=h;refine ⟨o,c,I,F,?_⟩
 cases c with
 | true=>exact GA.mono h3 hk
 | false=>exact hk _ _ h3
theorem qH.Sh {Q:List GV->List Ob->Prop}:∀ (n:Nat) (a7 eg:lT) (listed:Array Bool) (fr:List GV) (Γ:List Ob),(∀ p∈eg,p∈a7)->qH P ops Q n a7 listed fr Γ->qH P ops Q n eg listed fr Γ
 | 0,_,_,_,_,_,_,h=>h
 | n+1,a7,eg,listed,fr,Γ,hs,h=>⟨h.1,fun i hi=>(h.2 i hi).mono fun g aS ⟨I,F⟩=>by
  have pe:∀ p∈stay ops i eg,p∈stay ops i a7:=fun p hp=>by
   simp only [stay,mem_filter] at hp |-;exact ⟨hs p hp.1,hp.2⟩
  exact ⟨fun p hp=>I p (pe p hp),qH.Sh n _ _ _ _ _ pe F⟩⟩
theorem qH.sound {m:Nat} {Q:List GV->List Ob->Prop} {B:Bs} {Q':eu} (hm:B.m=m) (hQ:∀ fr Γ,Q fr Γ->Q' .normal fr Γ):∀ (n:Nat) (a7:lT) (listed:Array Bool) (fr:List GV) (Γ:List Ob) (K:Fz) (β:Bt) (w:World) (l:List Value),
  qH P ops Q n a7 listed fr Γ->Inv B K β Γ w->FR K β fr l->wpAny P .any ops (lift (gl B Q')) n listed (act l) w
 | 0,_,_,fr,Γ,K,β,w,l,h,hI,hF=>⟨h.1,l,rfl,K,β,fr,Γ,hI,hF,hQ _ _ h.2⟩
 | n+1,a7,listed,fr,Γ,K,β,w,l,h,hI,hF=>by
  refine ⟨fun h0=>⟨l,rfl,K,β,fr,Γ,hI,hF,hQ _ _ (h.1 h0)⟩,fun i hi=>?_⟩;obtain ⟨o,c,ho,hg,hc⟩:=h.2 i hi;have hw:=JU hF hg;unfold wpOp;simp only [ho,hw]
  have hd:lW ops i=o.dst:=by simp [lW,ho]
  cases c with
  | true =>
   simp only [if_true];refine .inl (WO (by rw [n9];exact hc B K β w l hI hF) ?_);rintro v w' ⟨K',ca,g,aS,hK,hB,bA,hf,I,F⟩;rw [qs];rw [hd] at F;exact qH.sound hm hQ n _ _ _ _ K' ca w' _ F bA (hf _ _ (hF.mono hK hB))
  | false =>
   simp only [Bool.false_eq_true,if_false];rw [qs];obtain ⟨I,F⟩:=hc;rw [hd] at F;exact qH.sound hm hQ n _ _ _ _ K β w _ F hI (hF.put o.dst (.v _))
theorem IW {fr:List GV} {t t':Nat} (h:t'≠t) (g:GV):dj (bH fr t g) t'=dj fr t':=by
 induction fr generalizing t t' with
 | nil=>rfl
 | cons x l ih=>cases t with
  | zero=>cases t' with | zero=>exact absurd rfl h | succ t'=>rfl
  | succ t=>cases t' with | zero=>rfl | succ t'=>exact ih (fun e=>h (by rw [e]))
theorem Kb {fr:List GV} {t t':Nat} {g:GV}:kJ (bH fr t g) t'=kJ fr t':=by
 induction fr generalizing t t' with
 | nil=>rfl
 | cons x l ih=>cases t with
  | zero=>cases t' <;> rfl
  | succ t=>cases t' with | zero=>rfl | succ t'=>exact ih
theorem Vx {o:Oper} {fr:List GV} {d:Option Tmp} {g:GV} (h:∀ t,d=some t->t ∉ o.looksAt ops):gG ops.toList (bz fr d g) o.guard=gG ops.toList fr o.guard:=by
 cases d with
 | none=>rfl
 | some t =>
  have h:=h t rfl;obtain ⟨d',op,ty,pos,af,gd⟩:=o
  cases gd with
  | none=>rfl
  | some gd =>
   obtain ⟨j,b⟩:=gd
   have cj:∀ t',kJ ops.toList j=true->(sW ops.toList j).dst=some t'->t'≠t:=fun t' hj th he=>by
    subst he;apply h;have mJ:=Kp ops.toList j (CQ hj);simp only [Array.toArray_toList] at mJ;simp [Oper.looksAt,mJ,th]
   have hv:oo ops.toList (bH fr t g) j=oo ops.toList fr j:=by
    unfold oo
    cases kC:kJ ops.toList j with
    | false=>rfl
    | true =>
     cases hd:(sW ops.toList j).dst with
     | none=>rfl
     | some t' =>
      simp only;rw [Kb,IW (cj t' kC hd)]
   simp only [gG,bz,hv]
theorem YQ.at {i:Nat} {g:GV} {fr:List GV} {Γ:List Ob} {o:Oper} (h:YQ P ops i g fr Γ) (ho:ops[i]?=some o) {B:Bs} {K:Fz} {β:Bt} {w:World} {l:List Value} (hI:Inv B K β Γ w) (hF:FR K β fr l):∃ v,Rel K β v g/\((Region.wanted o (yielded ops (act l).tmps)=true/\(execOp (ev l) o).run P w=.ok (.value v) w)\/(Region.wanted o (yielded ops (act l).tmps)=false/\v=undef)):=by
 obtain ⟨o',c,I,F,h3⟩:=h;rw [ho] at I;cases I;have hw:=JU (hF.mask (ts:=o.looksAt ops) 0) F
 cases c with
 | true =>
  obtain ⟨v,hr,hv⟩:=h3 B K β w l hI (hF.mask 0);exact ⟨v,hv,.inl ⟨hw,by obtain ⟨d,op,ty,pos,af,gd⟩:=o;exact hr d ty pos af⟩⟩
 | false=>subst h3;exact ⟨undef,.v _,.inr ⟨hw,rfl⟩⟩
theorem GI.comm {i j:Nat} {g:GV} {oi oj:Oper} {Kt:GV->List Ob->Prop} {fr:List GV} {Γ:List Ob} (hi:ops[i]?=some oi) (hj:ops[j]?=some oj) (Sw:oi.apart ops oj=true) (hsj:∀ cs b,oj.op≠.select cs b) (hy:YQ P ops i g fr Γ)
  (h:GI P ops j Kt (bz fr oi.dst g) Γ):GI P ops j Kt fr Γ:=by
 obtain ⟨a1,a2,a3⟩:=Oper.apart_spec Sw;obtain ⟨o,c,I,F,h3⟩:=h;rw [hj] at I;cases I;rw [Vx a1] at F;refine ⟨oj,c,hj,F,?_⟩
 cases c with
 | false=>exact h3
 | true =>
  intro B K β w l hI hF;obtain ⟨v,hv,_⟩:=hy.at hi hI hF;have:=h3 B K β w (put l oi.dst v) hI (hF.put _ hv)
  have he:execOp (ev (put l oi.dst v)) oj=execOp (ev l) oj:=by
   have:=execOp_put oj hsj (act l) oi.dst v a1;rw [qs,n9,n9] at this;exact this
  unfold Fs at this |-;rw [he] at this;exact this
theorem qH.first {Q:List GV->List Ob->Prop} {i:Nat} {oi:Oper} {g:GV} {pD:List GV} (hi:ops[i]?=some oi) (aak:∀ (j:Nat) (o:Oper) cs b,ops[j]?=some o->o.op≠.select cs b) :
  ∀ (n:Nat) (a7:lT) (listed:Array Bool) (fr:List GV) (Γ:List Ob),
   (∀ j oj,ops[j]?=some oj->j≠i->listed.getD j true=false->(∀ e∈oj.after,Region.binds .any e=true->e.on≠i)->oi.apart ops oj=true) ->
   i∈Region.ready .any ops listed->db (oi.looksAt ops) 0 fr=db (oi.looksAt ops) 0 pD->YQ P ops i g pD Γ->(∀ p∈a7,YQ P ops p.1 p.2.1 p.2.2 Γ) ->
   qH P ops Q n ((i,g,pD)::a7) (listed.setIfInBounds i true) (bz fr oi.dst g) Γ->qH P ops Q (n+1) a7 listed fr Γ:=by
 have hd:lW ops i=oi.dst:=by simp [lW,hi]
 have Xf:∀ {fr:List GV} {Γ:List Ob},db (oi.looksAt ops) 0 fr=db (oi.looksAt ops) 0 pD->YQ P ops i g pD Γ->YQ P ops i g fr Γ:=by
  rintro fr Γ hm ⟨o,c,I,F,h3⟩;rw [hi] at I;cases I;exact ⟨oi,c,hi,by rw [hm];exact F,by rw [hm];exact h3⟩
 have self:∀ (n:Nat) (a7:lT) (listed:Array Bool) (fr:List GV) (Γ:List Ob),db (oi.looksAt ops) 0 fr=db (oi.looksAt ops) 0 pD->YQ P ops i g pD Γ->(∀ p∈a7,YQ P ops p.1 p.2.1 p.2.2 Γ) ->
   qH P ops Q n ((i,g,pD)::a7) (listed.setIfInBounds i true) (bz fr oi.dst g) Γ ->
   GI P ops i (fun g aS=>(∀ p∈stay ops i a7,YQ P ops p.1 p.2.1 p.2.2 aS)/\qH P ops Q n (stay ops i a7) (listed.setIfInBounds i true) (bz fr (lW ops i) g) aS) fr Γ:=by
  intro n a7 listed fr Γ uz hy hp H
  have bI:∀ p∈stay ops i a7,p∈a7:=fun p hp=>by simp only [stay,mem_filter] at hp;exact hp.1
  have H':qH P ops Q n (stay ops i a7) (listed.setIfInBounds i true) (bz fr (lW ops i) g) Γ:=by
   rw [hd];exact qH.Sh n _ _ _ _ _ (fun p hp=>cV _ (bI p hp)) H
  obtain ⟨o,c,I,F,h3⟩:=Xf uz hy;rw [hi] at I;cases I
  have rz:gG ops.toList fr oi.guard=some c:=by
   obtain ⟨d',op,ty,pos,af,gd⟩:=oi
   cases gd with
   | none=>exact F
   | some gd =>
    obtain ⟨j,b⟩:=gd;simp only [gG] at F |-
    have hv:∀ x,oo ops.toList (db (Oper.looksAt ops ⟨d',op,ty,pos,af,some (j,b)⟩) 0 fr) j=some x->oo ops.toList fr j=some x:=by
     intro x hx;unfold oo at hx |-
     cases kC:kJ ops.toList j with
     | false=>rw [kC] at hx;cases hx
     | true =>
      rw [kC] at hx
      cases hdt:(sW ops.toList j).dst with
      | none=>rw [hdt] at hx;cases hx
      | some t =>
       rw [hdt] at hx;simp only at hx |-
       have qR:∀ (ts:List Nat) (fr:List GV) (k t:Nat),kJ (db ts k fr) t=kJ fr t:=by
        intro ts fr
        induction fr with
        | nil=>intro k t;rfl
        | cons x fr ih=>intro k t;cases t with | zero=>rfl | succ t=>exact ih (k+1) t
       have N4:∀ (ts:List Nat) (fr:List GV) (k t:Nat) ,dj (db ts k fr) t=dj fr t\/dj (db ts k fr) t=.U:=by
        intro ts fr
        induction fr with
        | nil=>intro k t;exact .inl rfl
        | cons x fr ih =>
         intro k t
         cases t with
         | zero=>simp only [db,dj];split <;> first | exact .inl rfl | exact .inr rfl
         | succ t=>exact ih (k+1) t
       rw [qR] at hx
       rcases N4 (Oper.looksAt ops ⟨d',op,ty,pos,af,some (j,b)⟩) fr 0 t with h | h
       ·rw [h] at hx;exact hx
       ·rw [h] at hx
        split at hx <;> first | (rename_i h5;cases h5;done) | cases hx
    split at F
    ·rename_i c' hc;rw [hv _ hc];exact F
    ·rename_i hc;rw [hv _ hc];exact F
    ·cases F
  refine ⟨oi,c,hi,rz,?_⟩
  have kp:∀ p∈stay ops i a7,YQ P ops p.1 p.2.1 p.2.2 Γ:=fun p hq=>hp p (bI p hq)
  cases c with
  | true =>
   intro B K β w l hI hF;obtain ⟨v,hr,hv⟩:=h3 B K β w l hI (hF.mask 0)
   have nO:(execOp (ev l) oi).run P w=.ok (.value v) w:=by obtain ⟨d,op,ty,pos,af,gd⟩:=oi;exact hr d ty pos af
   unfold Fs;rw [nO];exact ⟨K,β,g,Γ,c6.refl K,dJ.refl β,hI,fun fr l hf=>hf.put _ hv,kp,H'⟩
  | false =>
   simp only at h3;subst h3;exact ⟨kp,H'⟩
 intro n
 induction n with
 | zero =>
  intro a7 listed fr Γ _ hr uz hy hp H;refine ⟨fun h=>(by rw [h] at hr;cases hr),fun j hj=>?_⟩
  by_cases pd:j=i
  ·subst pd;exact self 0 a7 listed fr Γ uz hy hp H
  ·have:=ready_mono hj pd;rw [H.1] at this;cases this
 | succ n ih =>
  intro a7 listed fr Γ SD hr uz hy hp H;refine ⟨fun h=>(by rw [h] at hr;cases hr),fun j hj=>?_⟩
  by_cases pd:j=i
  ·subst pd;exact self (n+1) a7 listed fr Γ uz hy hp H
  ·have I:=H.2 j (ready_mono hj pd);obtain ⟨V0,oj,Od,aY⟩:=mem_ready.1 hj
   have V6:∀ e∈oj.after,Region.binds .any e=true->e.on≠i:=fun e he hb heq=>by
    have I:=aY e he hb;have h0:=(mem_ready.1 hr).1;rw [heq] at I
    rcases Nat.lt_or_ge i listed.size with h' | h'
    ·simp [h'] at h0 I;rw [h0] at I;cases I
    ·simp [Array.getElem?_eq_none h'] at I
   have Sw:=SD j oj Od pd V0 V6;obtain ⟨a1,a2,a3⟩:=Oper.apart_spec Sw
   have tg:waits ops j i=false:=by
    simp only [waits,Od];rw [Array.any_eq_false'];intro e he hb;simp only [aE,beq_iff_eq] at hb;exact V6 e he hb.1 hb.2
   have bI:stay ops j ((i,g,pD)::a7)=(i,g,pD)::stay ops j a7:=by
    simp [stay,List.filter_cons,tg]
   rw [bI] at I;have F:=GI.comm hi Od Sw (fun cs b=>aak j oj cs b Od) (Xf uz hy) I
   have YU:lW ops j=oj.dst:=by simp [lW,Od]
   have VZ:∀ k ok,ops[k]?=some ok->k≠i->(listed.setIfInBounds j true).getD k true=false ->
     (∀ e∈ok.after,Region.binds .any e=true->e.on≠i)->oi.apart ops ok=true:=fun k ok hk de Zf bX=>by
    refine SD k ok hk de ?_ bX
    by_cases hjk:j=k
    ·subst hjk;exact V0
    ·rw [getD_set_ne true hjk] at Zf;exact Zf
   refine F.mono fun gj aS ⟨h3,h4⟩=>⟨fun p hp=>h3 p (cV _ hp),?_⟩
   refine ih (stay ops j a7) (listed.setIfInBounds j true) (bz fr (lW ops j) gj) aS VZ (ready_mono hr (Ne.symm pd)) ?_ (h3 (i,g,pD) (mem_cons_self)) (fun p hp=>h3 p (cV _ hp)) ?_
   ·rw [<-uz,YU];exact Q6 a3 fr
   ·rw [Array.setIfInBounds_comm _ _ pd]
    have XS:bz (bz fr (lW ops j) gj) oi.dst g=bz (bz fr oi.dst g) (lW ops j) gj:=by
     rw [YU]
     cases hdi:oi.dst with
     | none=>rfl
     | some t =>
      cases hdj':oj.dst with
      | none=>rfl
      | some u =>
       have cj:t≠u:=fun e=>a2 t hdi (by rw [hdj',e])
       have gen:∀ (fr:List GV) (t u:Nat),t≠u->bH (bH fr u gj) t g=bH (bH fr t g) u gj:=by
        intro fr
        induction fr with
        | nil=>intro t u _;rfl
        | cons x fr ih =>
         intro t u h
         cases t with
         | zero=>cases u with | zero=>exact absurd rfl h | succ u=>rfl
         | succ t=>cases u with | zero=>rfl | succ u=>simp only [bH];rw [ih t u (fun e=>h (by rw [e]))]
       exact gen fr t u cj
    rw [XS];exact h4
inductive Ot where
 | nil
 | q (i:Nat) (r:Ot)
 | a (i:Nat) (r:Ot)
 | f (i:Nat) (r:Ot) (j:Nat) (s:Ot)
def Ot.len:Ot->Nat
 | .nil=>0
 | .q _ r=>r.len+1
 | .a _ r=>r.len+1
 | .f _ r _ _=>r.len+1
def uO (ops:Array Oper):Ot->Array Bool->Bool
 | .nil,listed=>(Region.ready .any ops listed).isEmpty
 | .q i r,listed=>(Region.ready .any ops listed).contains i&&Region.free .any ops listed i&&uO ops r (listed.setIfInBounds i true)
 | .a i r,listed=>(Region.ready .any ops listed==[i])&&uO ops r (listed.setIfInBounds i true)
 | .f i r j s,listed=>(Region.ready .any ops listed==[i,j])&&uO ops r (listed.setIfInBounds i true)&&uO ops s (listed.setIfInBounds j true)&&(r.len==s.len)
def GO (P:Program) (ops:Array Oper) (Q:List GV->List Ob->Prop):Ot->lT->List GV->List Ob->Prop
 | .nil,_,fr,Γ=>Q fr Γ
 | .q i r,a7,fr,Γ=>∃ g,YQ P ops i g fr Γ/\GO P ops Q r ((i,g,fr)::a7) (bz fr (lW ops i) g) Γ
 | .a i r,a7,fr,Γ=>GI P ops i (fun g aS=>(∀ p∈stay ops i a7,YQ P ops p.1 p.2.1 p.2.2 aS)/\GO P ops Q r (stay ops i a7) (bz fr (lW ops i) g) aS) fr Γ
 | .f i r j s,a7,fr,Γ=>GI P ops i (fun g aS=>(∀ p∈stay ops i a7,YQ P ops p.1 p.2.1 p.2.2 aS)/\GO P ops Q r (stay ops i a7) (bz fr (lW ops i) g) aS) fr Γ/\GI P ops j (fun g aS=>(∀ p∈stay ops j a7,YQ P ops p.1 p.2.1 p.2.2 aS)/\GO P ops Q s (stay ops j a7) (bz fr (lW ops j) g) aS) fr Γ
theorem GO.fork {ops:Array Oper} {Q:List GV->List Ob->Prop} {i j:Nat} {r s:Ot} {a7:lT} {fr:List GV} {Γ:List Ob} (I:GO P ops Q (.a i r) a7 fr Γ) (F:GO P ops Q (.a j s) a7 fr Γ):GO P ops Q (.f i r j s) a7 fr Γ:=⟨I,F⟩
theorem GO.all {ol:List Oper} {Q:List GV->List Ob->Prop} (hs:Region.noSelect ol.toArray=true):∀ (ord:Ot) (a7:lT) (listed:Array Bool) (fr:List GV) (Γ:List Ob),
  uO ol.toArray ord listed=true->(∀ p∈a7,YQ P ol.toArray p.1 p.2.1 p.2.2 Γ)->GO P ol.toArray Q ord a7 fr Γ->qH P ol.toArray Q ord.len a7 listed fr Γ
 | .nil,a7,listed,fr,Γ,ho,_,h=>⟨by simpa [uO] using ho,h⟩
 | .q i r,a7,listed,fr,Γ,ho,hp,h=>by
  simp only [uO,aE] at ho;obtain ⟨⟨hr,hf⟩,ho⟩:=ho;obtain ⟨g,hy,h⟩:=h
  have DM:i∈Region.ready .any ol.toArray listed:=by simpa using hr
  obtain ⟨_,o,hi,_⟩:=mem_ready.1 DM
  have hd:lW ol.toArray i=o.dst:=by simp only [lW,hi];rfl
  rw [hd] at h
  exact qH.first hi (Region.noSelect_spec hs) _ a7 listed fr Γ (Region.free_spec hi hf) DM rfl hy hp (GO.all hs r _ _ _ _ ho (fun p kp=>by
   rcases ei kp with rfl | kp
   ·exact hy
   ·exact hp p kp) h)
 | .a i r,a7,listed,fr,Γ,ho,hp,h=>by
  simp only [uO,aE,beq_iff_eq] at ho;obtain ⟨hr,ho⟩:=ho;refine ⟨fun h0=>by rw [h0] at hr;simp at hr,fun j hj=>?_⟩;rw [hr,List.mem_singleton] at hj;subst hj
  exact GI.mono h fun g aS ⟨I,F⟩=>⟨I,GO.all hs r _ _ _ _ ho I F⟩
 | .f i r j s,a7,listed,fr,Γ,ho,hp,h=>by
  simp only [uO,aE,beq_iff_eq] at ho;obtain ⟨⟨⟨hr,ho1⟩,ho2⟩,hl⟩:=ho;refine ⟨fun h0=>by rw [h0] at hr;simp at hr,fun k hk=>?_⟩;rw [hr] at hk;simp only [List.mem_cons,List.not_mem_nil,or_false] at hk
  rcases hk with rfl | rfl
  ·exact GI.mono h.1 fun g aS ⟨I,F⟩=>⟨I,GO.all hs r _ _ _ _ ho1 I F⟩
  ·exact GI.mono h.2 fun g aS ⟨I,F⟩=>⟨I,by
    have:=GO.all hs s _ _ _ _ ho2 I F
    rw [<-hl] at this;exact this⟩
theorem GW.draw {m id:Nat} {ol:List Oper} {Q:eu} {fr:List GV} {Γ:List Ob} (ord:Ot) (hm:P.follows .mixedOrders=true)
  (eT:(Region.noSelect ol.toArray&&(ord.len==ol.length)&&uO ol.toArray ord (Array.replicate ol.toArray.size false))=true)
  (h:GO P ol.toArray (Q .normal) ord [] fr Γ):GW P m (.region id ol.toArray true) Q fr Γ:=fun B K β w l hB hI hF=>by
 simp only [aE,beq_iff_eq] at eT;obtain ⟨⟨hs,hl⟩,ho⟩:=eT;refine wp_region_any hm ?_;have I:=GO.all hs ord [] _ fr Γ ho (fun p hp=>by cases hp) h;rw [hl] at I;have F:=qH.sound (Q':=Q) hB (fun fr Γ h=>h) _ _ _ _ _ K β w.drew l I (hI.same (Ext.drew w)) hF;simpa using F
end
def ke:List Oper->Nat->Option Oper
 | [],_=>none
 | o::_,0=>some o
 | _::r,n+1=>ke r n
theorem rL {ol:List Oper} {i:Nat} {o:Oper} (h:ke ol i=some o):ol.toArray[i]?=some o:=by
 have:∀ (ol:List Oper) (i:Nat),ke ol i=ol[i]?:=by
  intro ol
  induction ol with
  | nil=>intro i;rfl
  | cons x ol ih=>intro i;cases i with | zero=>rfl | succ i=>simpa [ke] using ih i
 rw [this] at h;simpa using h
section
variable {P:Program} {Q:List GV->List Ob->Prop} {ol:List Oper} {r:Ot} {a7:lT} {fr:List GV} {Γ:List Ob} {i:Nat} {g:GV} {d:Option Tmp} {op:Op} {ty:TypeId} {pos:String} {af:Array Edge} {gd:Nat × Bool}
theorem vZ {o:Oper} (h:ke ol i=some o):lW ol.toArray i=o.dst:=by simp only [lW,rL h];rfl
theorem GO.more {ops:Array Oper}:∀ (r:Ot) (a7 eg:lT) (fr:List GV) (Γ:List Ob),(∀ p∈eg,p∈a7\/∀ Γ,YQ P ops p.1 p.2.1 p.2.2 Γ)->GO P ops Q r a7 fr Γ->GO P ops Q r eg fr Γ
 | .nil,_,_,_,_,_,h=>h
 | .q i r,a7,eg,fr,Γ,hs,⟨g,I,F⟩=>⟨g,I,GO.more r _ _ _ _ (fun p hp=>by
   rcases ei hp with rfl | hp
   ·exact .inl (mem_cons_self)
   ·exact (hs p hp).imp (cV _) id) F⟩
 | .a i r,a7,eg,fr,Γ,hs,h=>GI.mono h fun g aS ⟨I,F⟩=>by
   have pe:∀ p∈stay ops i eg,p∈stay ops i a7\/∀ Γ,YQ P ops p.1 p.2.1 p.2.2 Γ:=fun p hp=>by
    simp only [stay,mem_filter] at hp |-;exact (hs p hp.1).imp (fun h=>⟨h,hp.2⟩) id
   exact ⟨fun p hp=>(pe p hp).elim (I p) (fun h=>h aS),GO.more r _ _ _ _ pe F⟩
 | .f i r j s,a7,eg,fr,Γ,hs,h=>by
   have pe:∀ k,∀ p∈stay ops k eg,p∈stay ops k a7\/∀ Γ,YQ P ops p.1 p.2.1 p.2.2 Γ:=fun k p hp=>by
    simp only [stay,mem_filter] at hp |-;exact (hs p hp.1).imp (fun h=>⟨h,hp.2⟩) id
   exact ⟨GI.mono h.1 fun g aS ⟨I,F⟩=>⟨fun p hp=>(pe i p hp).elim (I p) (fun h=>h aS),GO.more r _ _ _ _ (pe i) F⟩,GI.mono h.2 fun g aS ⟨I,F⟩=>⟨fun p hp=>(pe j p hp).elim (I p) (fun h=>h aS),GO.more s _ _ _ _ (pe j) F⟩⟩
theorem GO.skip {ops:Array Oper} {x:Nat × GV × List GV} (hx:∀ Γ,YQ P ops x.1 x.2.1 x.2.2 Γ) (h:GO P ops Q r a7 fr Γ):GO P ops Q r (x::a7) fr Γ:=by
 refine GO.more r a7 _ fr Γ (fun p hp=>?_) h
 rcases ei hp with he | hp
 ·subst he;exact .inr hx
 ·exact .inl hp
theorem GO.yq {o:Oper} (hi:ke ol i=some o) (hy:YQ P ol.toArray i g fr Γ) (h:GO P ol.toArray Q r ((i,g,fr)::a7) (bz fr o.dst g) Γ):GO P ol.toArray Q (.q i r) a7 fr Γ :=
 ⟨g,hy,by rw [vZ hi];exact h⟩
theorem GO.yp {o:Oper} (hi:ke ol i=some o) (hy:∀ Γ,YQ P ol.toArray i g fr Γ) (h:GO P ol.toArray Q r a7 (bz fr o.dst g) Γ):GO P ol.toArray Q (.q i r) a7 fr Γ :=
 GO.yq hi (hy Γ) (GO.skip hy h)
theorem DJ {c:Bool} {ops:List Oper} (hv:oo ops fr gd.1=some (some c)) (hc:c=gd.2):gG ops fr (some gd)=some true:=by
 obtain ⟨j,b⟩:=gd;simp only at hv hc;simp only [gG,hv,hc];simp
theorem G2 {c:Bool} {ops:List Oper} (hv:oo ops fr gd.1=some (some c)) (hc:c=!gd.2):gG ops fr (some gd)=some false:=by
 obtain ⟨j,b⟩:=gd;simp only at hv hc;simp only [gG,hv,hc];simp
theorem Vy {ops:List Oper} (hv:oo ops fr gd.1=some none):gG ops fr (some gd)=some false:=by
 obtain ⟨j,b⟩:=gd;simp only at hv;simp only [gG,hv]
theorem YQ.t {o:Oper} (hi:ke ol i=some o) (hg:gG ol (db (o.looksAt ol.toArray) 0 fr) o.guard=some true) (hy:YG P o.op (db (o.looksAt ol.toArray) 0 fr) Γ g):YQ P ol.toArray i g fr Γ:=⟨o,true,rL hi,hg,hy⟩
theorem YQ.f {o:Oper} (hi:ke ol i=some o) (hg:gG ol (db (o.looksAt ol.toArray) 0 fr) o.guard=some false):YQ P ol.toArray i (.v undef) fr Γ:=⟨o,false,rL hi,hg,rfl⟩
theorem OQ (hi:ke ol i=some ⟨d,op,ty,pos,af,none⟩) (hy:YG P op (db (Oper.looksAt ol.toArray ⟨d,op,ty,pos,af,none⟩) 0 fr) Γ g) (h:GO P ol.toArray Q r ((i,g,fr)::a7) (bz fr d g) Γ):GO P ol.toArray Q (.q i r) a7 fr Γ :=
 GO.yq hi (YQ.t hi rfl hy) h
theorem OP (hi:ke ol i=some ⟨d,op,ty,pos,af,none⟩) (hy:∀ Γ,YG P op (db (Oper.looksAt ol.toArray ⟨d,op,ty,pos,af,none⟩) 0 fr) Γ g) (h:GO P ol.toArray Q r a7 (bz fr d g) Γ):GO P ol.toArray Q (.q i r) a7 fr Γ :=
 GO.yp hi (fun Γ=>YQ.t hi rfl (hy Γ)) h
theorem OQt {c:Bool} (hi:ke ol i=some ⟨d,op,ty,pos,af,some gd⟩) (hv:oo ol (db (Oper.looksAt ol.toArray ⟨d,op,ty,pos,af,some gd⟩) 0 fr) gd.1=some (some c)) (hc:c=gd.2) (hy:YG P op (db (Oper.looksAt ol.toArray ⟨d,op,ty,pos,af,some gd⟩) 0 fr) Γ g)
  (h:GO P ol.toArray Q r ((i,g,fr)::a7) (bz fr d g) Γ):GO P ol.toArray Q (.q i r) a7 fr Γ :=
 GO.yq hi (YQ.t hi (DJ hv hc) hy) h
theorem YH {c:Bool} (hi:ke ol i=some ⟨d,op,ty,pos,af,some gd⟩) (hv:oo ol (db (Oper.looksAt ol.toArray ⟨d,op,ty,pos,af,some gd⟩) 0 fr) gd.1=some (some c)) (hc:c=gd.2) (hy:∀ Γ,YG P op (db (Oper.looksAt ol.toArray ⟨d,op,ty,pos,af,some gd⟩) 0 fr) Γ g)
  (h:GO P ol.toArray Q r a7 (bz fr d g) Γ):GO P ol.toArray Q (.q i r) a7 fr Γ :=
 GO.yp hi (fun Γ=>YQ.t hi (DJ hv hc) (hy Γ)) h
theorem ONf {c:Bool} (hi:ke ol i=some ⟨d,op,ty,pos,af,some gd⟩) (hv:oo ol (db (Oper.looksAt ol.toArray ⟨d,op,ty,pos,af,some gd⟩) 0 fr) gd.1=some (some c)) (hc:c=!gd.2) (h:GO P ol.toArray Q r a7 (bz fr d (.v undef)) Γ):GO P ol.toArray Q (.q i r) a7 fr Γ :=
 GO.yp hi (fun Γ=>YQ.f hi (G2 hv hc)) h
theorem ONu (hi:ke ol i=some ⟨d,op,ty,pos,af,some gd⟩) (hv:oo ol (db (Oper.looksAt ol.toArray ⟨d,op,ty,pos,af,some gd⟩) 0 fr) gd.1=some none) (h:GO P ol.toArray Q r a7 (bz fr d (.v undef)) Γ):GO P ol.toArray Q (.q i r) a7 fr Γ :=
 GO.yp hi (fun Γ=>YQ.f hi (Vy hv)) h
theorem Km:∀ (fr:List GV) (ts:List Nat) (k t:Nat),k+t∈ts->dj (db ts k fr) t=dj fr t
 | [],_,_,_,_=>rfl
 | g::fr,ts,k,0,h=>by
  have hc:ts.contains k=true:=ej.2 (by simpa using h);simp only [db,hc,dj]
 | g::fr,ts,k,t+1,h=>by
  simp only [db,dj];exact Km fr ts (k+1) t (by rw [show k+1+t=k+(t+1) by omega];exact h)
theorem wz {o:Oper} {ops:Array Oper} {x:Operand} (h:x∈o.op.operands.toList):a6 (db (o.looksAt ops) 0 fr) x=a6 fr x:=by
 cases x with
 | tmp t =>
  refine Km fr _ 0 t ?_;rw [fk];refine List.mem_append_left _ (List.mem_filterMap.2 ⟨.tmp t,h,rfl⟩)
 | _=>rfl
theorem OPm {x:Operand} (hi:ke ol i=some ⟨d,.move x,ty,pos,af,none⟩) (h:GO P ol.toArray Q r a7 (bz fr d (a6 fr x)) Γ):GO P ol.toArray Q (.q i r) a7 fr Γ :=
 OP hi (fun Γ=>by
  have:=YG.mv (P:=P) (x:=x) (Γ:=Γ) (fr:=db (Oper.looksAt ol.toArray ⟨d,.move x,ty,pos,af,none⟩) 0 fr)
  rw [wz (by simp [Op.operands])] at this;exact this) h
theorem OPa {x:Operand} (hi:ke ol i=some ⟨d,.assign x,ty,pos,af,none⟩) (h:GO P ol.toArray Q r a7 (bz fr d (a6 fr x)) Γ):GO P ol.toArray Q (.q i r) a7 fr Γ :=
 OP hi (fun Γ=>by
  have:=YG.xT (P:=P) (x:=x) (Γ:=Γ) (fr:=db (Oper.looksAt ol.toArray ⟨d,.assign x,ty,pos,af,none⟩) 0 fr)
  rw [wz (by simp [Op.operands])] at this;exact this) h
theorem ZC {x:Operand} {c:Bool} (hi:ke ol i=some ⟨d,.move x,ty,pos,af,some gd⟩) (hv:oo ol (db (Oper.looksAt ol.toArray ⟨d,.move x,ty,pos,af,some gd⟩) 0 fr) gd.1=some (some c)) (hc:c=gd.2) (h:GO P ol.toArray Q r a7 (bz fr d (a6 fr x)) Γ):GO P ol.toArray Q (.q i r) a7 fr Γ :=
 YH hi hv hc (fun Γ=>by
  have:=YG.mv (P:=P) (x:=x) (Γ:=Γ) (fr:=db (Oper.looksAt ol.toArray ⟨d,.move x,ty,pos,af,some gd⟩) 0 fr)
  rw [wz (by simp [Op.operands])] at this;exact this) h
theorem ZB {c a b:Operand} {t:Bool} (hi:ke ol i=some ⟨d,.pick c a b,ty,pos,af,none⟩) (hc:a6 (db (Oper.looksAt ol.toArray ⟨d,.pick c a b,ty,pos,af,none⟩) 0 fr) c=.v (.bool t)) (ht:t=true) (h:GO P ol.toArray Q r a7 (bz fr d (a6 fr a)) Γ):GO P ol.toArray Q (.q i r) a7 fr Γ :=
 OP hi (fun Γ=>by
  have:=YG.Td (P:=P) (Γ:=Γ) (a:=a) (b:=b) hc ht
  rw [wz (by simp [Op.operands])] at this;exact this) h
theorem ZA {c a b:Operand} {t:Bool} (hi:ke ol i=some ⟨d,.pick c a b,ty,pos,af,none⟩) (hc:a6 (db (Oper.looksAt ol.toArray ⟨d,.pick c a b,ty,pos,af,none⟩) 0 fr) c=.v (.bool t)) (ht:t=false) (h:GO P ol.toArray Q r a7 (bz fr d (a6 fr b)) Γ):GO P ol.toArray Q (.q i r) a7 fr Γ :=
 OP hi (fun Γ=>by
  have:=YG.Tc (P:=P) (Γ:=Γ) (a:=a) (b:=b) hc ht
  rw [wz (by simp [Op.operands])] at this;exact this) h
inductive jJ (P:Program) (ops:Array Oper) (i:Nat) (aS:List Ob):lT->lT->Prop
 | n:jJ P ops i aS [] []
 | w {j:Nat} {g:GV} {pD:List GV} {a7 eg:lT} (hw:waits ops i j=true) (h:jJ P ops i aS a7 eg):jJ P ops i aS ((j,g,pD)::a7) eg
 | y {j:Nat} {g:GV} {pD:List GV} {a7 eg:lT} (hy:YQ P ops j g pD aS) (h:jJ P ops i aS a7 eg):jJ P ops i aS ((j,g,pD)::a7) ((j,g,pD)::eg)
theorem vw {ops:Array Oper} {q p:Nat × GV × List GV} (h:p∈stay ops i (q::a7)):(p=q/\waits ops i q.1=false)\/p∈stay ops i a7:=by
 simp only [stay,mem_filter] at h |-
 rcases ei h.1 with he | kp
 ·subst he;exact .inl ⟨rfl,by simpa using h.2⟩
 ·exact .inr ⟨kp,h.2⟩
theorem jJ.spec {ops:Array Oper} {aS:List Ob} {eg:lT} (h:jJ P ops i aS a7 eg):(∀ p∈stay ops i a7,YQ P ops p.1 p.2.1 p.2.2 aS)/\∀ p∈stay ops i a7,p∈eg:=by
 induction h with
 | n=>exact ⟨fun p hp=>(by cases hp),fun p hp=>(by cases hp)⟩
 | w hw h ih =>
  refine ⟨fun p hp=>?_,fun p hp=>?_⟩
  ·rcases vw hp with ⟨_,F⟩ | kp
   ·simp only at F;rw [hw] at F;cases F
   ·exact ih.1 p kp
  ·rcases vw hp with ⟨_,F⟩ | kp
   ·simp only at F;rw [hw] at F;cases F
   ·exact ih.2 p kp
 | y hy h ih =>
  refine ⟨fun p hp=>?_,fun p hp=>?_⟩
  ·rcases vw hp with ⟨he,_⟩ | kp
   ·subst he;exact hy
   ·exact ih.1 p kp
  ·rcases vw hp with ⟨he,_⟩ | kp
   ·subst he;exact mem_cons_self
   ·exact cV _ (ih.2 p kp)
def Vk (fr:List GV):Option Tmp->Bool
 | none=>true
 | some t=>kJ fr t
def ft (P:Program) (Q:List GV->List Ob->Prop) (ol:List Oper) (i:Nat) (r:Ot) (a7:lT) (fr:List GV) (d:Option Tmp) (cl:List GV) (aS:List Ob):Prop :=
 ∃ g eg,cl=bz fr d g/\jJ P ol.toArray i aS a7 eg/\GO P ol.toArray Q r eg (bz fr d g) aS
theorem GA.of {o:Oper} {Kt:GV->List Ob->Prop} {R:List GV->List Ob->Prop} {ops:Array Oper} (hg:o.guard=none) (hd:Vk fr o.dst=true) (hR:∀ cl aS,R cl aS->∃ g,cl=bz fr o.dst g/\Kt g aS) (h:GL P Γ.length ops (ba R (fun _ _ _=>False)) [o] fr Γ):GA P o Kt fr Γ:=fun B K β w l hI hF=>by
 have I:=h (cur K β Γ w) K β w l rfl hI.here hF;obtain ⟨d,op,ty,pos,af,gd⟩:=o;simp only at hg;subst hg;simp only at I hd;unfold WL wpList at I;rw [ae (by rfl)] at I
 rcases I with I | ⟨_,a0,w0,hf⟩
 ·rw [<-n9];refine Xm I (fun c a w' hf=>?_) (fun a w' hf=>?_) ?_ ?_
  ·obtain ⟨l',_,_,_,_,_,_,_,hq⟩:=hf;exact hq
  ·obtain ⟨l',_,_,_,_,_,_,_,hq⟩:=hf;exact hq
  ·rintro v w' ⟨l',hl,K',ca,cl,aS,bA,we,hq⟩;obtain ⟨g,rfl,hk⟩:=hR cl aS hq;rw [qs] at hl
   have jY:put l d v=l':=by
    have:=congrArg (fun a:Act=>a.tmps.toList) hl;simpa [act] using this
   subst jY;refine ⟨K',ca,g,aS,bA.kle,bA.ble,hI.Pa bA,fun NI l2 F=>?_,hk⟩
   cases d with
   | none=>exact F
   | some t =>
    refine F.fS t ?_;have hv:=we.nth t;have h3:nth (put l (some t) v) t=v:=wD (oA hF hd) v
    have h4:dj (bz fr (some t) g) t=g:=by
     have gen:∀ (fr:List GV) (t:Nat),kJ fr t=true->dj (bH fr t g) t=g:=by
      intro fr
      induction fr with
      | nil=>intro t h;cases h
      | cons x fr ih=>intro t h;cases t with | zero=>rfl | succ t=>exact ih t h
     exact gen fr t hd
    rw [h3,h4] at hv;exact hv
  ·rintro d' w' ⟨l',hl,_⟩;have:=congrArg (fun a:Act=>a.defers) hl
   cases d <;> simp [act,Act.put] at this
 ·obtain ⟨l',_,_,_,_,_,_,_,hq⟩:=hf;exact hq.elim
theorem ft.kt {cl:List GV} {aS:List Ob} (h:ft P Q ol i r a7 fr d cl aS):∃ g,cl=bz fr d g/\((∀ p∈stay ol.toArray i a7,YQ P ol.toArray p.1 p.2.1 p.2.2 aS)/\GO P ol.toArray Q r (stay ol.toArray i a7) (bz fr d g) aS):=by
 obtain ⟨g,eg,I,F,h3⟩:=h;obtain ⟨h4,h5⟩:=F.spec;exact ⟨g,I,h4,GO.more r _ _ _ _ (fun p hp=>.inl (h5 p hp)) h3⟩
theorem OA (hi:ke ol i=some ⟨d,op,ty,pos,af,none⟩) (hd:Vk fr d=true) (h:GL P Γ.length ol.toArray (ba (ft P Q ol i r a7 fr d) (fun _ _ _=>False)) [⟨d,op,ty,pos,af,none⟩] fr Γ):GO P ol.toArray Q (.a i r) a7 fr Γ:=by
 refine ⟨_,true,rL hi,rfl,?_⟩
 exact (GA.of (o:=⟨d,op,ty,pos,af,none⟩) rfl hd (fun cl aS hq=>ft.kt hq) h).mono fun g aS ⟨I,F⟩=>⟨I,by rw [vZ hi];exact F⟩
theorem R4 {c:Bool} (hi:ke ol i=some ⟨d,op,ty,pos,af,some gd⟩) (hd:Vk fr d=true) (hv:oo ol fr gd.1=some (some c)) (hc:c=gd.2) (h:GL P Γ.length ol.toArray (ba (ft P Q ol i r a7 fr d) (fun _ _ _=>False)) [⟨d,op,ty,pos,af,none⟩] fr Γ):GO P ol.toArray Q (.a i r) a7 fr Γ:=by
 refine ⟨_,true,rL hi,DJ hv hc,?_⟩
 have:=(GA.of (o:=⟨d,op,ty,pos,af,none⟩) rfl hd (fun cl aS hq=>ft.kt hq) h).mono (F7:=fun g aS=>(∀ p∈stay ol.toArray i a7,YQ P ol.toArray p.1 p.2.1 p.2.2 aS)/\GO P ol.toArray Q r (stay ol.toArray i a7) (bz fr (lW ol.toArray i) g) aS) fun g aS ⟨I,F⟩=>⟨I,by rw [vZ hi];exact F⟩
 exact this
theorem OAf {c:Bool} {eg:lT} (hi:ke ol i=some ⟨d,op,ty,pos,af,some gd⟩) (hv:oo ol fr gd.1=some (some c)) (hc:c=!gd.2) (hs:jJ P ol.toArray i Γ a7 eg) (h:GO P ol.toArray Q r eg (bz fr d (.v undef)) Γ):GO P ol.toArray Q (.a i r) a7 fr Γ :=
 ⟨_,false,rL hi,G2 hv hc,hs.spec.1,by rw [vZ hi];exact GO.more r _ _ _ _ (fun p hp=>.inl (hs.spec.2 p hp)) h⟩
theorem OAu {eg:lT} (hi:ke ol i=some ⟨d,op,ty,pos,af,some gd⟩) (hv:oo ol fr gd.1=some none) (hs:jJ P ol.toArray i Γ a7 eg) (h:GO P ol.toArray Q r eg (bz fr d (.v undef)) Γ):GO P ol.toArray Q (.a i r) a7 fr Γ :=
 ⟨_,false,rL hi,Vy hv,hs.spec.1,by rw [vZ hi];exact GO.more r _ _ _ _ (fun p hp=>.inl (hs.spec.2 p hp)) h⟩
theorem GO.nil (h:Q fr Γ):GO P ol.toArray Q .nil a7 fr Γ:=h
theorem ft.mk {eg:lT} (hs:jJ P ol.toArray i Γ a7 eg) {pD:List GV} (h:GO P ol.toArray Q r eg (bz pD d g) Γ):ft P Q ol i r a7 pD d (bz pD d g) Γ:=⟨g,eg,rfl,hs,h⟩
theorem pg {ops:Array Oper} {cl:List GV} {aS:List Ob} (I:fr=cl) (F:Γ=aS) (h:GO P ops Q r a7 cl aS):GO P ops Q r a7 fr Γ:=by subst I;subst F;exact h
theorem YF {ops:Array Oper} {cl:List GV} (I:fr=cl) (h:GO P ops Q r a7 cl Γ):GO P ops Q r a7 fr Γ:=by subst I;exact h
end
theorem GW.range {P:Program} {m:Nat} {Q:eu} {fr:List GV} {Γ:List Ob} {B C r1 r2:Nat} {body:Code} {tb ti tn ta:Tmp} {T1 T2 T3 T4 T5 T6 T7:TypeId} {p1 p2 p3:String} {a1 a2 a3:Array Edge} (n:Nat) (abf:Nat->List GV->List Ob->Prop)
  (h0:Ak m (abf 0) fr Γ) (hn:n<=1099511627776)
  (hI:∀ k fr Γ,abf k fr Γ->dj fr ti=.v (ii k)/\dj fr tn=.v (ii n)/\kJ fr tb=true)
  (XR:∀ k fr Γ,k < n->abf k fr Γ->GW P m body (bc C (ba (fun cl aS=>dj cl ti=.v (ii k)/\kJ cl ta=true/\Ak m (abf (k+1)) (bH (bH cl ta (.v (ii ((k+1:Nat):Int)))) ti (.v (ii ((k+1:Nat):Int)))) aS) (bc B Q))) (bH fr tb (.v (.bool true))) Γ)
  (qe:∀ fr Γ,abf n fr Γ->Q .normal (bH fr tb (.v (.bool false))) Γ) :
  GW P m (.loop (.seq (.region r1 [(⟨some tb,.binOp .lss T1 (.tmp ti) (.tmp tn) T2,T3,p1,a1,none⟩:Oper)].toArray false) (.seq (.cond (.tmp tb) .skip (.exit B))
   (.seq (.block C body) (.region r2 [(⟨some ta,.binOp .add T4 (.tmp ti) (.const (.int .i64 1)) T5,T6,p2,a2,none⟩:Oper),⟨some ti,.move (.tmp ta),T7,p3,a3,none⟩].toArray false))))) (bc B Q) fr Γ:=by
 have lf:∀ (fr:List GV) (t:Nat) (g:GV),kJ fr t=true->dj (bH fr t g) t=g:=by
  intro fr
  induction fr with
  | nil=>intro t g h;cases h
  | cons x fr ih=>intro t g h;cases t with | zero=>rfl | succ t=>exact ih t g h
 refine GW.loop (fun k:Nat=>n - k) (fun k fr Γ=>k<=n/\abf k fr Γ) 0 ?_ ?_
 ·obtain ⟨cl,aS,hw,h⟩:=h0;exact ⟨cl,aS,hw,aX _,h⟩
 rintro k fr Γ ⟨hk,hi⟩;obtain ⟨I,F,h3⟩:=hI k fr Γ hi;refine GW.seq (GW.region (GL.q (YG.go (v:=.bool (decide ((k:Int) < (n:Int)))) ?_) (GL.nil (be ?_))))
 ·simp only [VE,Xw.go,a6,I,F,DK,Lw,ii,Mj,Lx]
 by_cases ar:k < n
 ·have hd:decide ((k:Int) < (n:Int))=true:=by simpa using ar
  simp only [bz,hd];refine GW.seq (R0 (lf fr tb _ h3) rfl (GW.skip (be (GW.seq (GW.block ?_)))));refine GW.mono (XR k fr Γ ar hi) ?_;intro e cl aS hq;have key:∀ cl aS,(dj cl ti=.v (ii k)/\kJ cl ta=true/\Ak m (abf (k+1)) (bH (bH cl ta (.v (ii ((k+1:Nat):Int)))) ti (.v (ii ((k+1:Nat):Int)))) aS) ->
    GW P m (.region r2 [(⟨some ta,.binOp .add T4 (.tmp ti) (.const (.int .i64 1)) T5,T6,p2,a2,none⟩:Oper),⟨some ti,.move (.tmp ta),T7,p3,a3,none⟩].toArray false) (ba (fun cl aS=>∃ y:Nat,Ak m (fun fr Γ=>y<=n/\abf y fr Γ) cl aS/\n - y < n - k) (bc B Q)) cl aS:=by
   rintro cl aS ⟨h5,h6,NI,Tt,hw,h7⟩;refine GW.region (GL.q (YG.yh (a:=k) h5 rfl (by omega)) (GL.q YG.mv (GL.nil (be ⟨k+1,⟨NI,Tt,?_,ar,h7⟩,by omega⟩))));have h8:a6 (bH cl ta (.v (ii ((k+1:Nat):Int)))) (.tmp ta)=.v (ii ((k+1:Nat):Int)):=lf cl ta _ h6;simp only [bz,h8];exact hw
  cases e with
  | normal=>exact key cl aS hq
  | exit id =>
   simp only [bc] at hq |-;split <;> rename_i hh
   ·rw [ae hh] at hq;exact key cl aS hq
   ·rw [ab hh] at hq;exact hq
  | goto _=>exact hq
  | ret=>exact hq
  | panic _=>exact hq
  | outgrown=>exact hq
 ·have wq:k=n:=by omega
  have hd:decide ((k:Int) < (n:Int))=false:=by simpa using ar
  simp only [bz,hd];refine GW.seq (RZ (lf fr tb _ h3) rfl (GW.exit (G5 (G5 (JW ?_)))));subst wq;exact qe fr Γ hi
def kY (g g':GV):Prop:=∀ K β x,Rel K β x g->Rel K β x g'
def j0 (gs hs:List GV):Prop:=∀ K β vs,bg K β vs gs->bg K β vs hs
theorem kY.refl {g:GV}:kY g g:=fun _ _ _ h=>h
theorem kY.U {g:GV}:kY g .U:=fun _ _ _ _=>.U _
theorem kY.nil {k:Nat}:kY (.v (.slice none 0 0)) (.sl k []):=fun K β x h=>by
 rw [Rel.gy h];exact .sl0 _ _ _
theorem j0.nil:j0 [] []:=fun _ _ _ h=>h
theorem j0.refl {gs:List GV}:j0 gs gs:=fun _ _ _ h=>h
theorem j0.cons {g h:GV} {gs hs:List GV} (I:kY g h) (F:j0 gs hs):j0 (g::gs) (h::hs):=fun K β vs hv=>by
 cases vs with
 | nil=>have:=hv.1;simp at this
 | cons v vs=>obtain ⟨a,b⟩:=hv.oJ;exact .cons (I K β v a) (F K β vs b)
theorem kY.agg {gs hs:List GV} (h:j0 gs hs):kY (.agg gs) (.agg hs):=fun K β x hx=>by
 cases hx with
 | agg vs _ hl h'=>obtain ⟨a,b⟩:=h K β vs ⟨hl,h'⟩;exact .agg vs hs a b
theorem kY.tup {gs hs:List GV} (h:j0 gs hs):kY (.tup gs) (.tup hs):=fun K β x hx=>by
 cases hx with
 | tup vs _ hl h'=>obtain ⟨a,b⟩:=h K β vs ⟨hl,h'⟩;exact .tup vs hs a b
inductive U3:List GV->List GV->Prop
 | nil:U3 [] []
 | cons {f g:GV} {fs gs:List GV} (h:kY f g) (t:U3 fs gs):U3 (f::fs) (g::gs)
section
variable {P:Program} {m:Nat} {Q:eu} {fr:List GV} {Γ:List Ob} {ops:Array Oper} {rest:List Oper} {d:Option Tmp} {op:Op} {ty:TypeId} {pos:String} {af:Array Edge}
theorem Wk.cells (i:Nat) {E:TypeId} {cs ds:List GV} (hi:Γ[i]?=some (.box E cs)) (h:j0 cs ds):Wk m fr Γ fr (oset Γ i (.box E ds)):=fun B K β w l _ hI hF=>by
 rw [bD];refine ⟨K,β,⟨hI.ext,hI.kle,hI.ble,hI.loc,hI.fz,fun j x hj=>?_,fun j hj=>hI.out j (by simpa using hj),hI.dis,hI.own,hI.kn,hI.tab⟩,hF⟩;rw [iz] at hj;split at hj
 ·rename_i fx;split at hj
  ·cases hj;subst fx
   obtain ⟨b,vs,I,F,h3,h4⟩:=hI.ob i _ hi;exact ⟨b,vs,I,F,h K β vs h3,h4⟩
  ·cases hj
 ·exact hI.ob j x hj
theorem GL.Sb {f:FuncId} [hf:aI P f] (aR:List Nat) {args:List Operand} {qF:Array TypeId} {gs:List GV} {iN:List Ob} {R:GV->List Ob->Prop} (hc:GC P f gs iN R) (ha:j0 (args.map (a6 fr)) (ng (b7 aR Γ.length) gs)) (eT:kW aR Γ.length=true)
  (bJ:seen (b7 aR Γ.length) Γ aR iN) (h:∀ g aS,R g aS->aR.length<=aS.length/\GL P m ops Q rest (bz fr d (eN (b7 aR Γ.length) g)) (gF Γ aR (aS.map (Ob.eN (b7 aR Γ.length))))) :
  GL P m ops Q (⟨d,.call ⟨.value (.func f),args.toArray,qF⟩,ty,pos,af,none⟩::rest) fr Γ :=
 GL.calls (vs:=fun l=>args.map (ev l)) (fun K β w l hF=>⟨ha K β _ (hF.args args),by simp [execOp,resolve,ev,Deferred.ofValue,invoke,oE]⟩) eT bJ hc h
theorem GL.Sc {f:FuncId} [hf:aI P f] (aR:List Nat) {args:List Operand} {qF:Array TypeId} {gs:List GV} {iN sc:List Ob} {g:GV} (hc:GF P f gs iN g sc) (ha:j0 (args.map (a6 fr)) (ng (b7 aR Γ.length) gs)) (eT:kW aR Γ.length=true)
  (bJ:seen (b7 aR Γ.length) Γ aR iN) (hl:Nat.ble aR.length sc.length=true) (h:GL P m ops Q rest (bz fr d (eN (b7 aR Γ.length) g)) (gF Γ aR (sc.map (Ob.eN (b7 aR Γ.length))))) :
  GL P m ops Q (⟨d,.call ⟨.value (.func f),args.toArray,qF⟩,ty,pos,af,none⟩::rest) fr Γ :=
 GL.Sb aR hc ha eT bJ fun g' aS ⟨I,F⟩=>by subst I;subst F;exact ⟨by simpa using hl,h⟩
end
section
variable {P:Program} {fr:List GV} {Γ:List Ob} {g:GV}
theorem K.bin {o:BinOp} {t t':TypeId} {x y:Operand} (h:YG P (.binOp o t x y t') fr Γ g):YG P (.binOp o t x y t') fr Γ g:=h
theorem K.ld {t:TypeId} {x:Operand} (h:YG P (.load t x) fr Γ g):YG P (.load t x) fr Γ g:=h
theorem K.Vs {t:TypeId} {x:Operand} {i:Nat} (h:YG P (.fieldAddr t x i) fr Γ g):YG P (.fieldAddr t x i) fr Γ g:=h
theorem K.len {t:TypeId} {x:Operand} (h:YG P (.call ⟨.builtin .len,#[x],#[t]⟩) fr Γ g):YG P (.call ⟨.builtin .len,#[x],#[t]⟩) fr Γ g:=h
theorem K.nck {x:Operand} (h:YG P (.nilCheck x) fr Γ g):YG P (.nilCheck x) fr Γ g:=h
theorem K.idx {t:TypeId} {x y:Operand} (h:YG P (.indexAddr t x y) fr Γ g):YG P (.indexAddr t x y) fr Γ g:=h
theorem K.pick {a b c:Operand} (h:YG P (.pick a b c) fr Γ g):YG P (.pick a b c) fr Γ g:=h
theorem K.Pk {t:TypeId} {x:Operand} {a b c:Option Operand} (h:YG P (.slice t x a b c) fr Γ g):YG P (.slice t x a b c) fr Γ g:=h
theorem K.DV {f:Fn} {a b:Array Operand} (h:YG P (.makeFunc f a b) fr Γ g):YG P (.makeFunc f a b) fr Γ g:=h
end
section
variable {P:Program} {fn:Func} {m:Nat} {fr:List GV} {Γ aS:List Ob} {e:Exit} {g:GV}
theorem Cw {R:GV->List Ob->Prop} (h:xY P fn m (fun x Δ=>∃ y,kY x y/\R y Δ) e fr Γ):xY P fn m R e fr Γ :=
 ⟨h.1,fun B K β w l hm hI hF=>by
  obtain ⟨v,K',ca,x,Δ,I,F,h3,y,h4,h5⟩:=h.2 B K β w l hm hI hF
  exact ⟨v,K',ca,y,Δ,I,F,h4 _ _ _ h3,h5⟩⟩
end
end Go.Xg
