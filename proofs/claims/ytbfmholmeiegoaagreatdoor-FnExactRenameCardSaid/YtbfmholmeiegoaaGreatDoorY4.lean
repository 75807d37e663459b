/- Part 4 of proofs that are told in their last texts. -/
import Derived.WalkKit
import Derived.KernelRfl
import Derived.Test.YtbfmholmeiegoaaGreatDoorY1
import Derived.Orders
open List (all_cons flatten_cons getElem?_drop getElem?_take length_cons map_nil map_toArray mem_cons_self mem_filter size_toArray)
set_option linter.unusedVariables false
set_option linter.unusedSimpArgs false
set_option maxRecDepth 100000
namespace Go.Xw
open Go.RowKit
def nth:List Value->Nat->Value
 | [],_=>undef
 | v::_,0=>v
 | _::l,n+1=>nth l n
def fV:List Value->Nat->Value->List Value
 | [],_,_=>[]
 | _::l,0,v=>v::l
 | x::l,n+1,v=>x::fV l n v
def ev (l:List Value):Operand->Value
 | .tmp t=>nth l t
 | .const v=>v
 | .global g=>.pointer (some ⟨g,0,none⟩)
 | .func f=>.func (.func f) #[] #[]
def put (l:List Value) (d:Option Tmp) (v:Value):List Value :=
 match d with | some d=>fV l d v | none=>l
theorem ke (l:List Value) (t:Nat):l.toArray.getD t undef=nth l t:=by
 induction l generalizing t with
 | nil=>simp [nth]
 | cons x l ih =>
  cases t with
  | zero=>simp [nth]
  | succ t=>rw [nth,<-ih];simp [Array.getD]
theorem zZ (l:List Value) (t:Nat) (v:Value):l.toArray.setIfInBounds t v=(fV l t v).toArray:=by
 have h:∀ (l:List Value) t,fV l t v=l.set t v:=by
  intro l
  induction l with
  | nil=>intro t;rfl
  | cons x l ih=>intro t;cases t with | zero=>rfl | succ t=>simp [fV,ih]
 rw [h];simp
def act (l:List Value):Act:=⟨l.toArray,[]⟩
theorem oN (l:List Value):(act l).eval=ev l:=by
 funext x;cases x <;> first | rfl | exact ke l _
theorem qH (l:List Value) (d:Option Tmp) (v:Value):(act l).put d v=act (put l d v):=by
 cases d with
 | none=>rfl
 | some d=>simp only [act,Act.put,put];rw [zZ]
abbrev mR:=Exit->List Value->World->Prop
def lift (Q:mR):Exit->Act->World->Prop:=fun e a w=>∃ l,a=act l/\Q e l w
def W (P:Program) (c:Code) (Q:mR) (l:List Value) (w:World):Prop:=c.wp P (lift Q) (act l) w
def WL (P:Program) (ops:Array Oper) (Q:mR) (rest:List Oper) (l:List Value) (w:World):Prop :=
 wpList P ops (lift Q) rest (act l) w
def thn (next:List Value->World->Prop) (Q:mR):mR
 | .normal,l,w=>next l w
 | e,l,w=>Q e l w
def XR (id:Nat) (Q:mR):mR
 | .exit C6,l,w=>if C6=id then Q .normal l w else Q (.exit C6) l w
 | e,l,w=>Q e l w
section
variable {P:Program} {Q:mR} {l:List Value} {w:World} {ops:Array Oper} {rest:List Oper}
theorem W.seq {x y:Code} (h:W P x (thn (W P y Q) Q) l w):W P (.seq x y) Q l w:=by
 refine wp_seq (wp_mono h ?_);rintro e a w ⟨l,rfl,hq⟩
 cases e <;> first | exact hq | exact ⟨l,rfl,hq⟩
theorem W.skip (h:Q .normal l w):W P .skip Q l w:=wp_skip ⟨l,rfl,h⟩
theorem W.exit {n:Nat} (h:Q (.exit n) l w):W P (.exit n) Q l w:=wp_exit ⟨l,rfl,h⟩
theorem W.ret (h:Q .ret l w):W P .ret Q l w:=wp_ret ⟨l,rfl,h⟩
theorem W.block {id:Nat} {c:Code} (h:W P c (XR id Q) l w):W P (.block id c) Q l w:=by
 refine wp_block (wp_mono h ?_);rintro e a w ⟨l,rfl,hq⟩
 cases e with
 | exit C6 =>
  simp only [XR] at hq;simp only [Exit.inBlock];split <;> rename_i hh
  ·rw [ab hh] at hq;exact ⟨l,rfl,hq⟩
  ·rw [L hh] at hq;exact ⟨l,rfl,hq⟩
 | normal=>exact ⟨l,rfl,hq⟩
 | goto _=>exact ⟨l,rfl,hq⟩
 | ret=>exact ⟨l,rfl,hq⟩
 | panic _=>exact ⟨l,rfl,hq⟩
 | outgrown=>exact ⟨l,rfl,hq⟩
theorem W.cond {c:Operand} {x y:Code} {t:Bool} (hc:ev l c=.bool t) (ht:t=true->W P x Q l w) (hf:t=false->W P y Q l w):W P (.cond c x y) Q l w:=by
 refine wp_cond_split (t:=t) (by rw [oN];exact hc) ht hf
theorem W.mono {c:Code} {Q':mR} (h:W P c Q l w) (hq:∀ e l w,Q e l w->Q' e l w):W P c Q' l w :=
 wp_mono h fun _ _ _ ⟨l,ha,q⟩=>⟨l,ha,hq _ _ _ q⟩
theorem W.loop {c:Code} {α:Type} (μ:α->Nat) (acz:α->List Value->World->Prop) (x:α) (h0:acz x l w)
  (round:∀ x l w,acz x l w->W P c (thn (fun l' w'=>∃ y,acz y l' w'/\μ y < μ x) Q) l w):W P (.loop c) Q l w:=by
 have key:∀ n x l w,μ x=n->acz x l w->∀ (b:Frame) (k:List Item) (cs:List Frame),
   ∃ e a' w',lift Q e a' w'/\Arrives P (lone (b.at (act l) (.code c::.inLoop c::k)) cs w) b k cs e a' w':=by
  intro n
  induction n using Nat.strongRecOn with
  | _ n ih =>
   intro x l w hn hI b k cs;obtain ⟨e,abY,EI,hq,zk⟩:=round x l w hI b (.inLoop c::k) cs;obtain ⟨Eg,rfl,hq⟩:=hq
   cases e with
   | normal =>
    obtain ⟨y,Zi,ak⟩:=hq;obtain ⟨aaj,aah,abR,Zu,UX⟩:=ih (μ y) (hn ▸ ak) y Eg EI rfl Zi b k cs;exact ⟨aaj,aah,abR,Zu,.of_steps (Steps.trans zk (.one step_inLoop)) UX⟩
   | exit id=>exact ⟨_,_,EI,⟨Eg,rfl,hq⟩,.pass (x:=.inLoop c) rfl (fun _ _=>.inl (by simp)) zk⟩
   | goto _=>exact ⟨_,_,EI,⟨Eg,rfl,hq⟩,.pass (x:=.inLoop c) rfl (fun _ _=>.inl (by simp)) zk⟩
   | ret=>exact ⟨_,_,EI,⟨Eg,rfl,hq⟩,.pass (x:=.inLoop c) rfl (fun _ _=>.inl (by simp)) zk⟩
   | panic ch=>exact ⟨_,_,EI,⟨Eg,rfl,hq⟩,.pass (x:=.inLoop c) rfl (fun _ _=>.inl (by simp)) zk⟩
   | outgrown=>exact ⟨_,_,EI,⟨Eg,rfl,hq⟩,.pass (x:=.inLoop c) rfl (fun _ _=>.inl (by simp)) zk⟩
 intro b k cs;obtain ⟨e,a',w',hq,zk⟩:=key _ x l w rfl h0 b k cs;exact ⟨e,a',w',hq,.of_steps (.one step_loop) zk⟩
theorem W.region {id:Nat} {ol:List Oper} (h:WL P ol.toArray Q ol l w):W P (.region id ol.toArray false) Q l w :=
 wp_region_lit h
theorem WL.nil (h:Q .normal l w):WL P ops Q [] l w:=⟨l,rfl,h⟩
theorem WL.val {d:Option Tmp} {op:Op} {ty:TypeId} {pos:String} {af:Array Edge} {v:Value} {w':World}
  (hr:(execOp (ev l) ⟨d,op,ty,pos,af,none⟩).run P w=.ok (.value v) w')
  (h:WL P ops Q rest (put l d v) w'):WL P ops Q (⟨d,op,ty,pos,af,none⟩::rest) l w:=by
 refine wpList_plain rfl fun K hK=>?_
 simp only [Oper.wp,oN,hr,Oper.upon_value,qH];exact hK _ _ h
theorem WL.skp {d:Option Tmp} {op:Op} {ty:TypeId} {pos:String} {af:Array Edge} {w':World}
  (hr:(execOp (ev l) ⟨d,op,ty,pos,af,none⟩).run P w=.ok .skip w')
  (h:WL P ops Q rest (put l d undef) w'):WL P ops Q (⟨d,op,ty,pos,af,none⟩::rest) l w:=by
 refine wpList_plain rfl fun K hK=>?_
 simp only [Oper.wp,oN,hr,Oper.upon_skip,qH];exact hK _ _ h
theorem WL.gt {d:Option Tmp} {op:Op} {ty:TypeId} {pos:String} {af:Array Edge} {g:Option (Nat × Bool)}
  (hw:Region.wanted ⟨d,op,ty,pos,af,g⟩ (yielded ops (act l).tmps)=true)
  (h:WL P ops Q (⟨d,op,ty,pos,af,none⟩::rest) l w):WL P ops Q (⟨d,op,ty,pos,af,g⟩::rest) l w:=by
 unfold WL wpList at *;rw [ab hw];rw [ab (by rfl)] at h;exact h
theorem WL.gf {d:Option Tmp} {op:Op} {ty:TypeId} {pos:String} {af:Array Edge} {g:Option (Nat × Bool)}
  (hw:Region.wanted ⟨d,op,ty,pos,af,g⟩ (yielded ops (act l).tmps)=false)
  (h:WL P ops Q rest (put l d undef) w):WL P ops Q (⟨d,op,ty,pos,af,g⟩::rest) l w:=by
 unfold WL wpList;rw [L (by rw [hw];decide)];show wpList P ops (lift Q) rest ((act l).put d undef) w;rw [qH];exact h
end
section
variable {next:List Value->World->Prop} {Q:mR} {l:List Value} {w:World} {id C6:Nat}
end
structure Ext (S:Nat->Prop) (w w':World):Prop where
 os:w'.os=w.os
 tape:w'.tape=w.tape
 output:w'.output=w.output
 size:w.heap.size<=w'.heap.size
 block:∀ k,k < w.heap.size->¬ S k->w'.heap[k]?=w.heap[k]?
abbrev jm:Nat->Prop:=fun _=>False
theorem Ext.refl {S:Nat->Prop} (w:World):Ext S w w:=⟨rfl,rfl,rfl,aE _,fun _ _ _=>rfl⟩
theorem Ext.trans {S:Nat->Prop} {a b c:World} (h:Ext S a b) (k:Ext S b c):Ext S a c :=
 ⟨k.os.trans h.os,k.tape.trans h.tape,k.output.trans h.output,kA h.size k.size,
  fun i hi hs=>(k.block i (yD hi h.size) hs).trans (h.block i hi hs)⟩
theorem Ext.step {S0 S:Nat->Prop} {a b c:World} (h:Ext S0 a b) (k:Ext S b c) (hs:∀ j,S j->a.heap.size<=j\/S0 j):Ext S0 a c :=
 ⟨k.os.trans h.os,k.tape.trans h.tape,k.output.trans h.output,kA h.size k.size,
  fun i hi hn=>(k.block i (yD hi h.size) fun XI=>by
   rcases hs i XI with F | F
   ·omega
   ·exact hn F).trans (h.block i hi hn)⟩
theorem Ext.mono {S S':Nat->Prop} {a b:World} (h:Ext S a b) (hs:∀ k,k < a.heap.size->S k->S' k):Ext S' a b :=
 ⟨h.os,h.tape,h.output,h.size,fun i hi hn=>h.block i hi fun x=>hn (hs i hi x)⟩
theorem Ext.blk {S:Nat->Prop} {a b:World} (h:Ext S a b) {k:Nat} {o:Obj} (hv:a.heap[k]?=some o) (hs:¬ S k):b.heap[k]?=some o:=by
 rw [h.block k (by have:=(Array.getElem?_eq_some_iff.1 hv).1;exact this) hs,hv]
theorem tD {w:World} {k:Nat} {o:Obj} (hv:w.heap[k]?=some o):k < w.heap.size:=(Array.getElem?_eq_some_iff.1 hv).1
theorem Ny {w:World} {b o:Nat} {cs:Array Value} {E:TypeId} {fz:Nat × Nat} {v:Value} (hb:w.heap[b]?=some (.cells cs E fz)) (hv:cs[o]?=some v):w.cell? ⟨b,o,none⟩=some v:=by
 rw [cell_of_row w b o cs E fz hb,hv]
theorem Ext.below {a b:World} (h:Ext jm a b):Below a.heap.size a b:=⟨h.os,h.tape,h.output,h.size,fun k hk=>h.block k hk (fun x=>x)⟩
structure wy (w w':World) (b:Nat) (o:Obj):Prop where
 fresh:b=w.heap.size
 size:w'.heap.size=b+1
 blk:w'.heap[b]?=some o
 ext:Ext jm w w'
theorem wy.of (w:World) (o:Obj):wy w (w.alloc o) w.heap.size o :=
 ⟨rfl,by simp,heap_alloc_new w o,⟨rfl,rfl,rfl,by simp,fun k hk _=>Below.heap_alloc _ _ _ hk⟩⟩
def Aa:TypeDesc->Bool
 | .struct _=>true
 | .array _ _=>true
 | _=>false
class Ty (P:Program) (t:TypeId) (agg:outParam Bool) (k:outParam Nat):Prop where
 und:(P.underlying t).map Aa=some agg
 siz:(P.info? t).map (·.size)=some k
class oB (P:Program) (t:TypeId) (e:outParam TypeId) (k:outParam Nat):Prop where
 und:P.underlying t=some (.slice e)
 siz:(P.info? e).map (·.size)=some k
class rb (P:Program) (t:TypeId):Prop where
 und:P.underlying t=some .string
def LS (P:Program) (s:TypeId) (i:Nat) (off:Nat) (k:Nat) (agg:Bool):Bool :=
 match P.underlying s with
 | some (.struct fs)=>match fs[i]? with
  | some f=>f.offset==off&&(match P.info? f.type with | some x=>x.size==k | none=>false)&&k != 0&&((P.underlying f.type).map Aa==some agg)
  | none=>false
 | _=>false
class ej (P:Program) (s:TypeId) (i:Nat) (off:outParam Nat) (k:outParam Nat) (agg:outParam Bool):Prop where
 is:LS P s i off k agg=true
section
variable {P:Program} {w:World}
theorem FL {t:TypeId} {agg:Bool} {k:Nat} [h:Ty P t agg k]:(isAgg t).run P w=.ok agg w:=by
 obtain ⟨hu,_⟩:=h
 cases hd:P.underlying t with
 | none=>simp [hd] at hu
 | some d =>
  rw [hd] at hu;unfold isAgg;rw [Sem.run_bind,run_underlying hd w]
  cases d <;> simp_all [Aa]
theorem jX {t:TypeId} {k:Nat} (h:(P.info? t).map (·.size)=some k):(sizeOf t).run P w=.ok k w:=by
 cases hq:P.info? t with
 | none=>simp [hq] at h
 | some i=>simp [hq] at h;simp [sizeOf,typeInfo,hq,h]
theorem rf (b o n:Nat):(⟨b,o,none⟩:Addr).add n=⟨b,o+n,none⟩:=by
 unfold Addr.add;split
 ·rename_i h;subst h;rfl
 ·rfl
theorem Ii {t:TypeId} [h:Ty P t false 1] {a:Addr} {v:Value} (hv:w.cell? a=some v):(loadVar t a).run P w=.ok v w:=by
 unfold loadVar;rw [Sem.run_bind,FL (agg:=false) (k:=1)];simp [hv]
theorem nj {t:TypeId} {k:Nat} [h:Ty P t true k] {b o:Nat} {vs:List Value} (hl:vs.length=k) (hv:∀ j v,vs[j]?=some v->w.cell? ⟨b,o+j,none⟩=some v) :
  (loadVar t ⟨b,o,none⟩).run P w=.ok (.agg vs.toArray) w:=by
 unfold loadVar;rw [Sem.run_bind,FL (agg:=true) (k:=k)]
 have hc:(loadCells ⟨b,o,none⟩ k).run P w=.ok vs.toArray w:=by
  rw [<-hl]
  exact run_loadCells_list w _ vs fun j v hj=>by rw [rf];exact hv j v hj
 simp [jX h.siz,hc]
end
def ft (P:Program) (l:List Value) (w:World) (op:Op) (v:Value):Prop :=
 ∀ (d:Option Tmp) (ty:TypeId) (pos:String) (af:Array Edge),(execOp (ev l) ⟨d,op,ty,pos,af,none⟩).run P w=.ok (.value v) w
theorem WL.v {P:Program} {Q:mR} {l:List Value} {w:World} {ops:Array Oper} {rest:List Oper} {d:Option Tmp} {op:Op} {ty:TypeId} {pos:String} {af:Array Edge} {v:Value}
  (hr:ft P l w op v) (h:WL P ops Q rest (put l d v) w):WL P ops Q (⟨d,op,ty,pos,af,none⟩::rest) l w:=WL.val (hr d ty pos af) h
section
variable {P:Program} {l:List Value} {w:World}
theorem R.mv {x:Operand}:ft P l w (.move x) ((ev l x)):=fun d ty pos af=>by simp [execOp]
theorem R.vr {x:Operand}:ft P l w (.assign x) ((ev l x)):=fun d ty pos af=>by simp [execOp]
theorem R.pick {c a b:Operand} {t:Bool} (hc:ev l c=.bool t):ft P l w (.pick c a b) ((if t then ev l a else ev l b)):=fun d ty pos af=>by simp [execOp,hc,asBool]
theorem R.Mx {x:Operand} {a:Addr} (hx:ev l x=.pointer (some a)):ft P l w (.nilCheck x) ((.pointer (some a))):=fun d ty pos af=>by simp [execOp,hx]
theorem R.extract {x:Operand} {i:Nat} {vs:Array Value} {v:Value} (hx:ev l x=.tuple vs) (hv:vs[i]?=some v):ft P l w (.extract x i) (v):=fun d ty pos af=>by simp [execOp,hx,Instr.extract,hv]
theorem R.Eh {fn:Fn} {first cap:Array Operand}:ft P l w (.makeFunc fn first cap) ((.func fn (first.map (ev l)) (cap.map (ev l)))):=fun d ty pos af=>by simp [execOp,Instr.makeFunc]
abbrev ae:=List UInt8
def sv (s:ae):Value:=.string ⟨s.toArray⟩
theorem toList_mk (s:ae):(⟨s.toArray⟩:ByteArray).toList=s:=by
 simp [ByteArray.toList_eq]
theorem xr (s:ae):(⟨s.toArray⟩:ByteArray).size=s.length:=by
 simp [ByteArray.size]
theorem AD (b:ByteArray):Value.string b=sv b.data.toList:=by
 simp [sv]
theorem Nx (a b:ae):(⟨a.toArray⟩:ByteArray)++⟨b.toArray⟩=⟨(a++b).toArray⟩:=by
 apply ByteArray.ext;simp
theorem extract_mk (s:ae) (i j:Nat):(⟨s.toArray⟩:ByteArray).extract i j=⟨((s.take j).drop i).toArray⟩:=by
 apply ByteArray.ext;simp [ByteArray.data_extract,List.take_drop]
 by_cases h:i<=j
 ·rw [Nat.add_sub_cancel' h]
 ·rw [List.drop_eq_nil_of_le (by simp;omega),List.drop_eq_nil_of_le (by simp;omega)]
theorem abX (x c:UInt8):((x.toNat:Int)==(c.toNat:Int))=(x==c):=by
 rw [Bool.eq_iff_iff];simp only [beq_iff_eq];constructor
 ·intro h;exact UInt8.toNat_inj.1 (by omega)
 ·rintro rfl;rfl
abbrev ii (n:Int):Value:=.int .i64 n
theorem EE {n:Int} (F : -9223372036854775808<=n) (I:n<=9223372036854775807):IntKind.i64.wrap n=n:=IntWalk.i64_in _ ⟨F,I⟩
theorem R.R3 {x:Operand} {t:TypeId} [hT:rb P t] {s:ae} (hx:ev l x=sv s):ft P l w (.call ⟨.builtin .len,#[x],#[t]⟩) ((ii s.length)):=fun d ty pos af=>by simp [execOp,resolve,invoke,builtin,hx,sv,Builtin.len_,goInt,run_underlying hT.und,xr]
theorem R.Mp {x:Operand} {t e:TypeId} {k:Nat} [hT:oB P t e k] {a:Option Addr} {n c:Nat} (hx:ev l x=.slice a n c):ft P l w (.call ⟨.builtin .len,#[x],#[t]⟩) ((ii n)):=fun d ty pos af=>by simp [execOp,resolve,invoke,builtin,hx,Builtin.len_,goInt,run_underlying hT.und]
theorem R.add {x y:Operand} {t t':TypeId} {a b:Int} (hx:ev l x=ii a) (hy:ev l y=ii b) (F : -9223372036854775808<=a+b) (I:a+b<=9223372036854775807):ft P l w (.binOp .add t x y t') ((ii (a+b))):=fun d ty pos af=>by simp [execOp,eqGuard,hx,hy,binOp,Op.intArith,EE F I]
theorem R.sub {x y:Operand} {t t':TypeId} {a b:Int} (hx:ev l x=ii a) (hy:ev l y=ii b) (F : -9223372036854775808<=a - b) (I:a - b<=9223372036854775807):ft P l w (.binOp .sub t x y t') ((ii (a - b))):=fun d ty pos af=>by simp [execOp,eqGuard,hx,hy,binOp,Op.intArith,EE F I]
theorem R.mul {x y:Operand} {t t':TypeId} {a b:Int} (hx:ev l x=ii a) (hy:ev l y=ii b) (F : -9223372036854775808<=a * b) (I:a * b<=9223372036854775807):ft P l w (.binOp .mul t x y t') ((ii (a * b))):=fun d ty pos af=>by simp [execOp,eqGuard,hx,hy,binOp,Op.intArith,EE F I]
theorem R.cat {x y:Operand} {t t':TypeId} {a b:ae} (hx:ev l x=sv a) (hy:ev l y=sv b) (F:a.length+b.length<=9223372036854775807):ft P l w (.binOp .add t x y t') ((sv (a++b))):=fun d ty pos af=>by
  have I:¬ ((((⟨a.toArray⟩:ByteArray).size+(⟨b.toArray⟩:ByteArray).size:Nat):Int) > IntKind.i64.max):=by
   rw [xr,xr];simp [IntKind.max,IntKind.signed,IntKind.bits];omega
  simp only [execOp,eqGuard,hx,hy,binOp,sv,Op.stringOp,L I,Nx];simp
theorem R.eq {x y:Operand} {t t':TypeId} {k:IntKind} {a b:Int} (hx:ev l x=.int k a) (hy:ev l y=.int k b):ft P l w (.binOp .eql t x y t') ((.bool (a==b))):=fun d ty pos af=>by simp [execOp,eqGuard,hx,hy,binOp,Op.intCmp]
theorem R.ne {x y:Operand} {t t':TypeId} {k:IntKind} {a b:Int} (hx:ev l x=.int k a) (hy:ev l y=.int k b):ft P l w (.binOp .neq t x y t') ((.bool (a != b))):=fun d ty pos af=>by simp [execOp,eqGuard,hx,hy,binOp,Op.intCmp]
theorem R.lt {x y:Operand} {t t':TypeId} {k:IntKind} {a b:Int} (hx:ev l x=.int k a) (hy:ev l y=.int k b):ft P l w (.binOp .lss t x y t') ((.bool (decide (a < b)))):=fun d ty pos af=>by simp [execOp,eqGuard,hx,hy,binOp,Op.intCmp]
theorem R.le {x y:Operand} {t t':TypeId} {k:IntKind} {a b:Int} (hx:ev l x=.int k a) (hy:ev l y=.int k b):ft P l w (.binOp .leq t x y t') ((.bool (decide (a<=b)))):=fun d ty pos af=>by simp [execOp,eqGuard,hx,hy,binOp,Op.intCmp]
theorem R.gt' {x y:Operand} {t t':TypeId} {k:IntKind} {a b:Int} (hx:ev l x=.int k a) (hy:ev l y=.int k b):ft P l w (.binOp .gtr t x y t') ((.bool (decide (b < a)))):=fun d ty pos af=>by simp [execOp,eqGuard,hx,hy,binOp,Op.intCmp]
theorem R.ge {x y:Operand} {t t':TypeId} {k:IntKind} {a b:Int} (hx:ev l x=.int k a) (hy:ev l y=.int k b):ft P l w (.binOp .geq t x y t') ((.bool (decide (b<=a)))):=fun d ty pos af=>by simp [execOp,eqGuard,hx,hy,binOp,Op.intCmp]
theorem R.CE {x y:Operand} {t t':TypeId} {a b:ae} (hx:ev l x=sv a) (hy:ev l y=sv b):ft P l w (.binOp .eql t x y t') ((.bool (a==b))):=fun d ty pos af=>by simp only [execOp,eqGuard,hx,hy,binOp,sv,Op.stringOp,toList_mk];simp
theorem R.Dk {x y:Operand} {t t':TypeId} {a b:ae} (hx:ev l x=sv a) (hy:ev l y=sv b):ft P l w (.binOp .neq t x y t') ((.bool (!(a==b)))):=fun d ty pos af=>by simp only [execOp,eqGuard,hx,hy,binOp,sv,Op.stringOp,toList_mk];simp
theorem R.not {x:Operand} {t:TypeId} {b:Bool} (hx:ev l x=.bool b):ft P l w (.unOp .not t x) ((.bool (!b))):=fun d ty pos af=>by simp [execOp,hx,Op.unary]
theorem R.sx {x y:Operand} {t:TypeId} [hT:rb P t] {s:ae} {k:IntKind} {i:Nat} {c:UInt8} (hx:ev l x=sv s) (hy:ev l y=.int k i) (hc:s[i]?=some c):ft P l w (.index t x y) ((.int .u8 c.toNat)):=fun d ty pos af=>by
  have hg:(⟨s.toArray⟩:ByteArray)[i]?=some c:=by
   obtain ⟨hi,hv⟩:=bo hc
   have qh:i < (⟨s.toArray⟩:ByteArray).size:=by rw [xr];exact hi
   rw [getElem?_pos (⟨s.toArray⟩:ByteArray) i qh];simp only [ByteArray.getElem_eq_getElem_data];simpa using hv
  simp [execOp,Instr.index,hx,hy,asIntOf,run_underlying hT.und,sv,hg]
theorem R.SE {x:Operand} {t:TypeId} [hT:rb P t] {s:ae} {lo hi:Option Operand} {i j:Nat} (hx:ev l x=sv s)
  (iP:match lo with | some y=>∃ k,ev l y=.int k i | none=>i=0) (n7:match hi with | some y=>∃ k,ev l y=.int k j | none=>j=s.length)
  (F:i<=j) (I:j<=s.length):ft P l w (.slice t x lo hi none) ((sv ((s.take j).drop i))):=fun d ty pos af=>by
  have dr:=xr s
  cases lo <;> cases hi <;> simp only at iP n7
  ·subst iP;subst n7;simp [execOp,Instr.sliceAt,Instr.slice,Instr.sliceBounds,hx,sv,run_underlying hT.und,dr,extract_mk]
  ·obtain ⟨k,hk⟩:=n7;subst iP;simp [execOp,Instr.sliceAt,Instr.slice,Instr.sliceBounds,Instr.sliceBound,asIntOf,hx,hk,sv,run_underlying hT.und,dr,extract_mk,I]
  ·obtain ⟨k,hk⟩:=iP;subst n7;simp [execOp,Instr.sliceAt,Instr.slice,Instr.sliceBounds,Instr.sliceBound,asIntOf,hx,hk,sv,run_underlying hT.und,dr,extract_mk,F]
  ·obtain ⟨k,hk⟩:=iP;obtain ⟨k',mW⟩:=n7;simp [execOp,Instr.sliceAt,Instr.slice,Instr.sliceBounds,Instr.sliceBound,asIntOf,hx,hk,mW,sv,run_underlying hT.und,dr,extract_mk,F,I]
theorem R.wh {x y:Operand} {t e:TypeId} {k:Nat} [hT:oB P t e k] {b o n c:Nat} {kk:IntKind} {i:Nat} (hx:ev l x=.slice (some ⟨b,o,none⟩) n c) (hy:ev l y=.int kk i) (hi:i < n):ft P l w (.indexAddr t x y) ((.pointer (some ⟨b,o+i * k,none⟩))):=fun d ty pos af=>by
  simp [execOp,Instr.indexAt,hx,hy,asIntOf,run_underlying hT.und,hi,jX hT.siz,rf]
theorem R.Ri {x:Operand} {s:TypeId} {i off k:Nat} {agg:Bool} [hT:ej P s i off k agg] {b o:Nat} (hx:ev l x=.pointer (some ⟨b,o,none⟩)):ft P l w (.fieldAddr s x i) ((.pointer (some ⟨b,o+off,none⟩))):=fun d ty pos af=>by
  obtain ⟨hT⟩:=hT;unfold LS at hT;split at hT
  ·rename_i fs hu;split at hT
   ·rename_i f hf;simp only [aC,beq_iff_eq,bne_iff_ne,ne_eq] at hT;obtain ⟨⟨⟨F,I⟩,h3⟩,h4⟩:=hT;split at I
    ·rename_i x hq
     have hs:(P.info? f.type).map (·.size)=some k:=by rw [hq];simpa using I
     simp [execOp,Instr.fieldAt,hx,run_underlying hu,hf,Instr.sureAddr,fieldPlace,jX hs,h3,rf,F]
    ·cases I
   ·cases hT
  ·cases hT
theorem R.ld1 {x:Operand} {t:TypeId} [hT:Ty P t false 1] {a:Addr} {v:Value} (hx:ev l x=.pointer (some a)) (hv:w.cell? a=some v):ft P l w (.load t x) (v):=fun d ty pos af=>by simp [execOp,Instr.loadAt,hx,Instr.sureAddr,Ii hv]
theorem R.ldN {x:Operand} {t:TypeId} {k:Nat} [hT:Ty P t true k] {b o:Nat} {vs:List Value} (hx:ev l x=.pointer (some ⟨b,o,none⟩)) (hl:vs.length=k)
  (hv:∀ j v,vs[j]?=some v->w.cell? ⟨b,o+j,none⟩=some v):ft P l w (.load t x) ((.agg vs.toArray)):=fun d ty pos af=>by simp [execOp,Instr.loadAt,hx,Instr.sureAddr,nj hl hv]
end
def ia (H:Array Obj) (b o:Nat):Option Value :=
 match H[b]? with
 | some (.cells c _ _)=>c[o]?
 | _=>none
theorem fP (w:World) (b o:Nat):w.cell? ⟨b,o,none⟩=ia w.heap b o:=by
 unfold World.cell? ia
 cases w.heap[b]? with
 | none=>rfl
 | some x=>cases x <;> rfl
theorem Gv {H:Array Obj} {b o:Nat} {v:Value} (h:ia H b o=some v):b < H.size:=by
 unfold ia at h
 cases hb:H[b]? with
 | none=>rw [hb] at h;cases h
 | some x=>exact (Array.getElem?_eq_some_iff.1 hb).1
theorem Ext.c {S:Nat->Prop} {w w':World} (hx:Ext S w w') {b o:Nat} {v:Value} (h:ia w.heap b o=some v) (hs:¬ S b):ia w'.heap b o=some v:=by
 unfold ia at *;rw [hx.block b (Gv (H:=w.heap) (by unfold ia;exact h)) hs];exact h
theorem xH {H:Array Obj} {b o:Nat} {cs:Array Value} {E:TypeId} {fz:Nat × Nat} {v:Value} (hb:H[b]?=some (.cells cs E fz)) (hv:cs[o]?=some v):ia H b o=some v:=by
 unfold ia;rw [hb];exact hv
theorem Ext.drew {S:Nat->Prop} (w:World):Ext S w w.drew:=⟨rfl,rfl,rfl,aE _,fun _ _ _=>rfl⟩
theorem R.ld {P:Program} {l:List Value} {w:World} {x:Operand} {t:TypeId} [hT:Ty P t false 1] {b o:Nat} {v:Value} (hx:ev l x=.pointer (some ⟨b,o,none⟩)) (hv:ia w.heap b o=some v):ft P l w (.load t x) v:=R.ld1 hx (by rw [fP];exact hv)
theorem R.X6 {P:Program} {l:List Value} {w:World} {x:Operand} {t:TypeId} {k:Nat} [hT:Ty P t true k] {b o:Nat} {vs:List Value} (hx:ev l x=.pointer (some ⟨b,o,none⟩)) (hl:vs.length=k)
  (hv:∀ j v,vs[j]?=some v->ia w.heap b (o+j)=some v):ft P l w (.load t x) (.agg vs.toArray):=R.ldN hx hl (fun j v h=>by rw [fP];exact hv j v h)
section
variable {H:Array Obj} {b o:Nat} {v0 v1 v2 v3 v4 v5:Value}
end
class rU (P:Program) (t:TypeId) (z:outParam Value):Prop where
 is:(P.info? t).bind (·.zero)=some z
structure vn (w w':World) (b:Nat) (cs:Array Value) (E:TypeId):Prop where
 blk:w'.heap[b]?=some (.cells cs E (0,0))
 ext:Ext (·=b) w w'
 size:w'.heap.size=w.heap.size
def wu (cs:Array Value) (o:Nat):List Value->Array Value
 | []=>cs
 | v::r=>wu (cs.setIfInBounds o v) (o+1) r
def nb (vs:List Value):Bool:=vs.all (·.oneCell')
section
variable {P:Program} {w:World}
theorem Ci {t:TypeId} {z:Value} [h:rU P t z]:(zeroValue t).run P w=.ok z w:=by
 obtain ⟨h⟩:=h
 cases hq:P.info? t with
 | none=>simp [hq] at h
 | some i=>simp [hq] at h;simp [zeroValue,typeInfo,hq,h]
theorem vn.refl {b:Nat} {cs:Array Value} {E:TypeId} (hb:w.heap[b]?=some (.cells cs E (0,0))):vn w w b cs E:=⟨hb,Ext.refl _,rfl⟩
theorem vn.trans {w1 w2:World} {b:Nat} {cs AU:Array Value} {E:TypeId} (h:vn w w1 b cs E) (k:vn w1 w2 b AU E):vn w w2 b AU E :=
 ⟨k.blk,h.ext.trans k.ext,k.size.trans h.size⟩
theorem vn.setCell {b o:Nat} {cs:Array Value} {E:TypeId} (hb:w.heap[b]?=some (.cells cs E (0,0))) (v:Value) :
  vn w (w.setCell ⟨b,o,none⟩ v) b (cs.setIfInBounds o v) E :=
 ⟨heap_setCell_same w b o cs E v hb,⟨rfl,rfl,rfl,by simp,fun k _ hs=>heap_setCell_other w _ k v hs⟩,by simp⟩
theorem xq {b o:Nat} {E:TypeId}:∀ (vs:List Value) (i:Nat) (w:World) (cs:Array Value),w.heap[b]?=some (.cells cs E (0,0))->o+i+vs.length<=cs.size->nb vs=true ->
  ∃ w',(storeCells ⟨b,o,none⟩ vs i).run P w=.ok () w'/\vn w w' b (wu cs (o+i) vs) E
 | [],i,w,cs,hb,_,_=>⟨w,by simp [storeCells],vn.refl hb⟩
 | v::r,i,w,cs,hb,hl,F=>by
  simp only [nb,all_cons,aC] at F;simp only [length_cons] at hl;have hs:=vn.setCell (w:=w) (o:=o+i) hb v;obtain ⟨w',hr,cj⟩:=xq (b:=b) (o:=o) (E:=E) r (i+1) _ _ hs.blk (by simp;omega) F.2;refine ⟨w',?_,hs.trans (by simpa [wu,gn] using cj)⟩;have hc:w.cell? ⟨b,o+i,none⟩=cs[o+i]?:=cell_of_row w b (o+i) cs E (0,0) hb;have dY:∃ u,w.cell? ⟨b,o+i,none⟩=some u:=⟨cs[o+i]'(by omega),by rw [hc];simp⟩;obtain ⟨u,hu⟩:=dY;have hf:w.frozen? ⟨b,o+i,none⟩=false:=frozen_of_row w b _ cs E hb
  have abt:(store ((⟨b,o,none⟩:Addr).add i) v).run P w=.ok () (w.setCell ⟨b,o+i,none⟩ v):=by
   rw [rf]
   cases v <;> first | (simp [Value.oneCell'] at F;done) | simp [store,Sem.run,hu,hf]
  simp only [storeCells,Sem.run_bind,abt,Result.andThen_ok,hr]
theorem Ij {t:TypeId} {agg:Bool} {k:Nat} [hT:Ty P t agg k] {b o:Nat} {E:TypeId} {cs:Array Value} {v:Value} (hb:w.heap[b]?=some (.cells cs E (0,0)))
  (hl:v.cells.size=k) (ho:o+k<=cs.size) (F:nb v.cells.toList=true) :
  ∃ w',(storeVar t ⟨b,o,none⟩ v).run P w=.ok () w'/\vn w w' b (wu cs o v.cells.toList) E:=by
 obtain ⟨w',hr,hs⟩:=xq (P:=P) (o:=o) v.cells.toList 0 w cs hb (by simp;omega) F;refine ⟨w',?_,by simpa using hs⟩;simp [storeVar,jX hT.siz,hl,hr]
end
def jq:List Value->Nat->List Value->List Value
 | cs,_,[]=>cs
 | cs,o,v::r=>jq (fV cs o v) (o+1) r
def rj (pl:Nat->Option (Nat × Nat)):List Value->List (Nat × Value)->Option (List Value)
 | cs,[]=>some cs
 | cs,(i,v)::r=>match pl i with
  | none=>none
  | some (o,k)=>if v.cells.size≠k || decide (o+v.cells.size > cs.length) then none else rj pl (jq cs o v.cells.toList) r
theorem Ck:∀ (vs:List Value) (cs:List Value) (o:Nat),(jq cs o vs).length=cs.length
 | [],_,_=>rfl
 | v::r,cs,o=>by
  rw [jq,Ck r];have:=congrArg Array.size (zZ cs o v);simpa using this.symm
theorem CH:∀ (vs:List Value) (cs:List Value) (o n:Nat),
  (vs.zipIdx n).foldl (fun (cs:Array Value) (x:Value × Nat)=>cs.setIfInBounds (o+x.2) x.1) cs.toArray=(jq cs (o+n) vs).toArray
 | [],cs,o,n=>by simp [jq]
 | v::r,cs,o,n=>by
  simp only [List.zipIdx_cons,List.foldl_cons,zZ,jq];rw [CH r];rfl
theorem zb (pl:Nat->Option (Nat × Nat)):∀ (parts:List (Nat × Value)) (cs:List Value),
  Instr.fill pl cs.toArray parts=(rj pl cs parts).map List.toArray
 | [],cs=>by simp [Instr.fill,rj]
 | (i,v)::r,cs=>by
  simp only [Instr.fill,rj]
  cases hp:pl i with
  | none=>rfl
  | some x =>
   obtain ⟨o,k⟩:=x;simp only [size_toArray];split
   ·rfl
   ·have h:(v.cells.zipIdx.foldl (fun (cs:Array Value) (x:Value × Nat)=>cs.setIfInBounds (o+x.2) x.1) cs.toArray)=(jq cs o v.cells.toList).toArray:=by
     have:=CH v.cells.toList cs o 0;rw [<-Array.foldl_toList,Array.toList_zipIdx];exact this
    have I:=zb pl r (jq cs o v.cells.toList);rw [<-I,<-h]
def Ug (P:Program) (t:TypeId) (pl:List (Nat × Nat)):Bool :=
 match P.underlying t with
 | some (.struct fs)=>(fs.toList.map fun f=>(f.offset,(P.info? f.type).map (·.size)))==pl.map fun x=>(x.1,some x.2)
 | _=>false
class vm (P:Program) (t:TypeId) (pl:outParam (List (Nat × Nat))) (z:outParam (List Value)):Prop where
 is:Ug P t pl=true
 zero:(P.info? t).bind (·.zero)=some (.agg z.toArray)
section
variable {P:Program} {w:World}
theorem Du {fs:List Field}:∀ {pl:List (Nat × Nat)},(fs.map fun f=>(f.offset,(P.info? f.type).map (·.size)))=(pl.map fun x=>(x.1,some x.2)) ->
  (List.mapM (m:=Sem) (fun (f:Field)=>Functor.map (Prod.mk f.offset) (sizeOf f.type)) fs).run P w=.ok pl w:=by
 induction fs with
 | nil=>intro pl h;cases pl with | nil=>simp | cons=>simp at h
 | cons f fs ih =>
  intro pl h
  cases pl with
  | nil=>simp at h
  | cons x pl =>
   simp only [List.map_cons,List.cons.injEq,Prod.mk.injEq] at h;obtain ⟨⟨F,I⟩,h3⟩:=h;have:=ih h3;have h5:=jX (w:=w) I;simp [List.mapM_cons,Sem.run_bind,h5,this,F]
theorem run_build {t:TypeId} {pl:List (Nat × Nat)} {z:List Value} [hT:vm P t pl z] {parts:List (Nat × Value)} {cs:List Value} (hf:rj (fun i=>pl[i]?) z parts=some cs) :
  (Instr.build t parts.toArray).run P w=.ok (.agg cs.toArray) w:=by
 obtain ⟨hi,hz⟩:=hT
 have hzz:(zeroValue t).run P w=.ok (.agg z.toArray) w:=by
  haveI:rU P t (.agg z.toArray):=⟨hz⟩
  exact Ci
 unfold Ug at hi;split at hi
 ·rename_i fs hu;have hm:=Du (P:=P) (w:=w) (eq_of_beq hi)
  have l7:(Array.mapM (m:=Sem) (fun (f:Field)=>Functor.map (Prod.mk f.offset) (sizeOf f.type)) fs).run P w=.ok pl.toArray w:=by
   rw [Array.mapM_eq_mapM_toList];simp [hm]
  have gC:=zb (fun i=>pl[i]?) parts z;rw [hf] at gC;simp [Instr.build,Sem.run_bind,hzz,run_underlying hu,l7,Value.cells];simp [gC]
 ·cases hi
end
section
variable {P:Program} {Q:mR} {l:List Value} {w:World} {ops:Array Oper} {rest:List Oper} {d:Option Tmp} {ty:TypeId} {pos:String} {af:Array Edge}
theorem Dv (t:TypeId) (v:Value):(newVar t v).run P w=.ok ⟨w.heap.size,0,none⟩ (w.alloc (.cells v.cells t)):=by
 rfl
theorem WL.alloc {t:TypeId} {z:Value} [hT:rU P t z] (h:∀ b w',wy w w' b (.cells z.cells t)->WL P ops Q rest (put l d (.pointer (some ⟨b,0,none⟩))) w') :
  WL P ops Q (⟨d,.alloc t,ty,pos,af,none⟩::rest) l w :=
 WL.val (w':=w.alloc (.cells z.cells t)) (by simp [execOp,Instr.alloc,Ci (w:=w) (z:=z),Dv]) (h _ _ (wy.of w _))
theorem WL.box {t:TypeId} {x:Operand} {v:Value} (hx:ev l x=v) (h:∀ b w',wy w w' b (.cells v.cells t)->WL P ops Q rest (put l d (.pointer (some ⟨b,0,none⟩))) w') :
  WL P ops Q (⟨d,.box t x,ty,pos,af,none⟩::rest) l w :=
 WL.val (w':=w.alloc (.cells v.cells t)) (by simp [execOp,Instr.box,Dv,hx]) (h _ _ (wy.of w _))
theorem R.build {t:TypeId} {pl:List (Nat × Nat)} {z:List Value} [hT:vm P t pl z] {parts:List (Nat × Operand)} {cs:List Value}
  (hf:rj (fun i=>pl[i]?) z (parts.map fun x=>(x.1,ev l x.2))=some cs):ft P l w (.build t parts.toArray) (.agg cs.toArray):=fun d ty pos af=>by
  have hr:=run_build (P:=P) (w:=w) (t:=t) hf;simp only [execOp,map_toArray];simp [hr]
class q9 (P:Program) (t:TypeId) (e:outParam TypeId) (k:outParam Nat) (z:outParam (List Value)):Prop where
 und:P.underlying t=some (.slice e)
 siz:(P.info? e).map (·.size)=some k
 zero:(P.info? e).bind (·.zero)=some (if k=1 then z.headD undef else .agg z.toArray)
 zl:z.length=k
 pos:0 < k
 one:k=1->(z.headD undef).cells=#[z.headD undef]
theorem q9.cells {t e:TypeId} {k:Nat} {z:List Value} (h:q9 P t e k z):(if k=1 then z.headD undef else .agg z.toArray).cells=z.toArray:=by
 split
 ·rename_i hk;rw [h.one hk];have:=h.zl;rw [hk] at this
  match z,this with
  | [a],_=>rfl
 ·rfl
theorem WL.Ei {t e:TypeId} {k:Nat} {z:List Value} [hT:q9 P t e k z] {n:Nat} {parts:List (Nat × Operand)} {cs:List Value} (hn:n * k<=16777216)
  (hf:rj (fun i=>some (i * k,k)) ((List.range (n * k)).map fun j=>z.getD (j % k) undef) (parts.map fun x=>(x.1,ev l x.2))=some cs)
  (h:∀ b w',wy w w' b (.cells cs.toArray e)->WL P ops Q rest (put l d (.slice (some ⟨b,0,none⟩) n n)) w') :
  WL P ops Q (⟨d,.buildSlice t n parts.toArray,ty,pos,af,none⟩::rest) l w :=
 WL.val (w':=w.alloc (.cells cs.toArray e)) (by
  have hz:(zeroValue e).run P w=.ok (if k=1 then z.headD undef else .agg z.toArray) w:=by
   haveI:rU P e (if k=1 then z.headD undef else .agg z.toArray):=⟨hT.zero⟩
   exact Ci
  have hc:=hT.cells;generalize (if k=1 then z.headD undef else .agg z.toArray:Value)=zv at hz hc;have gC:=zb (fun i=>some (i * k,k)) (parts.map fun x=>(x.1,ev l x.2)) ((List.range (n * k)).map fun j=>z.getD (j % k) undef);rw [hf] at gC
  have CV:¬ (16777216 < n * k):=by omega
  by_cases h0:n * k=0
  ·have h00:n=0:=by
    rcases Nat.mul_eq_zero.1 h0 with h | h
    ·exact h
    ·have:=hT.pos;omega
   subst h00;simp only [Nat.zero_mul,List.range_zero,map_nil] at gC;simp only [execOp,map_toArray];have tz:(Array.range 0)=#[]:=rfl;simp [Instr.buildSlice,run_underlying hT.und,jX hT.siz,tz,gC];rfl
  ·have he:(Array.range (n * k)).map (fun j=>z.toArray[j % z.toArray.size]!)=((List.range (n * k)).map fun j=>z.getD (j % k) undef).toArray:=by
    apply Array.ext';simp only [Array.toList_map,Array.toList_range];apply List.map_congr_left;intro j _;have hk:=hT.pos
    have ak:j % k < z.length:=by rw [hT.zl];exact Nat.mod_lt _ hk
    rw [List.getD_eq_getElem?_getD,dO ak];simp [hT.zl];rw [dO ak];rfl
   rw [<-he] at gC;simp only [execOp,map_toArray];simp [Instr.buildSlice,run_underlying hT.und,jX hT.siz,CV,h0,hz,hc];simp only [size_toArray] at gC;simp at gC;simp [gC]
   rfl) (h _ _ (wy.of w _))
theorem WL.st {x y:Operand} {t:TypeId} {agg:Bool} {k:Nat} [hT:Ty P t agg k] {b o:Nat} {E:TypeId} {cs:Array Value} {v:Value} (hx:ev l x=.pointer (some ⟨b,o,none⟩)) (hy:ev l y=v)
  (hb:w.heap[b]?=some (.cells cs E (0,0))) (hl:v.cells.size=k) (ho:o+k<=cs.size) (F:nb v.cells.toList=true)
  (h:∀ w',vn w w' b (wu cs o v.cells.toList) E->WL P ops Q rest (put l d undef) w'):WL P ops Q (⟨d,.store t x y,ty,pos,af,none⟩::rest) l w:=by
 obtain ⟨w',hr,hs⟩:=Ij (P:=P) (t:=t) hb hl ho F;exact WL.skp (w':=w') (by simp [execOp,Instr.storeAt,hx,hy,Instr.sureAddr,hr]) (h w' hs)
end
def Gx (P:Program) (f:FuncId):Bool :=
 match P.funcs[f]? with
 | some fn=>fn.name != "runtime.NumGoroutine" && fn.body.isSome
 | none=>false
class aJ (P:Program) (f:FuncId):Prop where
 ok:Gx P f=true
def p7 (P:Program) (f:FuncId) (args:List Value) (w:World) (R:Value->World->Prop):Prop :=
 Calls P f args.toArray w fun e w'=>∃ v,e=.returned v/\R v w'
theorem p7.mono {P:Program} {f:FuncId} {args:List Value} {w:World} {R R':Value->World->Prop} (h:p7 P f args w R) (hr:∀ v w',R v w'->R' v w'):p7 P f args w R' :=
 Calls.mono h fun _ _ ⟨v,he,r⟩=>⟨v,he,hr _ _ r⟩
theorem ng {P:Program} {w:World} {f:FuncId} [h:aJ P f] (args:Array Value):(callFunc f args).run P w=.ok (.enter f args) w:=by
 obtain ⟨h⟩:=h;unfold Gx at h;split at h
 ·rename_i fn hf;simp only [aC,bne_iff_ne,ne_eq] at h
  have I:fn.body.isNone=false:=by cases hb:fn.body <;> simp_all
  simp [callFunc,program,Sem.run,hf,h.1,I];intro hn;simp [hn] at I
 ·cases h
section
variable {P:Program} {Q:mR} {l:List Value} {w:World} {ops:Array Oper} {rest:List Oper} {d:Option Tmp} {ty:TypeId} {pos:String} {af:Array Edge}
theorem WL.calls {op:Op} {f:FuncId} {DO:List Value} (hr:(execOp (ev l) ⟨d,op,ty,pos,af,none⟩).run P w=.ok (.enter f DO.toArray) w) {R:Value->World->Prop}
  (hc:p7 P f DO w R) (h:∀ v w',R v w'->WL P ops Q rest (put l d v) w'):WL P ops Q (⟨d,op,ty,pos,af,none⟩::rest) l w:=by
 refine wpList_plain rfl fun K hK=>?_
 simp only [Oper.wp,oN,hr,Oper.upon_enter];refine Calls.mono hc ?_;rintro e w' ⟨v,rfl,hv⟩;simp only [qH];exact hK _ _ (h v w' hv)
theorem WL.call {f:FuncId} [hf:aJ P f] {args:List Operand} {nq:Array TypeId} {DO:List Value} (ha:args.map (ev l)=DO) {R:Value->World->Prop}
  (hc:p7 P f DO w R) (h:∀ v w',R v w'->WL P ops Q rest (put l d v) w'):WL P ops Q (⟨d,.call ⟨.value (.func f),args.toArray,nq⟩,ty,pos,af,none⟩::rest) l w :=
 WL.calls (by simp [execOp,resolve,ev,Deferred.ofValue,invoke,ng,ha]) hc h
end
def Ib:Nat->List Value
 | 0=>[]
 | n+1=>undef::Ib n
def frame:List Value->Nat->List Value
 | [],n=>Ib n
 | a::r,n=>a::frame r (n - 1)
theorem Yu (n:Nat):Ib n=List.replicate n undef:=by
 induction n with
 | zero=>rfl
 | succ n ih=>rw [Ib,ih];rfl
theorem Rk (args:List Value) (n:Nat):frame args n=args++List.replicate (n - args.length) undef:=by
 induction args generalizing n with
 | nil=>simp [frame,Yu]
 | cons a r ih=>rw [frame,ih];simp [Nat.sub_sub,Nat.add_comm]
def Tf (P:Program) (fn:Func) (R:Value->World->Prop):mR
 | .normal,l,w | .ret,l,w=>∃ v,(results fn l.toArray).run P w=.ok v w/\R v w
 | _,_,_=>False
theorem p7.enter {P:Program} {f:FuncId} {fn:Func} {c:Code} {args:List Value} {w:World} {R:Value->World->Prop} {n:Nat} {l:List Value}
  (hf:P.funcs[f]?=some fn) (hn:fn.ntmps=n) (hb:fn.body=some c) (hl:frame args n=l) (h:W P c (Tf P fn R) l w):p7 P f args w R:=by
 subst hl;refine calls_of_wp hf hb ?_
 have vC:(args.toArray++Array.replicate (fn.ntmps - args.toArray.size) undef)=(frame args n).toArray:=by
  simp [Rk,hn]
 rw [vC];refine wp_mono h ?_;rintro e a w ⟨l,rfl,hq⟩
 cases e <;> simp only [Tf] at hq <;> simp only [bodyPost]
 ·obtain ⟨v,hr,hv⟩:=hq;exact ⟨rfl,v,hr,v,rfl,hv⟩
 ·obtain ⟨v,hr,hv⟩:=hq;exact ⟨rfl,v,hr,v,rfl,hv⟩
def V3 (P:Program) (t e k iM:Nat):Bool :=
 (match P.underlying t with | some (.slice e')=>e'==e | _=>false) &&
 (match P.info? e with
  | some i=>(match i.zero with | some z=>z.cells.size==k | none=>false)&&i.size==k&&i.bytes==iM
  | none=>false)&&k != 0
class pN (P:Program) (t:TypeId) (e:outParam TypeId) (k:outParam Nat) (iM:outParam Nat):Prop where
 is:V3 P t e k iM=true
theorem pN.parts {P:Program} {t e k iM:Nat} (h:pN P t e k iM) :
  P.underlying t=some (.slice e)/\(∃ i z,P.info? e=some i/\i.zero=some z/\z.cells.size=k/\i.size=k/\i.bytes=iM)/\0 < k:=by
 obtain ⟨h⟩:=h;simp only [V3,aC,bne_iff_ne,ne_eq] at h;obtain ⟨⟨F,I⟩,h3⟩:=h;refine ⟨?_,?_,by omega⟩
 ·split at F
  ·rename_i e' hu;rw [hu];simp at F;rw [F]
  ·cases F
 ·split at I
  ·rename_i i hi;simp only [aC,beq_iff_eq] at I;obtain ⟨⟨h4,h5⟩,h6⟩:=I;split at h4
   ·rename_i z hz;exact ⟨i,z,hi,hz,by simpa using h4,h5,h6⟩
   ·cases h4
  ·cases I
abbrev jz (w:World) (base:Nat) (e k:Nat) (v:Value) (n:Nat) (xs:List Value):Prop:=w.ownsRow base e k v n xs
theorem jz.nil (w:World) (base e k:Nat):jz w base e k (.slice none 0 0) 0 []:=World.ownsRow_nil w base e k
theorem jz.ext {S:Nat->Prop} {w w':World} {base e k:Nat} {v:Value} {n:Nat} {xs:List Value} (h:jz w base e k v n xs) (hx:Ext S w w') (hs:∀ b,v.ownBlock=some b->¬ S b):jz w' base e k v n xs:=by
 obtain ⟨F,I⟩:=h;refine ⟨F,?_⟩
 rcases I with I | ⟨g,cap,cur,rfl,hb,hg,r⟩
 ·exact .inl I
 ·exact .inr ⟨g,cap,cur,rfl,hb,hx.blk hg (hs g rfl),r⟩
theorem jz.lt {w:World} {base e k:Nat} {v:Value} {n:Nat} {xs:List Value} (h:jz w base e k v n xs) {b:Nat} (hv:v.ownBlock=some b):base<=b/\b < w.heap.size:=by
 obtain ⟨F,I⟩:=h
 rcases I with ⟨rfl,_⟩ | ⟨g,cap,cur,rfl,hb,hg,r⟩
 ·cases hv
 ·simp only [Value.ownBlock,Option.some.injEq] at hv;subst hv;exact ⟨hb,tD hg⟩
theorem jz.shape {w:World} {base e k:Nat} {v:Value} {n:Nat} {xs:List Value} (h:jz w base e k v n xs):∃ a c,v=.slice a n c:=by
 obtain ⟨F,I⟩:=h
 rcases I with ⟨rfl,rfl⟩ | ⟨g,cap,cur,rfl,_⟩
 ·exact ⟨_,_,rfl⟩
 ·exact ⟨_,_,rfl⟩
theorem jz.base {w:World} {base Te e k:Nat} {v:Value} {n:Nat} {xs:List Value} (h:jz w base e k v n xs) (hb:Te<=base):jz w Te e k v n xs:=by
 obtain ⟨F,I⟩:=h;refine ⟨F,?_⟩
 rcases I with I | ⟨g,cap,cur,rfl,bD,r⟩
 ·exact .inl I
 ·exact .inr ⟨g,cap,cur,rfl,kA hb bD,r⟩
theorem jz.cells {w:World} {base e k:Nat} {v:Value} {n:Nat} {xs:List Value} (h:jz w base e k v n xs) :
  xs.length=n * k/\(xs≠[]->∃ b c,v=.slice (some ⟨b,0,none⟩) n c/\base<=b/\b < w.heap.size/\∀ j u,xs[j]?=some u->w.cell? ⟨b,j,none⟩=some u):=by
 obtain ⟨F,I⟩:=h;refine ⟨F,fun ct=>?_⟩
 rcases I with ⟨rfl,rfl⟩ | ⟨g,cap,cur,rfl,hb,hg,hn,hm,dr,ht⟩
 ·simp at F;exact absurd F ct
 ·refine ⟨g,cap,rfl,hb,tD hg,fun j u hj=>?_⟩;rw [cell_of_row w g j cur e (0,0) hg];rw [<-ht] at hj;rw [getElem?_take] at hj;split at hj
  ·simpa using hj
  ·cases hj
theorem jz.Yj {w w':World} {b e k n:Nat} {cs:List Value} (h:wy w w' b (.cells cs.toArray e)) (hl:cs.length=n * k) (hm:n<=maxLen):jz w' w.heap.size e k (.slice (some ⟨b,0,none⟩) n n) n cs :=
 ⟨hl,.inr ⟨b,n,cs.toArray,rfl,by rw [h.fresh];exact aE _,h.blk,aE _,hm,by simpa using hl,by simp [<-hl]⟩⟩
section
variable {P:Program} {Q:mR} {l:List Value} {w:World} {ops:Array Oper} {rest:List Oper} {d:Option Tmp} {ty:TypeId} {pos:String} {af:Array Edge}
theorem WL.app {s x:Operand} {t e k iM:Nat} [hT:pN P t e k iM] {base n m c b o:Nat} {xs news:List Value} {v:Value} (hs:ev l s=v) (jc:jz w base e k v n xs)
  (hx:ev l x=.slice (some ⟨b,o,none⟩) m c) (hl:news.length=m * k) (TL:∀ j u,news[j]?=some u->w.cell? ⟨b,o+j,none⟩=some u) (F:nb news=true)
  (WE:n+m<=9223372036854775807) (zp:(n+m) * iM<=140737488355328) (CO:base<=w.heap.size)
  (h:∀ v' w',jz w' base e k v' (n+m) (xs++news)->Ext (fun b=>v.ownBlock=some b) w w'->(∀ b,v'.ownBlock=some b->v.ownBlock=some b\/w.heap.size<=b)->(Ext jm w w'\/v'.ownBlock=v.ownBlock)->WL P ops Q rest (put l d v') w') :
  WL P ops Q (⟨d,.call ⟨.builtin .append,#[s,x],#[t,t]⟩,ty,pos,af,none⟩::rest) l w:=by
 obtain ⟨hu,⟨i,z,hi,hz,Pc,dr,zo⟩,hk⟩:=hT.parts;obtain ⟨v',w',hr,I,h3,h4⟩:=run_append_own (P:=P) w base t ty e i z k iM hu hi hz dr zo Pc hk v n xs jc ⟨b,o,none⟩ m c news hl
  (fun j u hj=>by rw [rf];exact TL j u hj) (by simpa [nb] using F) (by simpa [maxLen] using WE) zp CO
 have ji:Ext (fun b=>v.ownBlock=some b) w w':=⟨h3.os,h3.tape,h3.output,h3.size,fun j hj hn=>h3.block j hj fun he=>hn he.symm⟩
 have zx:∀ j u,news[j]?=some u->w.cell? ((⟨b,o,none⟩:Addr).add j)=some u:=fun j u hj=>by rw [rf];exact TL j u hj
 have kL:news.length=m * i.size:=by rw [dr];exact hl
 have Rq:(n+m) * i.bytes<=140737488355328:=by rw [zo];exact zp
 refine WL.val (v:=v') (w':=w') (by simp [execOp,resolve,invoke,builtin,hs,hx,hr]) (h v' w' I ji ?_ ?_)
 ·intro b' bD;have CZ:=jc.2
  rcases CZ with ⟨rfl,rfl⟩ | ⟨g,cap,cur,rfl,qe,hg,rZ,A4,gL,C3⟩
  ·by_cases hm:m=0
   ·have:=h4.2 ⟨rfl,hm⟩;subst this;cases bD
   ·have eg:=run_append_nil (P:=P) w t ty e i z hu hi hz ⟨b,o,none⟩ m c news kL zx (by omega) (by omega) (by simp only [cI] at Rq;omega);rw [hr] at eg;cases eg;simp only [Value.ownBlock,Option.some.injEq] at bD;exact .inr (by omega)
  ·by_cases hroom:n+m<=cap
   ·have eg:=run_append_room (P:=P) w t ty e i hu hi g n cap cur hg ⟨b,o,none⟩ m c news kL zx (by simpa [nb] using F) hroom
     (by rw [kL,gL,<-Nat.add_mul,dr];exact rT _ hroom)
    rw [hr] at eg;cases eg;exact .inl bD
   ·have holds:∀ j u,xs[j]?=some u->w.cell? ((⟨g,0,none⟩:Addr).add j)=some u:=World.ownsRow.cells (g:=g) jc rfl;have eg:=run_append_grow (P:=P) w t ty e i z hu hi hz ⟨g,0,none⟩ n cap xs (by rw [dr];exact jc.1) holds ⟨b,o,none⟩ m c news kL zx (by omega) (by omega) (growslice_fits (by omega) Rq);rw [hr] at eg;cases eg;simp only [Value.ownBlock,Option.some.injEq] at bD;exact .inr (by omega)
 ·have CZ:=jc.2
  rcases CZ with ⟨rfl,rfl⟩ | ⟨g,cap,cur,rfl,qe,hg,rZ,A4,gL,C3⟩
  ·exact .inl (ji.mono fun k _ hk=>by cases hk)
  ·by_cases hroom:n+m<=cap
   ·have eg:=run_append_room (P:=P) w t ty e i hu hi g n cap cur hg ⟨b,o,none⟩ m c news kL zx (by simpa [nb] using F) hroom
     (by rw [kL,gL,<-Nat.add_mul,dr];exact rT _ hroom)
    rw [hr] at eg;cases eg;exact .inr rfl
   ·have holds:∀ j u,xs[j]?=some u->w.cell? ((⟨g,0,none⟩:Addr).add j)=some u:=World.ownsRow.cells (g:=g) jc rfl;have eg:=run_append_grow (P:=P) w t ty e i z hu hi hz ⟨g,0,none⟩ n cap xs (by rw [dr];exact jc.1) holds ⟨b,o,none⟩ m c news kL zx (by omega) (by omega) (growslice_fits (by omega) Rq);rw [hr] at eg;cases eg;exact .inl ⟨rfl,rfl,rfl,by simp,fun k hk _=>Below.heap_alloc _ _ _ (by simpa using hk)⟩
theorem WL.push {x s:Operand} {t e k iM:Nat} {z:List Value} [hT:pN P t e k iM] [hZ:q9 P t e k z] {base n:Nat} {xs vs:List Value} {v val:Value} {d1:Tmp} {Qt:TypeId} {H8:String} {Ns:Array Edge}
  (hx:ev l x=val) (hs:∀ u,ev (put l (some d1) u) s=v) (hd:∀ u,ev (put l (some d1) u) (.tmp d1)=u) (hc:val.cells=vs.toArray) (hk:vs.length=k) (F:nb vs=true)
  (jc:jz w base e k v n xs) (WE:n+1<=9223372036854775807) (zp:(n+1) * iM<=140737488355328) (ab4:k<=16777216) (CO:base<=w.heap.size)
  (h:∀ u v' w',jz w' base e k v' (n+1) (xs++vs)->Ext (fun b=>v.ownBlock=some b) w w'->(∀ b,v'.ownBlock=some b->v.ownBlock=some b\/w.heap.size<=b)->(Ext jm w w'\/v'.ownBlock=v.ownBlock)->WL P ops Q rest (put (put l (some d1) u) d v') w') :
  WL P ops Q (⟨some d1,.buildSlice t 1 #[(0,x)],Qt,H8,Ns,none⟩::⟨d,.call ⟨.builtin .append,#[s,.tmp d1],#[t,t]⟩,ty,pos,af,none⟩::rest) l w:=by
 have hkp:=hZ.pos
 have dr:val.cells.size=k:=by rw [hc];simpa using hk
 have bR:∀ (vs cs:List Value),vs.length=cs.length->jq cs 0 vs=vs:=by
  have gen:∀ (vs pre cs:List Value),vs.length=cs.length->jq (pre++cs) pre.length vs=pre++vs:=by
   intro vs
   induction vs with
   | nil=>intro pre cs hl;cases cs <;> simp_all [jq]
   | cons a r ih =>
    intro pre cs hl
    cases cs with
    | nil=>simp at hl
    | cons c cs =>
     have hu:fV (pre++c::cs) pre.length a=pre++a::cs:=by
      clear hl
      induction pre with
      | nil=>rfl
      | cons p pre ihp=>simp [fV,ihp]
     rw [jq,hu];have:=ih (pre++[a]) cs (by simpa using hl);simpa using this
  intro vs cs hl;exact gen vs [] cs hl
 have Zm:rj (fun i=>some (i * k,k)) ((List.range (1 * k)).map fun j=>z.getD (j % k) undef) ([((0:Nat),x)].map fun y=>(y.1,ev l y.2))=some vs:=by
  simp only [List.map_cons,map_nil,rj,hx,dr];simp [hk,hc];exact bR vs _ (by simpa using hk)
 refine WL.Ei (n:=1) (parts:=[(0,x)]) (by omega) Zm ?_;intro b2 w2 b9;have Zt:jz w2 base e k v n xs:=jc.ext b9.ext (fun _ _ h=>h);refine WL.app (base:=base) (v:=v) (n:=n) (xs:=xs) (news:=vs) (m:=1) (hs _) Zt (hd _) (by omega) (fun j u hj=>?_) F WE zp (kA CO b9.ext.size) ?_
 ·rw [cI];exact Ny b9.blk (by simpa using hj)
 ·intro v' w3 ho O9 hb wX;refine h _ v' w3 ho ((b9.ext.mono (fun _ _ h=>h.elim)).trans O9) (fun b bD=>?_) (wX.imp (fun h5=>b9.ext.trans h5) id)
  rcases hb b bD with h4 | h4
  ·exact .inl h4
  ·exact .inr (kA b9.ext.size h4)
end
section
variable {P:Program} {ops:Array Oper} {S:Nat->Prop}
end
def tQ:List Oper->Nat->Oper
 | [],_=>default
 | o::_,0=>o
 | _::r,n+1=>tQ r n
theorem Vh (ol:List Oper) (i:Nat) (o:Oper) (h:ol.toArray[i]?=some o):tQ ol i=o:=by
 have h':ol[i]?=some o:=by simpa using h
 clear h
 induction ol generalizing i with
 | nil=>simp at h'
 | cons x r ih =>
  cases i with
  | zero=>simpa [tQ] using h'
  | succ i=>exact ih i (by simpa using h')
section
variable {P:Program} {ops:Array Oper} {S:Nat->Prop} {Q:mR} {l:List Value} {w:World} {r:List (Oper × Bool)} {d:Option Tmp} {op:Op} {ty:TypeId} {pos:String} {af:Array Edge}
end
def MJ:IntKind->IntKind->Bool
 | .i8,.i8 | .i16,.i16 | .i32,.i32 | .i64,.i64 | .u8,.u8 | .u16,.u16 | .u32,.u32 | .u64,.u64=>true
 | _,_=>false
theorem Ss {a b:IntKind} (h:MJ a b=true):a=b:=by cases a <;> cases b <;> first | rfl | cases h
def LY (op:BinOp) (a b:Int):Option Value :=
 match op with
 | .eql=>some (.bool (a==b))
 | .neq=>some (.bool (a != b))
 | .lss=>some (.bool (decide (a < b)))
 | .leq=>some (.bool (decide (a<=b)))
 | .gtr=>some (.bool (decide (b < a)))
 | .geq=>some (.bool (decide (b<=a)))
 | _=>none
def LX (op:BinOp):Value->Value->Option Value
 | .int k a,.int k' b=>match MJ k k' with
  | true=>LY op a b
  | false=>none
 | _,_=>none
def xQ (c:Op) (x:Value):Option Value :=
 match c with
 | .nilCheck _=>match x with
  | .pointer (some a)=>some (.pointer (some a))
  | _=>none
 | .unOp .not _ _=>match x with
  | .bool b=>some (.bool (!b))
  | _=>none
 | .extract _ i=>match x with
  | .tuple vs=>vs[i]?
  | _=>none
 | _=>none
def go (ρ:Operand->Value) (o:Op):Option Value :=
 match o with
 | .move x=>some (ρ x)
 | .assign x=>some (ρ x)
 | .makeFunc fn f c=>some (.func fn (f.map ρ) (c.map ρ))
 | .binOp op _ x y _=>LX op (ρ x) (ρ y)
 | .nilCheck x=>xQ o (ρ x)
 | .unOp _ _ x=>xQ o (ρ x)
 | .extract x _=>xQ o (ρ x)
 | _=>none
section
variable {P:Program} {l:List Value} {w:World}
theorem UU {o:Op} {v:Value} (h:go (ev l) o=some v):ft P l w o v:=by
 unfold go at h;split at h
 ·cases h;exact R.mv
 ·cases h;exact R.vr
 ·cases h;exact R.Eh
 ·rename_i op t x y t';unfold LX at h;split at h
  ·rename_i k a k' b hx hy;split at h
   ·rename_i hk;have:=Ss hk;subst this;unfold LY at h
    split at h <;> first | (cases h;done) | skip
    ·cases h;exact R.eq hx hy
    ·cases h;exact R.ne hx hy
    ·cases h;exact R.lt hx hy
    ·cases h;exact R.le hx hy
    ·cases h;exact R.gt' hx hy
    ·cases h;exact R.ge hx hy
   ·cases h
  ·cases h
 ·unfold xQ at h;simp only at h;split at h
  ·rename_i a hx;cases h;exact R.Mx hx
  ·cases h
 ·rename_i op t x;unfold xQ at h
  cases op <;> simp only at h <;> first | (cases h;done) | skip
  split at h
  ·rename_i b hx;cases h;exact R.not hx
  ·cases h
 ·unfold xQ at h;simp only at h;split at h
  ·rename_i vs hx;exact R.extract hx h
  ·cases h
 ·cases h
theorem R.xE {x y:Operand} {t t':TypeId} {a b:Nat} (hx:ev l x=ii a) (hy:ev l y=ii b) (hb:a+b<=9223372036854775807):ft P l w (.binOp .add t x y t') (ii ((a+b:Nat):Int)):=R.add hx hy (by omega) (by omega)
theorem R.vZ {x y:Operand} {t t':TypeId} {a:Nat} (hx:ev l x=ii a) (hy:ev l y=ii 1) (hb:a+1<=9223372036854775807):ft P l w (.binOp .add t x y t') (ii ((a+1:Nat):Int)):=R.add hx hy (by omega) (by omega)
theorem R.Ud {c a b:Operand} {t:Bool} (hc:ev l c=.bool t) (ht:t=true):ft P l w (.pick c a b) (ev l a):=by
 subst ht;exact R.pick hc
theorem R.Uc {c a b:Operand} {t:Bool} (hc:ev l c=.bool t) (ht:t=false):ft P l w (.pick c a b) (ev l b):=by
 subst ht;exact R.pick hc
end
section
variable {P:Program} {Q:mR} {l:List Value} {w:World} {ops:Array Oper} {rest:List Oper} {d:Option Tmp} {op:Op} {ty:TypeId} {pos:String} {af:Array Edge} {v:Value} {S:Nat->Prop} {r:List (Oper × Bool)}
end
def vX (ops:List Oper) (l:List Value):Option (Nat × Bool)->Bool
 | none=>true
 | some (j,b)=>match (tQ ops j).dst with
  | some t=>match nth l t with
   | .bool c=>c==b
   | _=>false
  | none=>false
def jj {α:Type}:List α->Nat->Bool
 | [],_=>false
 | _::_,0=>true
 | _::r,n+1=>jj r n
theorem C7 {α:Type}:∀ {l:List α} {n:Nat},jj l n=true->n < l.length
 | [],_,h=>by cases h
 | _::_,0,_=>by simp
 | _::r,n+1,h=>by have:=C7 (l:=r) (n:=n) h;simp;omega
def Fm:Option (Nat × Bool)->List Oper->List Value->Bool
 | some (j,_),ops,l=>jj ops j&&(match (tQ ops j).dst with
  | some t=>jj l t&&(match nth l t with | .bool _=>true | .tuple _=>true | _=>false)
  | none=>false)
 | none,_,_=>true
theorem KO (ol:List Oper) (j:Nat) (h:j < ol.length):ol.toArray[j]?=some (tQ ol j):=by
 obtain ⟨o,ho⟩:∃ o,ol.toArray[j]?=some o:=⟨ol[j],by simp [h]⟩;rw [ho,Vh ol j o ho]
theorem Yh (l:List Value) (t:Nat) (h:t < l.length):l[t]?=some (nth l t):=by
 induction l generalizing t with
 | nil=>simp at h
 | cons x l ih=>cases t with
  | zero=>rfl
  | succ t=>simpa [nth] using ih t (by simpa using h)
theorem xA {ops:Array Oper} {d:Option Tmp} {op:Op} {ty:TypeId} {pos:String} {af:Array Edge} {gd:Option (Nat × Bool)} {l:List Value} (hb:Fm gd ops.toList l=true) :
  Region.wanted ⟨d,op,ty,pos,af,gd⟩ (yielded ops (act l).tmps)=vX ops.toList l gd:=by
 cases gd with
 | none=>rfl
 | some x =>
  obtain ⟨j,b⟩:=x;simp only [Fm,aC] at hb;obtain ⟨F,I⟩:=hb;have hj:=KO ops.toList j (C7 F);simp only [Array.toArray_toList] at hj;simp only [Region.wanted,vX,yielded,hj,Option.bind_some]
  cases hd:(tQ ops.toList j).dst with
  | none=>rw [hd] at I;cases I
  | some t =>
   rw [hd] at I;simp only [aC] at I;have ht:=Yh l t (C7 I.1);simp only [Option.bind_some,act]
   have Hv:l.toArray[t]?=some (nth l t):=by simpa using ht
   rw [Hv]
   cases hv:nth l t <;> rw [hv] at I <;> simp_all
def gv (ops:List Oper) (l:List Value) (gd:Nat × Bool):Option Bool :=
 match (tQ ops gd.1).dst with
 | some t=>match nth l t with
  | .bool c=>some c
  | _=>none
 | none=>none
theorem QC {ops:List Oper} {l:List Value} {gd:Nat × Bool} {c:Bool} (hv:gv ops l gd=some c) (hc:c=gd.2):vX ops l (some gd)=true:=by
 obtain ⟨j,b⟩:=gd;unfold gv at hv;unfold vX;simp only at hv hc |-;split at hv
 ·rename_i t ht;split at hv
  ·rename_i c' dY;cases hv;simp [hc]
  ·cases hv
 ·cases hv
theorem QB {ops:List Oper} {l:List Value} {gd:Nat × Bool} {c:Bool} (hv:gv ops l gd=some c) (hc:c=!gd.2):vX ops l (some gd)=false:=by
 obtain ⟨j,b⟩:=gd;unfold gv at hv;unfold vX;simp only at hv hc |-;split at hv
 ·rename_i t ht;split at hv
  ·rename_i c' dY;cases hv;cases b <;> simp_all
  ·cases hv
 ·cases hv
theorem QD {ops:List Oper} {l:List Value} {gd:Nat × Bool} (hv:gv ops l gd=none):vX ops l (some gd)=false:=by
 obtain ⟨j,b⟩:=gd;unfold gv at hv;unfold vX;simp only at hv |-;split at hv
 ·rename_i t ht;split at hv
  ·cases hv
  ·first | rfl | (split <;> simp_all)
 ·rfl
section
variable {P:Program} {Q:mR} {l:List Value} {w:World} {ops:Array Oper} {rest:List Oper} {d:Option Tmp} {op:Op} {ty:TypeId} {pos:String} {af:Array Edge} {v:Value} {S:Nat->Prop} {r:List (Oper × Bool)} {gd:Nat × Bool}
theorem GT {c:Bool} (hb:Fm (some gd) ops.toList l=true) (hv:gv ops.toList l gd=some c) (hc:c=gd.2) (h:WL P ops Q (⟨d,op,ty,pos,af,none⟩::rest) l w):WL P ops Q (⟨d,op,ty,pos,af,some gd⟩::rest) l w:=WL.gt ((xA hb).trans (QC hv hc)) h
theorem GF {c:Bool} (hb:Fm (some gd) ops.toList l=true) (hv:gv ops.toList l gd=some c) (hc:c=!gd.2) (h:WL P ops Q rest (put l d undef) w):WL P ops Q (⟨d,op,ty,pos,af,some gd⟩::rest) l w:=WL.gf ((xA hb).trans (QB hv hc)) h
theorem GU (hb:Fm (some gd) ops.toList l=true) (hv:gv ops.toList l gd=none) (h:WL P ops Q rest (put l d undef) w):WL P ops Q (⟨d,op,ty,pos,af,some gd⟩::rest) l w:=WL.gf ((xA hb).trans (QD hv)) h
end
def MA:Value->Bool
 | .agg _=>false
 | .tuple _=>false
 | _=>true
theorem yo {v:Value} (h:MA v=true):v.cells=#[v]/\v.oneCell'=true:=by
 cases v <;> first | exact ⟨rfl,rfl⟩ | cases h
end Go.Xw
namespace Go.Xg
open Go.RowKit Go.Xw
inductive GV where
 | v (x:Value)
 | U
 | agg (cs:List GV)
 | tup (cs:List GV)
 | sl (k:Nat) (rows:List (List GV))
 | box (cs:List GV) (o:Nat)
 | loc (i o:Nat)
 | vec (i n:Nat)
 | vp (i n k idx off:Nat)
 | arr (i o n:Nat)
 | fn (f:Fn) (first cap:List GV)
open GV (U)
abbrev Fz:=Nat->Nat->Option GV
inductive Bk where
 | no
 | fix (b:Nat)
 | gr (h:Value) (m:Nat)
def Bk.blk:Bk->Option Nat
 | .no=>none
 | .fix b=>some b
 | .gr h _=>h.ownBlock
abbrev Bt:=Nat->Bk
def dh (K K':Fz):Prop:=∀ b o g,K b o=some g->K' b o=some g
def tN:Bk->Bk->Prop
 | .no,_=>True
 | .fix b,x=>x=.fix b
 | .gr h m,x=>∃ h' m',x=.gr h' m'/\m<=m'/\(m'=m->h'=h)
def dX (β bT:Bt):Prop:=∀ i,tN (β i) (bT i)
theorem dh.refl (K:Fz):dh K K:=fun _ _ _ h=>h
theorem dh.trans {a b c:Fz} (h:dh a b) (k:dh b c):dh a c:=fun x y z hz=>k x y z (h x y z hz)
theorem tN.refl (x:Bk):tN x x:=by cases x with | no=>trivial | fix b=>rfl | gr h m=>exact ⟨h,m,rfl,aE _,fun _=>rfl⟩
theorem tN.trans {a b c:Bk} (h:tN a b) (k:tN b c):tN a c:=by
 cases a with
 | no=>trivial
 | fix x=>cases h;exact k
 | gr x m =>
  obtain ⟨x',m',rfl,F,I⟩:=h;obtain ⟨x2,m2,rfl,h3,h4⟩:=k
  exact ⟨x2,m2,rfl,kA F h3,fun he=>by
   have:m'=m:=by omega
   rw [h4 (by omega),I this]⟩
theorem dX.refl (β:Bt):dX β β:=fun i=>tN.refl _
theorem dX.trans {a b c:Bt} (h:dX a b) (k:dX b c):dX a c:=fun i=>(h i).trans (k i)
inductive Rel (K:Fz) (β:Bt):Value->GV->Prop
 | v (x:Value):Rel K β x (.v x)
 | U (x:Value):Rel K β x .U
 | agg (vs:List Value) (cs:List GV) (hl:vs.length=cs.length) (h:∀ (i:Nat) v g,vs[i]?=some v->cs[i]?=some g->Rel K β v g):Rel K β (.agg vs.toArray) (.agg cs)
 | tup (vs:List Value) (cs:List GV) (hl:vs.length=cs.length) (h:∀ (i:Nat) v g,vs[i]?=some v->cs[i]?=some g->Rel K β v g):Rel K β (.tuple vs.toArray) (.tup cs)
 | sl0 (a:Option Addr) (c k:Nat):Rel K β (.slice a 0 c) (.sl k [])
 | sl (b o c k:Nat) (rows:List (List GV)) (h:∀ (i:Nat) r,rows[i]?=some r->r.length=k/\∀ (j:Nat) g,r[j]?=some g->K b (o+i * k+j)=some g) (hc:rows.length<=c):Rel K β (.slice (some ⟨b,o,none⟩) rows.length c) (.sl k rows)
 | box (b o' o:Nat) (cs:List GV) (h:∀ (j:Nat) g,cs[j]?=some g->K b (o'+j)=some g):Rel K β (.pointer (some ⟨b,o'+o,none⟩)) (.box cs o)
 | loc (i o b:Nat) (h:β i=.fix b):Rel K β (.pointer (some ⟨b,o,none⟩)) (.loc i o)
 | vec (i n:Nat) (a:Option Addr) (c:Nat) (h:∃ h m,β i=.gr h m/\n<=m/\(m=n->.slice a n c=h)):Rel K β (.slice a n c) (.vec i n)
 | vp (i n k idx off:Nat) (x:Value) (h:∃ h m,β i=.gr h m/\n<=m/\(m=n->∃ b,h.ownBlock=some b/\x=.pointer (some ⟨b,idx * k+off,none⟩))):Rel K β x (.vp i n k idx off)
 | arr (i o n b c:Nat) (h:β i=.fix b):Rel K β (.slice (some ⟨b,o,none⟩) n c) (.arr i o n)
 | fn (f:Fn) (xs ys:List Value) (first cap:List GV) (hl:xs.length=first.length) (kL:ys.length=cap.length) (h:∀ (i:Nat) v g,xs[i]?=some v->first[i]?=some g->Rel K β v g)
   (h':∀ (i:Nat) v g,ys[i]?=some v->cap[i]?=some g->Rel K β v g):Rel K β (.func f xs.toArray ys.toArray) (.fn f first cap)
theorem Rel.mono {K K':Fz} {β bT:Bt} {x:Value} {g:GV} (h:Rel K β x g) (hk:dh K K') (hb:dX β bT):Rel K' bT x g:=by
 induction h with
 | v x=>exact .v x
 | U x=>exact .U x
 | agg vs cs hl h ih=>exact .agg vs cs hl ih
 | tup vs cs hl h ih=>exact .tup vs cs hl ih
 | sl0 a c k=>exact .sl0 a c k
 | sl b o c k rows h hc=>exact .sl b o c k rows (fun i r hr=>⟨(h i r hr).1,fun j g hg=>hk _ _ _ ((h i r hr).2 j g hg)⟩) hc
 | box b o' o cs h=>exact .box b o' o cs fun j g hg=>hk _ _ _ (h j g hg)
 | loc i o b h=>exact .loc i o b (by have:=hb i;rw [h] at this;exact this)
 | vec i n a c h =>
  obtain ⟨h0,m,F,I,h3⟩:=h;have h4:=hb i;rw [F] at h4;obtain ⟨h',m',h5,h6,h7⟩:=h4;exact .vec i n a c ⟨h',m',h5,by omega,fun he=>by rw [h7 (by omega)];exact h3 (by omega)⟩
 | vp i n k idx off x h =>
  obtain ⟨h0,m,F,I,h3⟩:=h;have h4:=hb i;rw [F] at h4;obtain ⟨h',m',h5,h6,h7⟩:=h4;exact .vp i n k idx off x ⟨h',m',h5,by omega,fun he=>by rw [h7 (by omega)];exact h3 (by omega)⟩
 | arr i o n b c h=>exact .arr i o n b c (by have:=hb i;rw [h] at this;exact this)
 | fn f xs ys first cap hl kL h h' ih ih'=>exact .fn f xs ys first cap hl kL ih ih'
def GV.pc:GV->Bool
 | .v _=>true
 | .sl _ _=>true
 | .box _ _=>true
 | _=>false
theorem Rel.pc {K:Fz} {β bT:Bt} {x:Value} {g:GV} (h:Rel K β x g) (hp:g.pc=true):Rel K bT x g:=by
 cases h <;> first | (cases hp;done) | skip
 ·exact .v _
 ·exact .sl0 _ _ _
 ·rename_i h hc;exact .sl _ _ _ _ _ h hc
 ·rename_i h;exact .box _ _ _ _ h
def GV.one:GV->Bool
 | .v x=>MA x
 | .U=>false
 | .agg _=>false
 | .tup _=>false
 | .vp _ _ _ _ _=>false
 | _=>true
theorem Rel.one {K:Fz} {β:Bt} {x:Value} {g:GV} (h:Rel K β x g) (ho:g.one=true):MA x=true:=by
 cases h <;> first | exact ho | rfl | (cases ho;done)
abbrev bq (K:Fz) (β:Bt) (vs:List Value) (gs:List GV):Prop:=vs.length=gs.length/\∀ (i:Nat) v g,vs[i]?=some v->gs[i]?=some g->Rel K β v g
theorem bq.mono {K K':Fz} {β bT:Bt} {vs:List Value} {gs:List GV} (h:bq K β vs gs) (hk:dh K K') (hb:dX β bT):bq K' bT vs gs:=⟨h.1,fun i v g F I=>(h.2 i v g F I).mono hk hb⟩
theorem bq.nil {K:Fz} {β:Bt}:bq K β [] []:=⟨rfl,fun i v g h=>by simp at h⟩
theorem bq.cons {K:Fz} {β:Bt} {v:Value} {g:GV} {vs:List Value} {gs:List GV} (h:Rel K β v g) (hs:bq K β vs gs):bq K β (v::vs) (g::gs):=by
 refine ⟨by simp [hs.1],fun i x y F I=>?_⟩
 cases i with
 | zero=>cases F;cases I;exact h
 | succ i=>exact hs.2 i x y F I
theorem bq.qo {K:Fz} {β:Bt} {v:Value} {g:GV} {vs:List Value} {gs:List GV} (h:bq K β (v::vs) (g::gs)):Rel K β v g/\bq K β vs gs :=
 ⟨h.2 0 v g rfl rfl,by simpa using h.1,fun i x y F I=>h.2 (i+1) x y F I⟩
theorem bq.app {K:Fz} {β:Bt} {vs us:List Value} {gs hs:List GV} (h:bq K β vs gs) (k:bq K β us hs):bq K β (vs++us) (gs++hs):=by
 induction vs generalizing gs with
 | nil =>
  have:gs=[]:=by have:=h.1;simp at this;exact iC this.symm
  subst this;exact k
 | cons v vs ih =>
  cases gs with
  | nil=>have:=h.1;simp at this
  | cons g gs=>obtain ⟨F,I⟩:=h.qo;exact .cons F (ih I)
theorem bq.at {K:Fz} {β:Bt} {vs:List Value} {gs:List GV} (h:bq K β vs gs) {i:Nat} {g:GV} (hg:gs[i]?=some g):∃ v,vs[i]?=some v/\Rel K β v g:=by
 have hi:i < vs.length:=by rw [h.1];exact (bo hg).1
 exact ⟨vs[i],by simp [hi],h.2 i _ g (by simp [hi]) hg⟩
theorem bq.take {K:Fz} {β:Bt} {vs:List Value} {gs:List GV} (h:bq K β vs gs) (n:Nat):bq K β (vs.take n) (gs.take n):=by
 refine ⟨by simp [h.1],fun i x y F I=>?_⟩;rw [getElem?_take] at F I;split at F
 ·rename_i hi;rw [ab hi] at I;exact h.2 i x y F I
 ·cases F
theorem bq.drop {K:Fz} {β:Bt} {vs:List Value} {gs:List GV} (h:bq K β vs gs) (n:Nat):bq K β (vs.drop n) (gs.drop n):=by
 refine ⟨by simp [h.1],fun i x y F I=>?_⟩;rw [getElem?_drop] at F I;exact h.2 _ x y F I
def cz:List GV->Nat->GV
 | [],_=>.U
 | g::_,0=>g
 | _::l,n+1=>cz l n
def bp:List GV->Nat->GV->List GV
 | [],_,_=>[]
 | _::l,0,g=>g::l
 | x::l,n+1,g=>x::bp l n g
def bb (l:List GV):Operand->GV
 | .tmp t=>cz l t
 | .const v=>.v v
 | .global g=>.v (.pointer (some ⟨g,0,none⟩))
 | .func f=>.v (.func (.func f) #[] #[])
def bJ (l:List GV) (d:Option Tmp) (g:GV):List GV:=match d with | some d=>bp l d g | none=>l
inductive FR (K:Fz) (β:Bt):List GV->List Value->Prop
 | nil:FR K β [] []
 | cons {g:GV} {v:Value} {gs:List GV} {vs:List Value} (h:Rel K β v g) (t:FR K β gs vs):FR K β (g::gs) (v::vs)
theorem FR.mono {K K':Fz} {β bT:Bt} {gs:List GV} {vs:List Value} (h:FR K β gs vs) (hk:dh K K') (hb:dX β bT):FR K' bT gs vs:=by
 induction h with
 | nil=>exact .nil
 | cons h t ih=>exact .cons (h.mono hk hb) ih
theorem FR.nth {K:Fz} {β:Bt} {gs:List GV} {vs:List Value} (h:FR K β gs vs) (t:Nat):Rel K β (nth vs t) (cz gs t):=by
 induction h generalizing t with
 | nil=>exact .U _
 | cons h _ ih=>cases t with | zero=>exact h | succ t=>exact ih t
theorem FR.ev {K:Fz} {β:Bt} {gs:List GV} {vs:List Value} (h:FR K β gs vs) (x:Operand):Rel K β (ev vs x) (bb gs x):=by
 cases x with
 | tmp t=>exact h.nth t
 | const v=>exact .v _
 | global g=>exact .v _
 | func f=>exact .v _
theorem FR.fV {K:Fz} {β:Bt} {gs:List GV} {vs:List Value} (h:FR K β gs vs) (t:Nat) {v:Value} {g:GV} (hv:Rel K β v g):FR K β (bp gs t g) (fV vs t v):=by
 induction h generalizing t with
 | nil=>exact .nil
 | cons h ht ih=>cases t with | zero=>exact .cons hv ht | succ t=>exact .cons h (ih t)
theorem FR.put {K:Fz} {β:Bt} {gs:List GV} {vs:List Value} (h:FR K β gs vs) (d:Option Tmp) {v:Value} {g:GV} (hv:Rel K β v g):FR K β (bJ gs d g) (put vs d v):=by
 cases d with | none=>exact h | some d=>exact h.fV d hv
theorem FR.args {K:Fz} {β:Bt} {gs:List GV} {vs:List Value} (h:FR K β gs vs) (xs:List Operand):bq K β (xs.map (Xw.ev vs)) (xs.map (bb gs)):=by
 induction xs with
 | nil=>exact .nil
 | cons x xs ih=>exact .cons (h.ev x) ih
inductive Ob where
 | gone
 | box (E:TypeId) (cs:List GV)
 | vec (E:TypeId) (k fz:Nat) (rows:List (List GV))
 | vech (E:TypeId) (k:Nat) (rows:List (List GV)) (x:Value)
 | lost
def lK (K:Fz) (w:World):Prop:=∀ b o g,K b o=some g->g.pc=true/\∃ v,ia w.heap b o=some v/\Rel K (fun _=>.no) v g
def iw (k:Nat) (rows:List (List GV)):Prop:=∀ r∈rows,r.length=k/\∀ g∈r,g.pc=true
def lM (K:Fz) (β:Bt) (w:World) (i:Nat):Ob->Prop
 | .gone=>β i=.no
 | .box E cs=>∃ b vs,β i=.fix b/\w.heap[b]?=some (.cells vs.toArray E (0,0))/\bq K β vs cs/\∀ o,K b o=none
 | .vec E k fz rows=>∃ h xs,β i=.gr h rows.length/\jz w 0 E k h rows.length xs/\bq K β xs rows.flatten/\iw k rows /\
   (∀ b,h.ownBlock=some b->(∀ o,fz * k<=o->K b o=none)/\∀ o g,o < fz * k->rows.flatten[o]?=some g->K b o=some g)/\fz<=rows.length
 | .vech E k rows x=>∃ xs,β i=.gr x rows.length/\jz w 0 E k x rows.length xs/\bq K β xs rows.flatten/\iw k rows/\∀ b,x.ownBlock=some b->∀ o,K b o=none
 | .lost=>∀ b,(β i).blk=some b->b < w.heap.size
def xl:List Int:=(List.range 20).map fun i=>((10 ^ i:Nat):Int)
def xt:List Int:=(List.range 256).map fun i=>if i=9\/i=10\/i=11\/i=12\/i=13\/i=32 then 1 else 0
def yT (m:Int):Fz:=fun b o =>
 if b=0 then (match o with | 0=>some (.v (.int .i64 m)) | _=>none)
 else if b=3 then xl[o]?.map fun z=>.v (.int .u64 z)
 else if b=1 then xt[o]?.map fun z=>.v (.int .u8 z)
 else none
def uE (w:World) (b n:Nat):Prop:=∃ cs E z,w.heap[b]?=some (.cells cs E z)/\cs.size=n
theorem uE.lt {w:World} {b n:Nat} (h:uE w b n):b < w.heap.size:=by obtain ⟨cs,E,z,h,_⟩:=h;exact tD h
structure jZ (K:Fz) (β:Bt) (w:World):Prop where
 le:∃ m,dh (yT m) K
 pow:uE w 3 20
 spc:uE w 1 256
 free:∀ i b,(β i).blk=some b->b≠3/\b≠1
theorem jZ.step {S:Nat->Prop} {K K':Fz} {β bT:Bt} {w w':World} (h:jZ K β w) (hx:Ext S w w') (hS:∀ b,S b->∃ i,(β i).blk=some b) (hk:dh K K') (se:∀ i b,(bT i).blk=some b->(∃ j,(β j).blk=some b)\/w.heap.size<=b):jZ K' bT w':=by
 obtain ⟨⟨m,F⟩,I,h3,h4⟩:=h
 have key:∀ {b n:Nat},uE w b n->¬ S b->uE w' b n:=fun ⟨cs,E,z,a,e⟩ hn=>⟨cs,E,z,hx.blk a hn,e⟩
 refine ⟨⟨m,F.trans hk⟩,key I (fun hs=>?_),key h3 (fun hs=>?_),fun i b hb=>?_⟩
 ·obtain ⟨i,hi⟩:=hS _ hs;exact (h4 i _ hi).1 rfl
 ·obtain ⟨i,hi⟩:=hS _ hs;exact (h4 i _ hi).2 rfl
 ·rcases se i b hb with ⟨j,hj⟩ | hs
  ·exact h4 j b hj
  ·have:=I.lt;have:=h3.lt;exact ⟨by omega,by omega⟩
structure Bs where
 w0:World
 foot:Nat->Prop
 K0:Fz
 β0:Bt
 m:Nat
structure Inv (B:Bs) (K:Fz) (β:Bt) (Γ:List Ob) (w:World):Prop where
 ext:Ext B.foot B.w0 w
 kle:dh B.K0 K
 ble:dX B.β0 β
 loc:∀ i,B.m<=i->B.β0 i=.no
 fz:lK K w
 ob:∀ i x,Γ[i]?=some x->lM K β w i x
 out:∀ i,Γ.length<=i->β i=.no
 dis:∀ i j b,(β i).blk=some b->(β j).blk=some b->i=j
 own:∀ i b,(β i).blk=some b->B.foot b\/B.w0.heap.size<=b
 kn:∀ b o g,K b o=some g->B.K0 b o=some g\/B.foot b\/B.w0.heap.size<=b
 tab:jZ K β w
section
variable {B:Bs} {K:Fz} {β:Bt} {Γ:List Ob} {w:World}
theorem lM.lt {i:Nat} {x:Ob} (h:lM K β w i x) {b:Nat} (hb:(β i).blk=some b):b < w.heap.size:=by
 cases x with
 | gone=>simp only [lM] at h;rw [h] at hb;cases hb
 | box E cs =>
  obtain ⟨b',vs,F,I,_⟩:=h;rw [F] at hb;cases hb;exact tD I
 | vec E k fz rows =>
  obtain ⟨h',xs,F,I,_⟩:=h;rw [F] at hb;exact (I.lt hb).2
 | vech E k rows x =>
  obtain ⟨xs,F,I,_⟩:=h;rw [F] at hb;exact (I.lt hb).2
 | lost=>exact h b hb
theorem Inv.lt (h:Inv B K β Γ w) {i b:Nat} (hb:(β i).blk=some b):b < w.heap.size:=by
 by_cases hi:i < Γ.length
 ·exact (h.ob i Γ[i] (by simp [hi])).lt hb
 ·rw [h.out i (by omega)] at hb;cases hb
theorem lK.lt (h:lK K w) {b o:Nat} {g:GV} (hg:K b o=some g):b < w.heap.size:=by
 obtain ⟨_,v,hv,_⟩:=h b o g hg;exact Gv hv
def blocks (β:Bt):Nat->Prop:=fun b=>∃ i,(β i).blk=some b
def cur (K:Fz) (β:Bt) (Γ:List Ob) (w:World):Bs:=⟨w,blocks β,K,β,Γ.length⟩
theorem Inv.here (h:Inv B K β Γ w):Inv (cur K β Γ w) K β Γ w :=
 ⟨Ext.refl w,dh.refl K,dX.refl β,h.out,h.fz,h.ob,h.out,h.dis,fun i b hb=>.inl ⟨i,hb⟩,fun _ _ _ h=>.inl h,h.tab⟩
theorem Inv.P0 {K':Fz} {bT:Bt} {aR Γ0:List Ob} {w':World} (h:Inv B K β Γ w) (k:Inv (cur K β Γ0 w) K' bT aR w'):Inv B K' bT aR w' :=
 ⟨h.ext.step k.ext (fun j hj=>by obtain ⟨i,hi⟩:=hj;exact (h.own i j hi).symm),h.kle.trans k.kle,h.ble.trans k.ble,h.loc,k.fz,k.ob,k.out,k.dis,
  fun i b hb=>by
   rcases k.own i b hb with F | F
   ·obtain ⟨j,hj⟩:=F;exact h.own j b hj
   ·exact .inr (kA h.ext.size F),
  fun b o g hg=>by
   rcases k.kn b o g hg with F | ⟨j,hj⟩ | F
   ·exact h.kn b o g F
   ·exact .inr (h.own j b hj)
   ·exact .inr (.inr (kA h.ext.size F)),k.tab⟩
theorem lM.ext {S:Nat->Prop} {K':Fz} {bT:Bt} {w':World} {i:Nat} {x:Ob} (h:lM K β w i x) (hx:Ext S w w') (hs:∀ b,(β i).blk=some b->¬ S b) (hk:dh K K') (hb:dX β bT)
  (he:bT i=β i) (hn:∀ b o,(β i).blk=some b->K b o=none->K' b o=none):lM K' bT w' i x:=by
 cases x with
 | gone=>simp only [lM] at h |-;rw [he,h]
 | box E cs =>
  obtain ⟨b,vs,F,I,h3,h4⟩:=h
  have fT:(β i).blk=some b:=by rw [F];rfl
  exact ⟨b,vs,he.trans F,hx.blk I (hs b fT),h3.mono hk hb,fun o=>hn b o fT (h4 o)⟩
 | vec E k fz rows =>
  obtain ⟨h',xs,F,I,h3,h4,h5,h6⟩:=h
  have fT:∀ b,h'.ownBlock=some b->(β i).blk=some b:=fun b hb=>by rw [F];exact hb
  exact ⟨h',xs,he.trans F,I.ext hx (fun b bD=>hs b (fT b bD)),h3.mono hk hb,h4,fun b bD=>⟨fun o ho=>hn b o (fT b bD) ((h5 b bD).1 o ho),fun o g ho hg=>hk _ _ _ ((h5 b bD).2 o g ho hg)⟩,h6⟩
 | vech E k rows x =>
  obtain ⟨xs,F,I,h3,h4,h5⟩:=h
  have fT:∀ b,x.ownBlock=some b->(β i).blk=some b:=fun b hb=>by rw [F];exact hb
  exact ⟨xs,he.trans F,I.ext hx (fun b bD=>hs b (fT b bD)),h3.mono hk hb,h4,fun b bD o=>hn b o (fT b bD) (h5 b bD o)⟩
 | lost=>exact fun b bD=>yD (h b (by rw [<-he];exact bD)) hx.size
theorem lK.ext {S:Nat->Prop} {w':World} (h:lK K w) (hx:Ext S w w') (hs:∀ b o g,K b o=some g->¬ S b):lK K w':=fun b o g hg=>by
 obtain ⟨F,v,hv,hr⟩:=h b o g hg;exact ⟨F,v,hx.c hv (hs b o g hg),hr⟩
theorem Inv.same {w':World} (h:Inv B K β Γ w) (hx:Ext jm w w'):Inv B K β Γ w' :=
 ⟨h.ext.step hx (fun j hj=>hj.elim),h.kle,h.ble,h.loc,h.fz.ext hx (fun _ _ _ _ h=>h),fun i x hi=>(h.ob i x hi).ext hx (fun _ _ h=>h) (dh.refl K) (dX.refl β) rfl (fun _ _ _ h=>h),h.out,h.dis,h.own,h.kn,h.tab.step hx (fun _ h=>h.elim) (dh.refl K) (fun i b h=>.inl ⟨i,h⟩)⟩
def jo (p:Nat->Bool) (β:Bt):Bt:=fun i=>match p i with
 | true=>β i
 | false=>.no
theorem kr {p:Nat->Bool} {β:Bt} {i:Nat} (h:p i=true):jo p β i=β i:=by simp [jo,h]
theorem Ep {p:Nat->Bool} {β:Bt} {i:Nat} (h:p i=false):jo p β i=.no:=by simp [jo,h]
end
section
variable {B:Bs} {K:Fz} {β:Bt} {Γ:List Ob} {w:World}
def gQ (β:Bt) (i:Nat) (x:Bk):Bt:=fun j=>if j=i then x else β j
theorem bO {i:Nat} {x:Bk}:gQ β i x i=x:=by simp [gQ]
theorem cK {i j:Nat} {x:Bk} (h:j≠i):gQ β i x j=β j:=by simp [gQ,h]
theorem qS {i j b:Nat} {x:Bk} (h:(gQ β i x j).blk=some b):x.blk=some b\/(β j).blk=some b:=by
 by_cases hj:j=i
 ·subst hj;rw [bO] at h;exact .inl h
 ·rw [cK hj] at h;exact .inr h
theorem jM {i:Nat} {x:Bk} (h:tN (β i) x):dX β (gQ β i x):=fun j=>by
 by_cases hj:j=i
 ·subst hj;rw [bO];exact h
 ·rw [cK hj];exact tN.refl _
theorem bq.self {vs:List Value}:bq K β vs (vs.map .v):=⟨by simp,fun i v g F I=>by
 rw [aP,F] at I;cases I;exact .v _⟩
theorem Inv.add {w':World} {b:Nat} {vs:List Value} {cs:List GV} {E:TypeId} (h:Inv B K β Γ w) (hn:wy w w' b (.cells vs.toArray E)) (hr:bq K β vs cs) :
  Inv B K (gQ β Γ.length (.fix b)) (Γ++[.box E cs]) w':=by
 have da:β Γ.length=.no:=h.out _ (aE _);have hle:dX β (gQ β Γ.length (.fix b)):=jM (by rw [da];trivial)
 have ak:∀ i b',(β i).blk=some b'->b'≠b:=fun i b' bD=>by have:=h.lt bD;have:=hn.fresh;omega
 have hK:∀ o,K b o=none:=fun o=>by
  cases hk:K b o with
  | none=>rfl
  | some g=>have:=h.fz.lt hk;have:=hn.fresh;omega
 refine ⟨h.ext.step hn.ext (fun j hj=>hj.elim),h.kle,h.ble.trans hle,h.loc,h.fz.ext hn.ext (fun _ _ _ _ h=>h),fun i x hi=>?_,fun i hi=>?_,fun i j b' hi hj=>?_,fun i b' hi=>?_,h.kn,h.tab.step hn.ext (fun _ h=>h.elim) (dh.refl K) (fun i b2 hi=>by rcases qS hi with F | F;(· cases F;exact .inr (by have:=hn.fresh;omega));exact .inl ⟨i,F⟩)⟩
 ·by_cases vD:i < Γ.length
  ·rw [fO vD] at hi
   have ct:i≠Γ.length:=by omega
   exact (h.ob i x hi).ext hn.ext (fun _ _ h=>h) (dh.refl K) hle (cK ct) (fun _ _ _ h=>h)
  ·have:i=Γ.length:=by have:=(bo hi).1;simp at this;omega
   subst this;simp at hi;subst hi;exact ⟨b,vs,bO,hn.blk,hr.mono (dh.refl K) hle,hK⟩
 ·simp at hi;rw [cK (by omega)];exact h.out i (by omega)
 ·by_cases F:i=Γ.length <;> by_cases I:j=Γ.length
  ·omega
  ·subst F;rw [bO] at hi;rw [cK I] at hj;cases hi;exact absurd rfl (ak j _ hj)
  ·subst I;rw [bO] at hj;rw [cK F] at hi;cases hj;exact absurd rfl (ak i _ hi)
  ·rw [cK F] at hi;rw [cK I] at hj;exact h.dis i j b' hi hj
 ·by_cases F:i=Γ.length
  ·subst F;rw [bO] at hi;cases hi;exact .inr (by have:=hn.fresh;have:=h.ext.size;omega)
  ·rw [cK F] at hi;exact h.own i b' hi
theorem Inv.Gr {w':World} {E k:Nat} {x:Value} {xs:List Value} {rows:List (List GV)} (h:Inv B K β Γ w) (hx:Ext jm w w') (ho:jz w' 0 E k x rows.length xs) (hf:∀ b,x.ownBlock=some b->w.heap.size<=b)
  (hr:bq K β xs rows.flatten) (hk:iw k rows):Inv B K (gQ β Γ.length (.gr x rows.length)) (Γ++[.vec E k 0 rows]) w':=by
 have da:β Γ.length=.no:=h.out _ (aE _);have hle:dX β (gQ β Γ.length (.gr x rows.length)):=jM (by rw [da];trivial)
 have ak:∀ i b',(β i).blk=some b'->x.ownBlock≠some b':=fun i b' bD he=>by have:=h.lt bD;have:=hf b' he;omega
 have hK:∀ b,x.ownBlock=some b->∀ o,K b o=none:=fun b hb o=>by
  cases hk:K b o with
  | none=>rfl
  | some g=>have:=h.fz.lt hk;have:=hf b hb;omega
 refine ⟨h.ext.step hx (fun j hj=>hj.elim),h.kle,h.ble.trans hle,h.loc,h.fz.ext hx (fun _ _ _ _ h=>h),fun i y hi=>?_,fun i hi=>?_,fun i j b' hi hj=>?_,fun i b' hi=>?_,h.kn,h.tab.step hx (fun _ h=>h.elim) (dh.refl K) (fun i b2 hi=>by rcases qS hi with F | F;(· exact .inr (hf b2 F));exact .inl ⟨i,F⟩)⟩
 ·by_cases vD:i < Γ.length
  ·rw [fO vD] at hi
   have ct:i≠Γ.length:=by omega
   exact (h.ob i y hi).ext hx (fun _ _ h=>h) (dh.refl K) hle (cK ct) (fun _ _ _ h=>h)
  ·have:i=Γ.length:=by have:=(bo hi).1;simp at this;omega
   subst this;simp at hi;subst hi;exact ⟨x,xs,bO,ho,hr.mono (dh.refl K) hle,hk,fun b hb=>⟨fun o _=>hK b hb o,fun o g ho _=>by omega⟩,aM _⟩
 ·simp at hi;rw [cK (by omega)];exact h.out i (by omega)
 ·by_cases F:i=Γ.length <;> by_cases I:j=Γ.length
  ·omega
  ·subst F;rw [bO] at hi;rw [cK I] at hj;exact absurd hi (ak j _ hj)
  ·subst I;rw [bO] at hj;rw [cK F] at hi;exact absurd hj (ak i _ hi)
  ·rw [cK F] at hi;rw [cK I] at hj;exact h.dis i j b' hi hj
 ·by_cases F:i=Γ.length
  ·subst F;rw [bO] at hi;exact .inr (kA h.ext.size (hf b' hi))
  ·rw [cK F] at hi;exact h.own i b' hi
def mn (K:Fz) (b:Nat) (cs:List GV):Fz:=fun b' o=>if b'=b then cs[o]? else K b' o
theorem wB {b o:Nat} {cs:List GV} {g:GV} (h:cs[o]?=some g):mn K b cs b o=some g:=by simp [mn,h]
theorem Inv.vy {w':World} {b:Nat} {vs:List Value} {cs:List GV} {E:TypeId} (h:Inv B K β Γ w) (hn:wy w w' b (.cells vs.toArray E)) (hr:bq K β vs cs) (hp:∀ g∈cs,g.pc=true) :
  dh K (mn K b cs)/\Inv B (mn K b cs) β Γ w':=by
 have WN:∀ o,K b o=none:=fun o=>by
  cases hk:K b o with
  | none=>rfl
  | some g=>have:=h.fz.lt hk;have:=hn.fresh;omega
 have hle:dh K (mn K b cs):=fun b' o g hg=>by
  by_cases hb:b'=b
  ·subst hb;rw [WN] at hg;cases hg
  ·simp [mn,hb,hg]
 refine ⟨hle,h.ext.step hn.ext (fun j hj=>hj.elim),h.kle.trans hle,h.ble,h.loc,fun b' o g hg=>?_,fun i x hi=>?_,h.out,h.dis,h.own,fun b' o g hg=>?_,h.tab.step hn.ext (fun _ h=>h.elim) hle (fun i b2 h=>.inl ⟨i,h⟩)⟩
 ·by_cases hb:b'=b
  ·subst hb;simp [mn] at hg;obtain ⟨v,hv,fX⟩:=hr.at hg;have zz:=hp g (bA hg);exact ⟨zz,v,xH hn.blk (by simpa using hv),(fX.mono hle (dX.refl β)).pc zz⟩
  ·have mU:K b' o=some g:=by simpa [mn,hb] using hg
   obtain ⟨F,v,I,h3⟩:=h.fz b' o g mU;exact ⟨F,v,hn.ext.c I (fun h=>h),h3.mono hle (dX.refl _)⟩
 ·refine (h.ob i x hi).ext hn.ext (fun _ _ h=>h) hle (dX.refl β) rfl (fun b' o hb hk=>?_)
  have:b'≠b:=by have:=h.lt hb;have:=hn.fresh;omega
  simp [mn,this,hk]
 ·by_cases hb:b'=b
  ·exact .inr (.inr (by have:=hn.fresh;have:=h.ext.size;omega))
  ·exact h.kn b' o g (by simpa [mn,hb] using hg)
theorem Inv.store {w':World} {i b:Nat} {E:TypeId} {cs AU:List GV} {YR:List Value} (h:Inv B K β Γ w) (hi:Γ[i]?=some (.box E cs)) (hb:β i=.fix b) (hs:vn w w' b YR.toArray E)
  (hr:bq K β YR AU):Inv B K β (Γ.set i (.box E AU)) w':=by
 obtain ⟨b0,vs,F,I,h3,h4⟩:=h.ob i _ hi;rw [hb] at F;cases F
 have fT:(β i).blk=some b:=by rw [hb];rfl
 refine ⟨h.ext.step hs.ext (fun j hj=>?_),h.kle,h.ble,h.loc,h.fz.ext hs.ext (fun b' o g hg he=>?_),fun j x hj=>?_,fun j hj=>h.out j (by simpa using hj),h.dis,h.own,h.kn,h.tab.step hs.ext (fun j hj=>⟨i,by subst hj;exact fT⟩) (dh.refl K) (fun i b2 h=>.inl ⟨i,h⟩)⟩
 ·subst hj;exact (h.own i _ fT).symm
 ·subst he;rw [h4] at hg;cases hg
 ·rw [dx] at hj;split at hj
  ·rename_i ir;split at hj
   ·cases hj;subst ir
    exact ⟨b,YR,hb,hs.blk,hr,h4⟩
   ·cases hj
  ·rename_i ir;refine (h.ob j x hj).ext hs.ext (fun b' bD he=>?_) (dh.refl K) (dX.refl β) rfl (fun _ _ _ h=>h);subst he;exact ir (h.dis i j _ fT bD)
def CI (K:Fz) (x:Value) (n:Nat) (fl:List GV):Fz:=fun b o=>if x.ownBlock=some b/\o < n then fl[o]? else K b o
theorem An {x:Value} {n b o:Nat} {fl:List GV} (F:x.ownBlock=some b) (I:o < n):CI K x n fl b o=fl[o]?:=by unfold CI;rw [ab ⟨F,I⟩]
theorem xR {x:Value} {n b o:Nat} {fl:List GV} (h:¬ (x.ownBlock=some b/\o < n)):CI K x n fl b o=K b o:=by unfold CI;rw [L h]
theorem CJ {x:Value} {n b o:Nat} {fl:List GV} {g:GV} (h:CI K x n fl b o=some g):(x.ownBlock=some b/\o < n/\fl[o]?=some g)\/(¬ (x.ownBlock=some b/\o < n)/\K b o=some g):=by
 by_cases hc:x.ownBlock=some b/\o < n
 ·rw [An hc.1 hc.2] at h;exact .inl ⟨hc.1,hc.2,h⟩
 ·rw [xR hc] at h;exact .inr ⟨hc,h⟩
theorem Inv.grow {w':World} {i:Nat} {E k fz:Nat} {rows news:List (List GV)} {h0 x:Value} {xs ns:List Value} (h:Inv B K β Γ w) (hi:Γ[i]?=some (.vec E k fz rows)) (hb:β i=.gr h0 rows.length)
  (ua:jz w 0 E k h0 rows.length xs/\bq K β xs rows.flatten) (ho:jz w' 0 E k x (rows.length+news.length) (xs++ns)) (hx:Ext (fun b=>h0.ownBlock=some b) w w') (hf:∀ b,x.ownBlock=some b->h0.ownBlock=some b\/w.heap.size<=b)
  (hr:bq K β ns news.flatten) (hk:iw k news) (ct:news≠[]) (mI:∀ b,h0.ownBlock=some b->∀ o v,o < fz * k->ia w.heap b o=some v->ia w'.heap b o=some v) :
  ∃ K',dh K K'/\dX β (gQ β i (.gr x (rows++news).length))/\Inv B K' (gQ β i (.gr x (rows++news).length)) (Γ.set i (.vec E k fz (rows++news))) w':=by
 obtain ⟨uN,xs',F,I,h3,h4,h5,h6⟩:=h.ob i _ hi;rw [hb] at F;cases F;clear I h3
 have hlen:news.length≠0:=fun h=>ct (iC h)
 have hle:dX β (gQ β i (.gr x (rows++news).length)):=jM (by rw [hb];exact ⟨x,_,rfl,by simp,fun he=>by rw [aO] at he;omega⟩)
 have zn:∀ b,h0.ownBlock=some b->(β i).blk=some b:=fun b bD=>by rw [hb];exact bD
 have L2:rows.flatten.length=rows.length * k:=by rw [<-ua.2.1];exact ua.1.1
 have ab1:fz * k<=rows.flatten.length:=by rw [L2];exact rT k h6
 have Fa:dh K (CI K x (fz * k) rows.flatten):=fun b o g hg=>by
  by_cases hc:x.ownBlock=some b/\o < fz * k
  ·rw [An hc.1 hc.2]
   rcases hf b hc.1 with h7 | h7
   ·have TO:o < rows.flatten.length:=by omega
    have:=(h5 b h7).2 o rows.flatten[o] hc.2 (by simp [TO]);rw [this] at hg;cases hg;simp [TO]
   ·have:=h.fz.lt hg;omega
  ·rw [xR hc];exact hg
 refine ⟨CI K x (fz * k) rows.flatten,Fa,hle,h.ext.step hx (fun j hj=>(h.own i j (zn j hj)).symm),h.kle.trans Fa,h.ble.trans hle,h.loc,fun b o g hg=>?_,fun j y hj=>?_,fun j hj=>?_,fun j j' b hj nD=>?_,fun j b hj=>?_,fun b o g hg=>?_,h.tab.step hx (fun j hj=>⟨i,zn j hj⟩) Fa (fun j b2 hi=>by rcases qS hi with F | F;(· exact (hf b2 F).imp (fun I=>⟨i,zn b2 I⟩) id);exact .inl ⟨j,F⟩)⟩
 ·rcases CJ hg with ⟨bD,Bc,hg⟩ | ⟨hc,hg⟩
  ·have zz:g.pc=true:=by
    obtain ⟨r,jI,eg⟩:=List.mem_flatten.1 (bA hg);exact (h4 r jI).2 g eg
   obtain ⟨v,hv,fX⟩:=ua.2.at hg;obtain ⟨b2,c,tA,_,_,ll⟩:=ho.cells.2 (by intro h0;have:xs=[]:=(List.append_eq_nil_iff.1 h0).1;rw [this] at hv;simp at hv)
   have eA:b2=b:=by rw [tA] at bD;cases bD;rfl
   subst eA;have ak:o < xs.length:=(bo hv).1;refine ⟨zz,v,?_,(fX.mono Fa hle).pc zz⟩;rw [<-fP];exact ll o v (by rw [fO ak];exact hv)
  ·obtain ⟨hp,v,hv,fX⟩:=h.fz b o g hg;refine ⟨hp,v,?_,fX.mono Fa (dX.refl _)⟩
   by_cases h7:h0.ownBlock=some b
   ·by_cases h8:o < fz * k
    ·exact mI b h7 o v h8 hv
    ·rw [(h5 b h7).1 o (by omega)] at hg;cases hg
   ·exact hx.c hv h7
 ·rw [dx] at hj;split at hj
  ·rename_i ir;split at hj
   ·cases hj;subst ir
    refine ⟨x,xs++ns,bO,by simpa using ho,?_,?_,fun b bD=>⟨fun o Bc=>?_,fun o g Bc hg=>?_⟩,by simp;omega⟩
    ·rw [List.flatten_append];exact (ua.2.mono Fa hle).app (hr.mono Fa hle)
    ·intro r O0
     rcases nA O0 with h7 | h7
     ·exact h4 r h7
     ·exact hk r h7
    ·rw [xR (by omega)]
     rcases hf b bD with h7 | h7
     ·exact (h5 b h7).1 o Bc
     ·cases mW:K b o with
      | none=>rfl
      | some g=>have:=h.fz.lt mW;omega
    ·rw [An bD Bc];rw [List.flatten_append,fO (by omega)] at hg;exact hg
   ·cases hj
  ·rename_i ir;refine (h.ob j y hj).ext hx (fun b bD he=>?_) Fa hle (cK (fun he=>ir he.symm)) (fun b o bD mW=>?_)
   ·exact ir (h.dis i j b (zn b he) bD)
   ·rw [xR];exact mW;rintro ⟨h7,_⟩
    rcases hf b h7 with h8 | h8
    ·exact ir (h.dis i j b (zn b h8) bD)
    ·have:=h.lt bD;omega
 ·have nD:Γ.length<=j:=by simpa using hj
  have:i < Γ.length:=(bo hi).1;rw [cK (by omega)];exact h.out j nD
 ·have key:∀ j b,j≠i->(β j).blk=some b->x.ownBlock≠some b:=fun j b BS bD he=>by
   rcases hf b he with h7 | h7
   ·exact BS (h.dis j i b bD (zn b h7))
   ·have:=h.lt bD;omega
  by_cases F:j=i <;> by_cases I:j'=i
  ·omega
  ·subst F;rw [bO] at hj;rw [cK I] at nD;exact absurd hj (key j' b I nD)
  ·subst I;rw [bO] at nD;rw [cK F] at hj;exact absurd nD (key j b F hj)
  ·rw [cK F] at hj;rw [cK I] at nD;exact h.dis j j' b hj nD
 ·by_cases F:j=i
  ·subst F;rw [bO] at hj
   rcases hf b hj with h7 | h7
   ·exact h.own j b (zn b h7)
   ·exact .inr (kA h.ext.size h7)
  ·rw [cK F] at hj;exact h.own j b hj
 ·rcases CJ hg with ⟨bD,_,_⟩ | ⟨_,hg⟩
  ·rcases hf b bD with h7 | h7
   ·exact .inr (h.own i b (zn b h7))
   ·exact .inr (.inr (kA h.ext.size h7))
  ·exact h.kn b o g hg
theorem Inv.jD {i E k fz:Nat} {rows:List (List GV)} (h:Inv B K β Γ w) (hi:Γ[i]?=some (.vec E k fz rows)) :
  ∃ K',dh K K'/\(∀ x b,β i=.gr x rows.length->x.ownBlock=some b->∀ (o:Nat) g,rows.flatten[o]?=some g->K' b o=some g)/\Inv B K' β (Γ.set i (.vec E k rows.length rows)) w:=by
 obtain ⟨x,xs,F,I,h3,h4,h5,h6⟩:=h.ob i _ hi
 have L2:rows.flatten.length=rows.length * k:=by rw [<-h3.1];exact I.1
 have fT:∀ b,x.ownBlock=some b->(β i).blk=some b:=fun b hb=>by rw [F];exact hb
 have hle:dh K (CI K x (rows.length * k) rows.flatten):=fun b o g hg=>by
  by_cases hc:x.ownBlock=some b/\o < rows.length * k
  ·rw [An hc.1 hc.2]
   have ak:o < rows.flatten.length:=by omega
   by_cases ho:o < fz * k
   ·have:=(h5 b hc.1).2 o rows.flatten[o] ho (by simp [ak]);rw [this] at hg;cases hg;simp [ak]
   ·rw [(h5 b hc.1).1 o (by omega)] at hg;cases hg
  ·rw [xR hc];exact hg
 refine ⟨CI K x (rows.length * k) rows.flatten,hle,fun x' b Kq hb o g hg=>?_,h.ext,h.kle.trans hle,h.ble,h.loc,fun b o g hg=>?_,fun j y hj=>?_,fun j hj=>h.out j (by simpa using hj),h.dis,h.own,fun b o g hg=>?_,h.tab.step (S:=jm) (Ext.refl w) (fun _ h=>h.elim) hle (fun i b2 h=>.inl ⟨i,h⟩)⟩
 ·rw [F] at Kq;cases Kq;rw [An hb (by rw [<-L2];exact (bo hg).1)];exact hg
 ·rcases CJ hg with ⟨bD,Bc,hg⟩ | ⟨hc,hg⟩
  ·have zz:g.pc=true:=by
    obtain ⟨r,jI,eg⟩:=List.mem_flatten.1 (bA hg);exact (h4 r jI).2 g eg
   obtain ⟨v,hv,fX⟩:=h3.at hg;obtain ⟨b2,c,tA,_,_,ll⟩:=I.cells.2 (by intro h0;rw [h0] at hv;simp at hv)
   have eA:b2=b:=by rw [tA] at bD;cases bD;rfl
   subst eA;exact ⟨zz,v,by rw [<-fP];exact ll o v hv,(fX.mono hle (dX.refl β)).pc zz⟩
  ·obtain ⟨h7,v,h8,h9⟩:=h.fz b o g hg;exact ⟨h7,v,h8,h9.mono hle (dX.refl _)⟩
 ·rw [dx] at hj;split at hj
  ·rename_i ir;split at hj
   ·cases hj;subst ir
    refine ⟨x,xs,F,I,h3.mono hle (dX.refl β),h4,fun b hb=>⟨fun o ho=>?_,fun o g ho hg=>?_⟩,aE _⟩
    ·rw [xR (by omega)];exact (h5 b hb).1 o (kA (rT k h6) ho)
    ·rw [An hb ho];exact hg
   ·cases hj
  ·rename_i ir;refine (h.ob j y hj).ext (Ext.refl w) (fun _ _ h=>h) hle (dX.refl β) rfl (fun b o bD mW=>?_) (S:=jm);rw [xR];exact mW;rintro ⟨h7,_⟩;exact ir (h.dis i j b (fT b h7) bD)
 ·rcases CJ hg with ⟨bD,_,_⟩ | ⟨_,hg⟩
  ·exact .inr (h.own i b (fT b bD))
  ·exact h.kn b o g hg
end
mutual
def eC (f:Nat->Nat):GV->GV
 | .v x=>.v x
 | .U=>.U
 | .agg cs=>.agg (cV f cs)
 | .tup cs=>.tup (cV f cs)
 | .sl k rows=>.sl k rows
 | .box cs o=>.box cs o
 | .loc i o=>.loc (f i) o
 | .vec i n=>.vec (f i) n
 | .vp i n k idx off=>.vp (f i) n k idx off
 | .arr i o n=>.arr (f i) o n
 | .fn g a c=>.fn g (cV f a) (cV f c)
def cV (f:Nat->Nat):List GV->List GV
 | []=>[]
 | g::gs=>eC f g::cV f gs
end
theorem ly (f:Nat->Nat) (gs:List GV):cV f gs=gs.map (eC f):=by
 induction gs with
 | nil=>rfl
 | cons g gs ih=>simp [cV,ih]
theorem Rel.DD {K:Fz} {β:Bt} {f:Nat->Nat} {x:Value} {g:GV} (h:Rel K (fun j=>β (f j)) x g):Rel K β x (eC f g):=by
 induction h with
 | v x=>exact .v x
 | U x=>exact .U x
 | agg vs cs hl h ih =>
  rw [eC,ly]
  refine .agg vs _ (by simpa using hl) fun i v g F I=>?_
  rw [aP] at I
  cases hc:cs[i]? with
  | none=>rw [hc] at I;cases I
  | some c=>rw [hc] at I;cases I;exact ih i v c F hc
 | tup vs cs hl h ih =>
  rw [eC,ly]
  refine .tup vs _ (by simpa using hl) fun i v g F I=>?_
  rw [aP] at I
  cases hc:cs[i]? with
  | none=>rw [hc] at I;cases I
  | some c=>rw [hc] at I;cases I;exact ih i v c F hc
 | sl0 a c k=>exact .sl0 a c k
 | sl b o c k rows h hc=>exact .sl b o c k rows h hc
 | box b o' o cs h=>exact .box b o' o cs h
 | loc i o b h=>exact .loc _ o b h
 | vec i n a c h=>exact .vec _ n a c h
 | vp i n k idx off x h=>exact .vp _ n k idx off x h
 | arr i o n b c h=>exact .arr _ o n b c h
 | fn g xs ys first cap hl kL h h' ih ih' =>
  rw [eC,ly,ly];refine .fn g xs ys _ _ (by simpa using hl) (by simpa using kL) (fun i v g F I=>?_) (fun i v g F I=>?_)
  ·rw [aP] at I
   cases hc:first[i]? with
   | none=>rw [hc] at I;cases I
   | some c=>rw [hc] at I;cases I;exact ih i v c F hc
  ·rw [aP] at I
   cases hc:cap[i]? with
   | none=>rw [hc] at I;cases I
   | some c=>rw [hc] at I;cases I;exact ih' i v c F hc
theorem Rel.Dn {K:Fz} {β:Bt} {f:Nat->Nat} {x:Value} {g:GV} (h:Rel K β x (eC f g)):Rel K (fun j=>β (f j)) x g:=by
 generalize he:eC f g=g' at h
 induction h generalizing g with
 | v x =>
  cases g <;> simp only [eC] at he <;> first | (cases he;done) | skip
  cases he;exact .v x
 | U x =>
  cases g <;> simp only [eC] at he <;> first | (cases he;done) | skip
  exact .U x
 | agg vs cs hl h ih =>
  cases g <;> simp only [eC] at he <;> first | (cases he;done) | skip
  rename_i ds;rw [ly] at he;cases he
  exact .agg vs ds (by simpa using hl) fun i v g F I=>ih i v (eC f g) F (by rw [aP,I];rfl) rfl
 | tup vs cs hl h ih =>
  cases g <;> simp only [eC] at he <;> first | (cases he;done) | skip
  rename_i ds;rw [ly] at he;cases he
  exact .tup vs ds (by simpa using hl) fun i v g F I=>ih i v (eC f g) F (by rw [aP,I];rfl) rfl
 | sl0 a c k =>
  cases g <;> simp only [eC] at he <;> first | (cases he;done) | skip
  cases he;exact .sl0 a c _
 | sl b o c k rows h hc =>
  cases g <;> simp only [eC] at he <;> first | (cases he;done) | skip
  cases he;exact .sl b o c k rows h hc
 | box b o' o cs h =>
  cases g <;> simp only [eC] at he <;> first | (cases he;done) | skip
  cases he;exact .box b o' o cs h
 | loc i o b h =>
  cases g <;> simp only [eC] at he <;> first | (cases he;done) | skip
  cases he;exact .loc _ o b h
 | vec i n a c h =>
  cases g <;> simp only [eC] at he <;> first | (cases he;done) | skip
  cases he;exact .vec _ n a c h
 | vp i n k idx off x h =>
  cases g <;> simp only [eC] at he <;> first | (cases he;done) | skip
  cases he;exact .vp _ n k idx off x h
 | arr i o n b c h =>
  cases g <;> simp only [eC] at he <;> first | (cases he;done) | skip
  cases he;exact .arr _ o n b c h
 | fn g' xs ys first cap hl kL h h' ih ih' =>
  cases g <;> simp only [eC] at he <;> first | (cases he;done) | skip
  rename_i f' ds es;rw [ly,ly] at he;cases he;exact .fn _ xs ys ds es (by simpa using hl) (by simpa using kL) (fun i v g F I=>ih i v (eC f g) F (by rw [aP,I];rfl) rfl)
   (fun i v g F I=>ih' i v (eC f g) F (by rw [aP,I];rfl) rfl)
mutual
def GV.ok (p:Nat->Bool):GV->Bool
 | .loc i _=>p i
 | .vec i _=>p i
 | .vp i _ _ _ _=>p i
 | .arr i _ _=>p i
 | .agg cs=>FC p cs
 | .tup cs=>FC p cs
 | .fn _ a c=>FC p a&&FC p c
 | .v _=>true
 | .U=>true
 | .sl _ _=>true
 | .box _ _=>true
def FC (p:Nat->Bool):List GV->Bool
 | []=>true
 | g::gs=>GV.ok p g&&FC p gs
end
def below (n:Nat):Nat->Bool:=fun i=>Nat.blt i n
def other (n:Nat):Nat->Bool:=fun i=>!Nat.beq i n
abbrev GV.lt (n:Nat) (g:GV):Bool:=g.ok (below n)
theorem xi {p:Nat->Bool} {gs:List GV} (h:FC p gs=true) {g:GV} (hg:g∈gs):g.ok p=true:=by
 induction gs with
 | nil=>cases hg
 | cons x gs ih =>
  simp only [FC,aC] at h
  rcases de hg with rfl | hg
  ·exact h.1
  ·exact ih h.2 hg
theorem Rel.res {K:Fz} {β:Bt} {p:Nat->Bool} {x:Value} {g:GV} (h:Rel K β x g) (hl:g.ok p=true):Rel K (jo p β) x g:=by
 induction h with
 | v x=>exact .v x
 | U x=>exact .U x
 | agg vs cs rp h ih=>simp only [GV.ok] at hl;exact .agg vs cs rp fun i v g F I=>ih i v g F I (xi hl (bA I))
 | tup vs cs rp h ih=>simp only [GV.ok] at hl;exact .tup vs cs rp fun i v g F I=>ih i v g F I (xi hl (bA I))
 | sl0 a c k=>exact .sl0 a c k
 | sl b o c k rows h hc=>exact .sl b o c k rows h hc
 | box b o' o cs h=>exact .box b o' o cs h
 | loc i o b h=>simp only [GV.ok] at hl;exact .loc _ o b (by rw [kr hl,h])
 | vec i m a c h=>simp only [GV.ok] at hl;exact .vec _ m a c (by rw [kr hl];exact h)
 | vp i m k idx off x h=>simp only [GV.ok] at hl;exact .vp _ m k idx off x (by rw [kr hl];exact h)
 | arr i o m b c h=>simp only [GV.ok] at hl;exact .arr _ o m b c (by rw [kr hl,h])
 | fn g' xs ys first cap rp kL h h' ih ih' =>
  simp only [GV.ok,aC] at hl
  exact .fn _ xs ys first cap rp kL (fun i v g F I=>ih i v g F I (xi hl.1 (bA I))) (fun i v g F I=>ih' i v g F I (xi hl.2 (bA I)))
def Ob.ok (p:Nat->Bool):Ob->Bool
 | .box _ cs=>FC p cs
 | _=>true
def Ob.eC (f:Nat->Nat):Ob->Ob
 | .box E cs=>.box E (cV f cs)
 | x=>x
def lx (p:Nat->Bool):List Ob->Bool
 | []=>true
 | x::r=>Ob.ok p x&&lx p r
abbrev zP (n:Nat) (Γ:List Ob):Bool:=lx (below n) Γ
theorem KR {p:Nat->Bool} {gs:List Ob} (h:lx p gs=true) {g:Ob} (hg:g∈gs):g.ok p=true:=by
 induction gs with
 | nil=>cases hg
 | cons x gs ih =>
  simp only [lx,aC] at h
  rcases de hg with rfl | hg
  ·exact h.1
  ·exact ih h.2 hg
def MG (p:Nat->Bool):List GV->List GV
 | []=>[]
 | g::gs=>(match GV.ok p g with | true=>g | false=>.U)::MG p gs
abbrev Rc (n:Nat) (fr:List GV):List GV:=MG (below n) fr
theorem FR.res {K:Fz} {β:Bt} {p:Nat->Bool} {fr:List GV} {l:List Value} (h:FR K β fr l):FR K (jo p β) (MG p fr) l:=by
 induction h with
 | nil=>exact .nil
 | cons h t ih =>
  rw [MG];split
  ·rename_i hl;exact .cons (h.res hl) ih
  ·exact .cons (.U _) ih
theorem lM.res {K:Fz} {β:Bt} {w:World} {p:Nat->Bool} {i:Nat} {x:Ob} (h:lM K β w i x) (hi:p i=true) (hx:x.ok p=true):lM K (jo p β) w i x:=by
 cases x with
 | gone=>simp only [lM] at h |-;rw [kr hi,h]
 | box E cs =>
  obtain ⟨b,vs,F,I,h3,h4⟩:=h;exact ⟨b,vs,by rw [kr hi,F],I,⟨h3.1,fun i v g h5 h6=>(h3.2 i v g h5 h6).res (xi hx (bA h6))⟩,h4⟩
 | vec E k fz rows =>
  obtain ⟨h0,xs,F,I,h3,h4,h5⟩:=h;refine ⟨h0,xs,by rw [kr hi,F],I,⟨h3.1,fun i v g h6 h7=>(h3.2 i v g h6 h7).pc ?_⟩,h4,h5⟩;obtain ⟨r,jI,eg⟩:=List.mem_flatten.1 (bA h7);exact (h4 r jI).2 g eg
 | vech E k rows x =>
  obtain ⟨xs,F,I,h3,h4,h5⟩:=h;refine ⟨xs,by rw [kr hi,F],I,⟨h3.1,fun i v g h6 h7=>(h3.2 i v g h6 h7).pc ?_⟩,h4,h5⟩;obtain ⟨r,jI,eg⟩:=List.mem_flatten.1 (bA h7);exact (h4 r jI).2 g eg
 | lost=>exact fun b hb=>h b (by rw [kr hi] at hb;exact hb)
section
variable {B:Bs} {K:Fz} {β:Bt} {Γ:List Ob} {w:World}
theorem DQ {n i:Nat} (h:i < n):below n i=true:=by simpa [below] using h
theorem Uw {n i:Nat} (h:n<=i):below n i=false:=by
 cases hb:below n i with
 | false=>rfl
 | true=>simp [below] at hb;omega
theorem Inv.cut {n:Nat} (h:Inv B K β Γ w) (hm:B.m<=n) (hl:zP n (Γ.take n)=true):Inv B K (jo (below n) β) (Γ.take n) w:=by
 have ey:∀ i b,(jo (below n) β i).blk=some b->(β i).blk=some b:=fun i b hi=>by
  simp only [jo] at hi;split at hi
  ·exact hi
  ·cases hi
 refine ⟨h.ext,h.kle,fun i=>?_,h.loc,h.fz,fun i x hi=>?_,fun i hi=>?_,fun i j b hi hj=>h.dis i j b (ey i b hi) (ey j b hj),fun i b hi=>h.own i b (ey i b hi),h.kn,h.tab.step (S:=jm) (Ext.refl w) (fun _ h=>h.elim) (dh.refl K) (fun i b2 I=>.inl ⟨i,ey i b2 I⟩)⟩
 ·by_cases gD:i < n
  ·rw [kr (DQ gD)];exact h.ble i
  ·rw [h.loc i (by omega)];trivial
 ·have ak:=KR hl (bA hi);rw [getElem?_take] at hi;split at hi
  ·rename_i gD;exact (h.ob i x hi).res (DQ gD) ak
  ·cases hi
 ·by_cases gD:i < n
  ·rw [kr (DQ gD)];exact h.out i (by simp at hi;omega)
  ·exact Ep (Uw (by omega))
theorem KT {i:Nat}:other i i=false:=by simp [other]
theorem xj {i j:Nat} (h:j≠i):other i j=true:=by
 cases hb:Nat.beq j i with
 | false=>simp [other,hb]
 | true=>exact absurd (Nat.eq_of_beq_eq_true hb) h
theorem Inv.freeze {i:Nat} {E:TypeId} {cs:List GV} (h:Inv B K β Γ w) (hi:Γ[i]?=some (.box E cs)) (hp:∀ g∈cs,g.pc=true) (da:lx (other i) (Γ.set i .gone)=true) (hm:B.m<=i) :
  ∃ K',dh K K'/\(∀ b,β i=.fix b->∀ (j:Nat) g,cs[j]?=some g->K' b j=some g)/\Inv B K' (jo (other i) β) (Γ.set i .gone) w:=by
 obtain ⟨b,vs,F,I,h3,h4⟩:=h.ob i _ hi
 have fT:(β i).blk=some b:=by rw [F];rfl
 have hle:dh K (mn K b cs):=fun b' o g hg=>by
  by_cases hb:b'=b
  ·subst hb;rw [h4] at hg;cases hg
  ·simp [mn,hb,hg]
 have ey:∀ j b',(jo (other i) β j).blk=some b'->j≠i/\(β j).blk=some b':=fun j b' hj=>by
  by_cases hji:j=i
  ·subst hji;rw [Ep KT] at hj;cases hj
  ·rw [kr (xj hji)] at hj;exact ⟨hji,hj⟩
 refine ⟨mn K b cs,hle,fun b' bD j g hg=>?_,h.ext,h.kle.trans hle,fun j=>?_,h.loc,fun b' o g hg=>?_,fun j x hj=>?_,fun j hj=>?_,fun j j' b' hj nD=>?_,fun j b' hj=>?_,fun b' o g hg=>?_,h.tab.step (S:=jm) (Ext.refl w) (fun _ h=>h.elim) hle (fun i b2 I=>.inl ⟨i,(ey i b2 I).2⟩)⟩
 ·rw [F] at bD;cases bD;exact wB hg
 ·by_cases hji:j=i
  ·subst hji;rw [h.loc j hm];trivial
  ·rw [kr (xj hji)];exact h.ble j
 ·by_cases hb:b'=b
  ·subst hb;simp [mn] at hg;obtain ⟨v,hv,fX⟩:=h3.at hg;have zz:=hp g (bA hg);exact ⟨zz,v,xH I (by simpa using hv),(fX.mono hle (dX.refl β)).pc zz⟩
  ·have mU:K b' o=some g:=by simpa [mn,hb] using hg
   obtain ⟨h5,v,h6,h7⟩:=h.fz b' o g mU;exact ⟨h5,v,h6,h7.mono hle (dX.refl _)⟩
 ·have fx:=KR da (bA hj);rw [dx] at hj;split at hj
  ·rename_i ir;split at hj
   ·cases hj;subst ir;exact Ep KT
   ·cases hj
  ·rename_i ir;refine lM.res ?_ (xj (fun he=>ir he.symm)) fx;refine (h.ob j x hj).ext (Ext.refl w) (fun _ _ h=>h) hle (dX.refl β) rfl (fun b' o bD hk=>?_) (S:=jm)
   have:b'≠b:=fun he=>by subst he;exact ir (h.dis i j _ fT bD)
   simp [mn,this,hk]
 ·have:i < Γ.length:=(bo hi).1
  have nD:Γ.length<=j:=by simpa using hj
  rw [kr (xj (by omega))];exact h.out j nD
 ·exact h.dis j j' b' (ey j b' hj).2 (ey j' b' nD).2
 ·exact h.own j b' (ey j b' hj).2
 ·by_cases hb:b'=b
  ·subst hb;exact .inr (h.own i _ fT)
  ·exact h.kn b' o g (by simpa [mn,hb] using hg)
end
abbrev dU:=Exit->List GV->List Ob->Prop
def gl (B:Bs) (Q:dU):mR:=fun e l w=>∃ K β fr Γ,Inv B K β Γ w/\FR K β fr l/\Q e fr Γ
def GW (P:Program) (m:Nat) (c:Code) (Q:dU) (fr:List GV) (Γ:List Ob):Prop :=
 ∀ B K β w l,B.m=m->Inv B K β Γ w->FR K β fr l->W P c (gl B Q) l w
def GL (P:Program) (m:Nat) (ops:Array Oper) (Q:dU) (rest:List Oper) (fr:List GV) (Γ:List Ob):Prop :=
 ∀ B K β w l,B.m=m->Inv B K β Γ w->FR K β fr l->WL P ops (gl B Q) rest l w
def be (next:List GV->List Ob->Prop) (Q:dU):dU
 | .normal,fr,Γ=>next fr Γ
 | e,fr,Γ=>Q e fr Γ
def bg (id:Nat) (Q:dU):dU
 | .exit C6,fr,Γ=>if C6=id then Q .normal fr Γ else Q (.exit C6) fr Γ
 | e,fr,Γ=>Q e fr Γ
def Wk (m:Nat) (fr:List GV) (Γ:List Ob) (cJ:List GV) (aR:List Ob):Prop :=
 ∀ B K β w l,B.m=m->Inv B K β Γ w->FR K β fr l->∃ K' bT,Inv B K' bT aR w/\FR K' bT cJ l
section
variable {P:Program} {m:Nat} {Q:dU} {fr:List GV} {Γ:List Ob} {ops:Array Oper} {rest:List Oper}
theorem Wk.trans {cJ Of:List GV} {aR FY:List Ob} (h:Wk m fr Γ cJ aR) (k:Wk m cJ aR Of FY):Wk m fr Γ Of FY:=fun B K β w l hm hI hF=>by
 obtain ⟨K',bT,bE,wQ⟩:=h B K β w l hm hI hF;exact k B K' bT w l hm bE wQ
theorem GW.wk {c:Code} {cJ:List GV} {aR:List Ob} (h:Wk m fr Γ cJ aR) (k:GW P m c Q cJ aR):GW P m c Q fr Γ:=fun B K β w l hm hI hF=>by
 obtain ⟨K',bT,bE,wQ⟩:=h B K β w l hm hI hF;exact k B K' bT w l hm bE wQ
theorem GL.wk {cJ:List GV} {aR:List Ob} (h:Wk m fr Γ cJ aR) (k:GL P m ops Q rest cJ aR):GL P m ops Q rest fr Γ:=fun B K β w l hm hI hF=>by
 obtain ⟨K',bT,bE,wQ⟩:=h B K β w l hm hI hF;exact k B K' bT w l hm bE wQ
theorem Wk.cut {n:Nat} (hm:m<=n) (hl:zP n (Γ.take n)=true):Wk m fr Γ (Rc n fr) (Γ.take n):=fun B K β w l hB hI hF =>
 ⟨K,jo (below n) β,hI.cut (by omega) hl,hF.res⟩
inductive uF:List GV->List GV->Prop
 | nil:uF [] []
 | U {f:GV} {fs gs:List GV} (h:uF fs gs):uF (f::fs) (.U::gs)
 | eq {f g:GV} {fs gs:List GV} (he:f=g) (h:uF fs gs):uF (f::fs) (g::gs)
theorem FR.abP {K:Fz} {β:Bt} {l:List Value} {fr cJ:List GV} (h:uF fr cJ) (k:FR K β fr l):FR K β cJ l:=by
 induction h generalizing l with
 | nil=>exact k
 | U h ih=>cases k with | cons k1 k2=>exact .cons (.U _) (ih k2)
 | eq he h ih=>subst he;cases k with | cons k1 k2=>exact .cons k1 (ih k2)
theorem Wk.aH {cJ:List GV} (h:uF fr cJ):Wk m fr Γ cJ Γ:=fun B K β w l _ hI hF=>⟨K,β,hI,hF.abP h⟩
theorem GW.seq {x y:Code} (h:GW P m x (be (GW P m y Q) Q) fr Γ):GW P m (.seq x y) Q fr Γ:=fun B K β w l hm hI hF=>by
 refine W.seq (W.mono (h B K β w l hm hI hF) ?_);rintro e l w ⟨K,β,fr,Γ,hI,hF,hq⟩
 cases e with
 | normal=>exact hq B K β w l hm hI hF
 | _=>exact ⟨K,β,fr,Γ,hI,hF,hq⟩
theorem GW.skip (h:Q .normal fr Γ):GW P m .skip Q fr Γ:=fun B K β w l hm hI hF=>W.skip ⟨K,β,fr,Γ,hI,hF,h⟩
theorem GW.exit {n:Nat} (h:Q (.exit n) fr Γ):GW P m (.exit n) Q fr Γ:=fun B K β w l hm hI hF=>W.exit ⟨K,β,fr,Γ,hI,hF,h⟩
theorem GW.ret (h:Q .ret fr Γ):GW P m .ret Q fr Γ:=fun B K β w l hm hI hF=>W.ret ⟨K,β,fr,Γ,hI,hF,h⟩
theorem GW.block {id:Nat} {c:Code} (h:GW P m c (bg id Q) fr Γ):GW P m (.block id c) Q fr Γ:=fun B K β w l hm hI hF=>by
 refine W.block (W.mono (h B K β w l hm hI hF) ?_);rintro e l w ⟨K,β,fr,Γ,hI,hF,hq⟩
 cases e with
 | exit C6 =>
  simp only [bg] at hq;simp only [XR];split <;> rename_i hh
  ·rw [ab hh] at hq;exact ⟨K,β,fr,Γ,hI,hF,hq⟩
  ·rw [L hh] at hq;exact ⟨K,β,fr,Γ,hI,hF,hq⟩
 | _=>exact ⟨K,β,fr,Γ,hI,hF,hq⟩
theorem Rel.gk {K:Fz} {β:Bt} {x a:Value} (h:Rel K β x (.v a)):x=a:=by cases h;rfl
theorem FR.jF {K:Fz} {β:Bt} {l:List Value} {x:Operand} {a:Value} (h:FR K β fr l) (hx:bb fr x=.v a):Xw.ev l x=a:=Rel.gk (by rw [<-hx];exact h.ev x)
theorem GW.cond {c:Operand} {x y:Code} {t:Bool} (hc:bb fr c=.v (.bool t)) (ht:t=true->GW P m x Q fr Γ) (hf:t=false->GW P m y Q fr Γ):GW P m (.cond c x y) Q fr Γ:=fun B K β w l hm hI hF =>
 W.cond (hF.jF hc) (fun h=>ht h B K β w l hm hI hF) (fun h=>hf h B K β w l hm hI hF)
theorem Nh {c:Operand} {x y:Code} {t:Bool} (hc:bb fr c=.v (.bool t)) (ht:t=true) (h:GW P m x Q fr Γ):GW P m (.cond c x y) Q fr Γ:=GW.cond hc (fun _=>h) (fun I=>by rw [ht] at I;cases I)
theorem Ng {c:Operand} {x y:Code} {t:Bool} (hc:bb fr c=.v (.bool t)) (ht:t=false) (h:GW P m y Q fr Γ):GW P m (.cond c x y) Q fr Γ:=GW.cond hc (fun I=>by rw [ht] at I;cases I) (fun _=>h)
theorem GW.mono {c:Code} {Q':dU} (h:GW P m c Q fr Γ) (hq:∀ e fr Γ,Q e fr Γ->Q' e fr Γ):GW P m c Q' fr Γ:=fun B K β w l hm hI hF =>
 W.mono (h B K β w l hm hI hF) fun e l w ⟨K,β,fr,Γ,hI,hF,q⟩=>⟨K,β,fr,Γ,hI,hF,hq _ _ _ q⟩
def AO (m:Nat) (K:List GV->List Ob->Prop) (fr:List GV) (Γ:List Ob):Prop:=∃ cJ aR,Wk m fr Γ cJ aR/\K cJ aR
theorem GW.loop {c:Code} {α:Type} (μ:α->Nat) (acz:α->List GV->List Ob->Prop) (x:α) (h0:AO m (acz x) fr Γ)
  (round:∀ x fr Γ,acz x fr Γ->GW P m c (be (fun cJ aR=>∃ y,AO m (acz y) cJ aR/\μ y < μ x) Q) fr Γ):GW P m (.loop c) Q fr Γ:=fun B K β w l hm hI hF=>by
 obtain ⟨cJ,aR,hw,h0⟩:=h0;obtain ⟨K',bT,bE,wQ⟩:=hw B K β w l hm hI hF;refine W.loop μ (fun x l w=>∃ K β fr Γ,Inv B K β Γ w/\FR K β fr l/\acz x fr Γ) x ⟨K',bT,cJ,aR,bE,wQ,h0⟩ ?_;rintro x l w ⟨K,β,fr,Γ,hI,hF,hi⟩;refine W.mono (round x fr Γ hi B K β w l hm hI hF) ?_;rintro e l w ⟨K,β,fr,Γ,hI,hF,hq⟩
 cases e with
 | normal =>
  obtain ⟨y,⟨cJ,aR,hw,hy⟩,ak⟩:=hq;obtain ⟨K',bT,bE,wQ⟩:=hw B K β w l hm hI hF;exact ⟨y,⟨K',bT,cJ,aR,bE,wQ,hy⟩,ak⟩
 | _=>exact ⟨K,β,fr,Γ,hI,hF,hq⟩
theorem GW.region {id:Nat} {ol:List Oper} (h:GL P m ol.toArray Q ol fr Γ):GW P m (.region id ol.toArray false) Q fr Γ:=fun B K β w l hm hI hF=>W.region (h B K β w l hm hI hF)
theorem GL.nil (h:Q .normal fr Γ):GL P m ops Q [] fr Γ:=fun B K β w l hm hI hF=>WL.nil ⟨K,β,fr,Γ,hI,hF,h⟩
end
section
variable {next:List GV->List Ob->Prop} {Q:dU} {fr:List GV} {Γ:List Ob} {id C6:Nat}
theorem ba (h:next fr Γ):be next Q .normal fr Γ:=h
theorem GR (h:Q (.exit id) fr Γ):be next Q (.exit id) fr Γ:=h
theorem iO (h:Q .ret fr Γ):be next Q .ret fr Γ:=h
theorem jG (h:Q .normal fr Γ):bg id Q .normal fr Γ:=h
theorem iN (h:Q .ret fr Γ):bg id Q .ret fr Γ:=h
theorem J8 (h:Q .normal fr Γ):bg id Q (.exit id) fr Γ:=by simpa [bg] using h
end
def GC (P:Program) (f:FuncId) (gs:List GV) (Γ:List Ob) (R:GV->List Ob->Prop):Prop :=
 ∀ B K β w vs,B.m=Γ.length->Inv B K β Γ w->bq K β vs gs->p7 P f vs w fun v w'=>∃ K' bT g aR,Inv B K' bT aR w'/\Rel K' bT v g/\R g aR
abbrev GF (P:Program) (f:FuncId) (gs:List GV) (Γ:List Ob) (g:GV) (aR:List Ob):Prop:=GC P f gs Γ fun x Δ=>x=g/\Δ=aR
theorem GC.mono {P:Program} {f:FuncId} {gs:List GV} {Γ:List Ob} {R R':GV->List Ob->Prop} (h:GC P f gs Γ R) (hr:∀ g Γ,R g Γ->R' g Γ):GC P f gs Γ R':=fun B K β w vs hm hI hF =>
 (h B K β w vs hm hI hF).mono fun v w' ⟨K',bT,g,aR,F,I,h3⟩=>⟨K',bT,g,aR,F,I,hr _ _ h3⟩
def GQ:Nat->List GV
 | 0=>[]
 | n+1=>.v undef::GQ n
def ze:List GV->Nat->List GV
 | [],n=>GQ n
 | a::r,n=>a::ze r (n - 1)
theorem FR.Ib {K:Fz} {β:Bt} (n:Nat):FR K β (GQ n) (Ib n):=by
 induction n with
 | zero=>exact .nil
 | succ n ih=>exact .cons (.v _) ih
theorem FR.frame {K:Fz} {β:Bt} {vs:List Value} {gs:List GV} (h:bq K β vs gs) (n:Nat):FR K β (ze gs n) (frame vs n):=by
 induction gs generalizing vs n with
 | nil =>
  have:vs=[]:=iC h.1;subst this;exact FR.Ib n
 | cons g gs ih =>
  cases vs with
  | nil=>have:=h.1;simp at this
  | cons v vs=>obtain ⟨F,I⟩:=h.qo;exact .cons F (ih I _)
def rl (P:Program) (fn:Func) (m:Nat) (R:GV->List Ob->Prop):dU:=fun e fr Γ =>
 (e=.normal\/e=.ret)/\∀ B K β w l,B.m=m->Inv B K β Γ w->FR K β fr l->∃ v K' bT g aR,(results fn l.toArray).run P w=.ok v w/\Inv B K' bT aR w/\Rel K' bT v g/\R g aR
theorem GC.enter {P:Program} {f:FuncId} {fn:Func} {c:Code} {gs:List GV} {Γ:List Ob} {R:GV->List Ob->Prop} {n:Nat} {fr:List GV}
  (hf:P.funcs[f]?=some fn) (hn:fn.ntmps=n) (hb:fn.body=some c) (hl:ze gs n=fr) (h:GW P Γ.length c (rl P fn Γ.length R) fr Γ):GC P f gs Γ R:=fun B K β w vs hm hI hF=>by
 subst hl;refine p7.enter hf hn hb rfl (W.mono (h B K β w _ hm hI (FR.frame hF n)) ?_);rintro e l w ⟨K,β,fr,Γ,hI,hF,he,hq⟩;obtain ⟨v,K',bT,g,aR,F,I,h3,h4⟩:=hq B K β w l hm hI hF
 rcases he with rfl | rfl
 ·exact ⟨v,F,K',bT,g,aR,I,h3,h4⟩
 ·exact ⟨v,F,K',bT,g,aR,I,h3,h4⟩
section
variable {P:Program} {fn:Func} {m:Nat} {R:GV->List Ob->Prop} {fr:List GV} {Γ:List Ob} {e:Exit}
theorem Wv {n:Nat} (hr:fn.results=#[]) (he:e=.normal\/e=.ret) (hm:m<=n) (hl:zP n (Γ.take n)=true) (h:R (.tup []) (Γ.take n)):rl P fn m R e fr Γ :=
 ⟨he,fun B K β w l hB hI hF=>⟨.tuple #[],K,jo (below n) β,.tup [],Γ.take n,by rw [results_none hr],hI.cut (by omega) hl,.tup [] [] rfl (fun i v g h=>by simp at h),h⟩⟩
theorem xP {n:Nat} {t:Tmp} {g:GV} (hr:fn.results=#[.tmp t]) (he:e=.normal\/e=.ret) (hg:cz fr t=g) (hm:m<=n) (hl:zP n (Γ.take n)=true) (ek:g.lt n=true) (h:R g (Γ.take n)):rl P fn m R e fr Γ :=
 ⟨he,fun B K β w l hB hI hF=>⟨nth l t,K,jo (below n) β,g,Γ.take n,by rw [results_tmp hr,ke],hI.cut (by omega) hl,by rw [<-hg] at ek |-;exact (hF.nth t).res ek,h⟩⟩
theorem Ww {n:Nat} {t u:Tmp} {g g':GV} (hr:fn.results=#[.tmp t,.tmp u]) (he:e=.normal\/e=.ret) (hg:cz fr t=g) (mU:cz fr u=g') (hm:m<=n) (hl:zP n (Γ.take n)=true) (ek:(GV.tup [g,g']).lt n=true) (h:R (.tup [g,g']) (Γ.take n)):rl P fn m R e fr Γ :=
 ⟨he,fun B K β w l hB hI hF=>⟨.tuple #[nth l t,nth l u],K,jo (below n) β,.tup [g,g'],Γ.take n,by rw [results_tmp2 hr,ke,ke],hI.cut (by omega) hl,by
  refine Rel.res ?_ ek;subst hg mU;have hc:bq K β [nth l t,nth l u] [cz fr t,cz fr u]:=.cons (hF.nth t) (.cons (hF.nth u) .nil)
  exact .tup [nth l t,nth l u] _ hc.1 hc.2,h⟩⟩
theorem Wx {n:Nat} {t u s:Tmp} {g g' g2:GV} (hr:fn.results=#[.tmp t,.tmp u,.tmp s]) (he:e=.normal\/e=.ret) (hg:cz fr t=g) (mU:cz fr u=g') (fU:cz fr s=g2) (hm:m<=n) (hl:zP n (Γ.take n)=true) (ek:(GV.tup [g,g',g2]).lt n=true)
  (h:R (.tup [g,g',g2]) (Γ.take n)):rl P fn m R e fr Γ :=
 ⟨he,fun B K β w l hB hI hF=>⟨.tuple #[nth l t,nth l u,nth l s],K,jo (below n) β,.tup [g,g',g2],Γ.take n,by
   rw [<-ke l t,<-ke l u,<-ke l s];simp [results,hr],hI.cut (by omega) hl,by
  refine Rel.res ?_ ek;subst hg mU fU;have hc:bq K β [nth l t,nth l u,nth l s] [cz fr t,cz fr u,cz fr s]:=.cons (hF.nth t) (.cons (hF.nth u) (.cons (hF.nth s) .nil))
  exact .tup [nth l t,nth l u,nth l s] _ hc.1 hc.2,h⟩⟩
theorem Wy {n:Nat} {t:Tmp} {T:TypeId} {k:Nat} [hT:Ty P T true k] {i:Nat} {E:TypeId} {cs:List GV} (hr:fn.results=#[.cell t T]) (he:e=.normal\/e=.ret) (hg:cz fr t=.loc i 0) (bM:Γ[i]?=some (.box E cs)) (hk:cs.length=k)
  (hm:m<=n) (hl:zP n (Γ.take n)=true) (ek:(GV.agg cs).lt n=true) (h:R (.agg cs) (Γ.take n)):rl P fn m R e fr Γ :=
 ⟨he,fun B K β w l hB hI hF=>by
  obtain ⟨b,vs,F,I,h3,h4⟩:=hI.ob i _ bM
  have hp:nth l t=.pointer (some ⟨b,0,none⟩):=by
   have:=hF.nth t;rw [hg] at this;generalize nth l t=v at this
   cases this with
   | loc _ _ b' bD=>rw [F] at bD;cases bD;rfl
  have lG:l.toArray.getD t undef=.pointer (some ⟨b,0,none⟩):=by rw [ke,hp]
  have CU:=nj (P:=P) (w:=w) (t:=T) (b:=b) (o:=0) (vs:=vs) (k:=k) (by rw [h3.1,hk]) (fun j v hj=>by
   rw [cI,cell_of_row w b j _ E (0,0) I];simpa using hj)
  have xX:l[t]?.getD undef=.pointer (some ⟨b,0,none⟩):=by simpa using lG
  exact ⟨.agg vs.toArray,K,jo (below n) β,.agg cs,Γ.take n,by simp [results,hr,xX,asAddr,CU],hI.cut (by omega) hl,Rel.res (.agg vs cs h3.1 h3.2) ek,h⟩⟩
end
def YG (P:Program) (op:Op) (fr:List GV) (Γ:List Ob) (g:GV):Prop :=
 ∀ B K β w l,Inv B K β Γ w->FR K β fr l->∃ v,ft P l w op v/\Rel K β v g
section
variable {P:Program} {m:Nat} {Q:dU} {fr:List GV} {Γ:List Ob} {ops:Array Oper} {rest:List Oper} {d:Option Tmp} {op:Op} {ty:TypeId} {pos:String} {af:Array Edge}
theorem GL.q {g:GV} (hy:YG P op fr Γ g) (h:GL P m ops Q rest (bJ fr d g) Γ):GL P m ops Q (⟨d,op,ty,pos,af,none⟩::rest) fr Γ:=fun B K β w l hm hI hF=>by
 obtain ⟨v,hr,hv⟩:=hy B K β w l hI hF;exact WL.v hr (h B K β w _ hm hI (hF.put d hv))
theorem oL {cJ:List GV} {aR:List Ob} (F:fr=cJ) (I:Γ=aR) (h:GL P m ops Q rest cJ aR):GL P m ops Q rest fr Γ:=by subst F;subst I;exact h
theorem GN {cJ:List GV} (F:fr=cJ) (h:GL P m ops Q rest cJ Γ):GL P m ops Q rest fr Γ:=by subst F;exact h
theorem YG.v1 {x:Operand} {a v:Value} (hx:bb fr x=.v a) (h:∀ l w,ev l x=a->ft P l w op v):YG P op fr Γ (.v v):=fun B K β w l hI hF=>⟨v,h l w (hF.jF hx),.v v⟩
theorem YG.v2 {x y:Operand} {a b v:Value} (hx:bb fr x=.v a) (hy:bb fr y=.v b) (h:∀ l w,ev l x=a->ev l y=b->ft P l w op v):YG P op fr Γ (.v v):=fun B K β w l hI hF=>⟨v,h l w (hF.jF hx) (hF.jF hy),.v v⟩
theorem YG.mv {x:Operand}:YG P (.move x) fr Γ (bb fr x):=fun B K β w l hI hF=>⟨_,R.mv,hF.ev x⟩
theorem YG.vr {x:Operand}:YG P (.assign x) fr Γ (bb fr x):=fun B K β w l hI hF=>⟨_,R.vr,hF.ev x⟩
theorem YG.Eh {fn:Fn} {first cap:List Operand}:YG P (.makeFunc fn first.toArray cap.toArray) fr Γ (.fn fn (first.map (bb fr)) (cap.map (bb fr))):=fun B K β w l hI hF =>
 ⟨_,R.Eh,by
  have F:=hF.args first
  have I:=hF.args cap
  simpa using Rel.fn fn _ _ _ _ F.1 I.1 F.2 I.2⟩
def D5:GV->Value
 | .v x=>x
 | _=>.nilFunc
def WB (ρ:Operand->Value) (op:Op):Option Value :=
 match op with
 | .binOp _ _ _ _ _=>go ρ op
 | .unOp _ _ _=>go ρ op
 | _=>none
theorem UW {K:Fz} {β:Bt} {x:Value} {g:GV} (h:Rel K β x g):D5 g=x\/D5 g=.nilFunc:=by
 cases h <;> first | exact .inl rfl | exact .inr rfl
theorem YG.go {v:Value} (h:WB (fun x=>D5 (bb fr x)) op=some v):YG P op fr Γ (.v v):=fun B K β w l hI hF=>by
 refine ⟨v,UU ?_,.v v⟩
 have key:∀ x,D5 (bb fr x)=ev l x\/D5 (bb fr x)=.nilFunc:=fun x=>UW (hF.ev x)
 unfold WB at h;split at h
 ·rename_i o t x y t';simp only [Xw.go] at h |-
  rcases key x with hx | hx <;> rcases key y with hy | hy <;> rw [hx,hy] at h
  ·exact h
  ·cases hv:ev l x <;> rw [hv] at h <;> cases h
  ·cases h
  ·cases h
 ·rename_i o t x;simp only [Xw.go,xQ] at h |-
  rcases key x with hx | hx <;> rw [hx] at h
  ·exact h
  ·cases o <;> simp only at h <;> cases h
 ·cases h
theorem YG.Ud {c a b:Operand} {t:Bool} (hc:bb fr c=.v (.bool t)) (ht:t=true):YG P (.pick c a b) fr Γ (bb fr a):=fun B K β w l hI hF=>⟨_,R.Ud (hF.jF hc) ht,hF.ev a⟩
theorem YG.Uc {c a b:Operand} {t:Bool} (hc:bb fr c=.v (.bool t)) (ht:t=false):YG P (.pick c a b) fr Γ (bb fr b):=fun B K β w l hI hF=>⟨_,R.Uc (hF.jF hc) ht,hF.ev b⟩
theorem YG.abJ {x:Operand} {i o:Nat} (hx:bb fr x=.loc i o):YG P (.nilCheck x) fr Γ (.loc i o):=fun B K β w l hI hF=>by
 have h:=hF.ev x;rw [hx] at h;generalize hv:ev l x=v at h
 cases h with | loc _ _ b hb=>exact ⟨_,R.Mx hv,.loc i o b hb⟩
theorem YG.abI {x:Operand} {cs:List GV} {o:Nat} (hx:bb fr x=.box cs o):YG P (.nilCheck x) fr Γ (.box cs o):=fun B K β w l hI hF=>by
 have h:=hF.ev x;rw [hx] at h;generalize hv:ev l x=v at h
 cases h with | box b o' _ _ hb=>exact ⟨_,R.Mx hv,.box b o' o cs hb⟩
theorem YG.R3 {x:Operand} {t:TypeId} [hT:rb P t] {s:ae} (hx:bb fr x=.v (sv s)):YG P (.call ⟨.builtin .len,#[x],#[t]⟩) fr Γ (.v (ii s.length)):=YG.v1 hx fun l w h=>R.R3 h
theorem YG.ZE {x:Operand} {t e:TypeId} {k:Nat} [hT:oB P t e k] {k':Nat} {rows:List (List GV)} (hx:bb fr x=.sl k' rows):YG P (.call ⟨.builtin .len,#[x],#[t]⟩) fr Γ (.v (ii rows.length)):=fun B K β w l hI hF=>by
 have h:=hF.ev x;rw [hx] at h;generalize hv:ev l x=v at h
 cases h with
 | sl0 a c=>exact ⟨_,R.Mp hv,.v _⟩
 | sl b o c _ _ h _=>exact ⟨_,R.Mp hv,.v _⟩
theorem YG.abF {x:Operand} {t e:TypeId} {k:Nat} [hT:oB P t e k] {i n:Nat} (hx:bb fr x=.vec i n):YG P (.call ⟨.builtin .len,#[x],#[t]⟩) fr Γ (.v (ii n)):=fun B K β w l hI hF=>by
 have h:=hF.ev x;rw [hx] at h;generalize hv:ev l x=v at h
 cases h with | vec _ _ a c h=>exact ⟨_,R.Mp hv,.v _⟩
theorem YG.abE {x:Operand} {t e:TypeId} {k:Nat} [hT:oB P t e k] {a:Option Addr} {n c:Nat} (hx:bb fr x=.v (.slice a n c)):YG P (.call ⟨.builtin .len,#[x],#[t]⟩) fr Γ (.v (ii n)):=YG.v1 hx fun l w h=>R.Mp h
theorem YG.CE {x y:Operand} {t t':TypeId} {a b:ae} (hx:bb fr x=.v (sv a)) (hy:bb fr y=.v (sv b)):YG P (.binOp .eql t x y t') fr Γ (.v (.bool (a==b))):=YG.v2 hx hy fun l w h k=>R.CE h k
theorem YG.Dk {x y:Operand} {t t':TypeId} {a b:ae} (hx:bb fr x=.v (sv a)) (hy:bb fr y=.v (sv b)):YG P (.binOp .neq t x y t') fr Γ (.v (.bool (!(a==b)))):=YG.v2 hx hy fun l w h k=>R.Dk h k
theorem YG.sx {x y:Operand} {t:TypeId} [hT:rb P t] {s:ae} {k:IntKind} {i:Nat} {c:UInt8} (hx:bb fr x=.v (sv s)) (hy:bb fr y=.v (.int k i)) (hc:s[i]?=some c):YG P (.index t x y) fr Γ (.v (.int .u8 c.toNat)):=YG.v2 hx hy fun l w h k=>R.sx h k hc
theorem YG.add {x y:Operand} {t t':TypeId} {a b:Int} (hx:bb fr x=.v (ii a)) (hy:bb fr y=.v (ii b)) (hb : -9223372036854775808<=a+b/\a+b<=9223372036854775807):YG P (.binOp .add t x y t') fr Γ (.v (ii (a+b))):=YG.v2 hx hy fun l w h k=>R.add h k hb.1 hb.2
theorem YG.xE {x y:Operand} {t t':TypeId} {a b:Nat} (hx:bb fr x=.v (ii a)) (hy:bb fr y=.v (ii b)) (hb:a+b<=9223372036854775807):YG P (.binOp .add t x y t') fr Γ (.v (ii ((a+b:Nat):Int))):=YG.v2 hx hy fun l w h k=>R.xE h k hb
theorem YG.vZ {x y:Operand} {t t':TypeId} {a:Nat} (hx:bb fr x=.v (ii a)) (hy:bb fr y=.v (ii 1)) (hb:a+1<=9223372036854775807):YG P (.binOp .add t x y t') fr Γ (.v (ii ((a+1:Nat):Int))):=YG.v2 hx hy fun l w h k=>R.vZ h k hb
theorem YG.sub {x y:Operand} {t t':TypeId} {a b:Int} (hx:bb fr x=.v (ii a)) (hy:bb fr y=.v (ii b)) (hb : -9223372036854775808<=a - b/\a - b<=9223372036854775807):YG P (.binOp .sub t x y t') fr Γ (.v (ii (a - b))):=YG.v2 hx hy fun l w h k=>R.sub h k hb.1 hb.2
theorem YG.mul {x y:Operand} {t t':TypeId} {a b:Int} (hx:bb fr x=.v (ii a)) (hy:bb fr y=.v (ii b)) (hb : -9223372036854775808<=a * b/\a * b<=9223372036854775807):YG P (.binOp .mul t x y t') fr Γ (.v (ii (a * b))):=YG.v2 hx hy fun l w h k=>R.mul h k hb.1 hb.2
theorem YG.cat {x y:Operand} {t t':TypeId} {a b:ae} (hx:bb fr x=.v (sv a)) (hy:bb fr y=.v (sv b)) (hb:a.length+b.length<=9223372036854775807):YG P (.binOp .add t x y t') fr Γ (.v (sv (a++b))):=YG.v2 hx hy fun l w h k=>R.cat h k hb
theorem YG.Cr {x:Operand} {t:TypeId} [hT:rb P t] {s:ae} {lo hi:Operand} {k k':IntKind} {i j:Nat} (hx:bb fr x=.v (sv s)) (iP:bb fr lo=.v (.int k i)) (n7:bb fr hi=.v (.int k' j)) (hb:i<=j/\j<=s.length):YG P (.slice t x (some lo) (some hi) none) fr Γ (.v (sv ((s.take j).drop i))) :=
 fun B K β w l hI hF=>⟨_,R.SE (hF.jF hx) ⟨k,hF.jF iP⟩ ⟨k',hF.jF n7⟩ hb.1 hb.2,.v _⟩
theorem YG.Co {x:Operand} {t:TypeId} [hT:rb P t] {s:ae} {lo:Operand} {k:IntKind} {i:Nat} (hx:bb fr x=.v (sv s)) (iP:bb fr lo=.v (.int k i)) (hb:i<=s.length):YG P (.slice t x (some lo) none none) fr Γ (.v (sv (s.drop i))) :=
 fun B K β w l hI hF=>⟨_,by
  have:=R.SE (P:=P) (w:=w) (l:=l) (t:=t) (lo:=some lo) (hi:=none) (i:=i) (j:=s.length) (hF.jF hx) ⟨k,hF.jF iP⟩ rfl hb (aE _);rw [bW] at this
  exact this,.v _⟩
theorem YG.Cn {x:Operand} {t:TypeId} [hT:rb P t] {s:ae} {hi:Operand} {k:IntKind} {j:Nat} (hx:bb fr x=.v (sv s)) (n7:bb fr hi=.v (.int k j)) (hb:j<=s.length):YG P (.slice t x none (some hi) none) fr Γ (.v (sv (s.take j))) :=
 fun B K β w l hI hF=>⟨_,R.SE (P:=P) (w:=w) (l:=l) (t:=t) (lo:=none) (hi:=some hi) (i:=0) (j:=j) (hF.jF hx) rfl ⟨k,hF.jF n7⟩ (aM _) hb,.v _⟩
theorem YG.ext {x:Operand} {i:Nat} {cs:List GV} {g:GV} (hx:bb fr x=.tup cs) (hg:cs[i]?=some g):YG P (.extract x i) fr Γ g:=fun B K β w l hI hF=>by
 have h:=hF.ev x;rw [hx] at h;generalize hv:ev l x=v at h
 cases h with
 | tup vs _ hl h =>
  have hi:i < vs.length:=by rw [hl];exact (bo hg).1
  exact ⟨vs[i],R.extract hv (by simp [hi]),h i _ g (by simp [hi]) hg⟩
theorem YG.ue {x y:Operand} {t e:TypeId} {k:Nat} [hT:oB P t e k] {rows:List (List GV)} {kk:IntKind} {i:Nat} {r:List GV} (hx:bb fr x=.sl k rows) (hy:bb fr y=.v (.int kk i)) (hr:rows[i]?=some r):YG P (.indexAddr t x y) fr Γ (.box r 0):=fun B K β w l hI hF=>by
 have h:=hF.ev x;rw [hx] at h;have hi:=(bo hr).1;generalize hv:ev l x=v at h
 cases h with
 | sl0 a c=>simp at hi
 | sl b o c _ _ h _=>exact ⟨_,R.wh hv (hF.jF hy) hi,.box b (o+i * k) 0 r (h i r hr).2⟩
theorem YG.Wo {x:Operand} {s:TypeId} {f off k:Nat} {agg:Bool} [hT:ej P s f off k agg] {i o:Nat} (hx:bb fr x=.loc i o):YG P (.fieldAddr s x f) fr Γ (.loc i (o+off)):=fun B K β w l hI hF=>by
 have h:=hF.ev x;rw [hx] at h;generalize hv:ev l x=v at h
 cases h with | loc _ _ b hb=>exact ⟨_,R.Ri hv,.loc i _ b hb⟩
theorem YG.Wm {x:Operand} {s:TypeId} {f off k:Nat} {agg:Bool} [hT:ej P s f off k agg] {cs:List GV} {o:Nat} (hx:bb fr x=.box cs o):YG P (.fieldAddr s x f) fr Γ (.box cs (o+off)):=fun B K β w l hI hF=>by
 have h:=hF.ev x;rw [hx] at h;generalize hv:ev l x=v at h
 cases h with | box b o' _ _ hb=>exact ⟨_,R.Ri hv,by rw [gn];exact .box b o' _ cs hb⟩
theorem YG.w9 {x:Operand} {t:TypeId} [hT:Ty P t false 1] {i o:Nat} {E:TypeId} {cs:List GV} {g:GV} (hx:bb fr x=.loc i o) (bM:Γ[i]?=some (.box E cs)) (hg:cs[o]?=some g):YG P (.load t x) fr Γ g:=fun B K β w l hI hF=>by
 have h:=hF.ev x;rw [hx] at h;generalize hv:ev l x=v at h
 cases h with
 | loc _ _ b hb =>
  obtain ⟨b',vs,F,I,h3,h4⟩:=hI.ob i _ bM;rw [hb] at F;cases F;obtain ⟨u,hu,hr⟩:=h3.at hg;exact ⟨u,R.ld hv (xH I (by simpa using hu)),hr⟩
theorem YG.ldB {x:Operand} {t:TypeId} [hT:Ty P t false 1] {cs:List GV} {o:Nat} {g:GV} (hx:bb fr x=.box cs o) (hg:cs[o]?=some g):YG P (.load t x) fr Γ g:=fun B K β w l hI hF=>by
 have h:=hF.ev x;rw [hx] at h;generalize hv:ev l x=v at h
 cases h with
 | box b o' _ _ hb =>
  obtain ⟨hp,u,hu,hr⟩:=hI.fz _ _ _ (hb o g hg);exact ⟨u,R.ld hv hu,hr.pc hp⟩
theorem vc {k:Nat} {rows:List (List GV)} (hk:iw k rows) {i j:Nat} {r:List GV} {g:GV} (hr:rows[i]?=some r) (hg:r[j]?=some g):rows.flatten[i * k+j]?=some g:=by
 induction rows generalizing i with
 | nil=>simp at hr
 | cons a rows ih =>
  have ha:a.length=k:=(hk a (mem_cons_self)).1
  cases i with
  | zero =>
   cases hr;have hj:=(bo hg).1;rw [Nat.zero_mul,cI,flatten_cons,fO hj];exact hg
  | succ i =>
   rw [flatten_cons,fa (by rw [ha,Nat.succ_mul];omega),ha];rw [show (i+1) * k+j - k=i * k+j by rw [Nat.succ_mul];omega];exact ih (fun r hr=>hk r (dw _ hr)) (by simpa using hr)
theorem YG.B3 {x:Operand} {t:TypeId} {k:Nat} [hT:Ty P t true k] {i o:Nat} {E:TypeId} {cs gs:List GV} (hx:bb fr x=.loc i o) (bM:Γ[i]?=some (.box E cs)) (hg:(cs.drop o).take k=gs) (hk:gs.length=k):YG P (.load t x) fr Γ (.agg gs):=fun B K β w l hI hF=>by
 have h:=hF.ev x;rw [hx] at h;generalize hv:ev l x=v at h
 cases h with
 | loc _ _ b hb =>
  obtain ⟨b',vs,F,I,h3,h4⟩:=hI.ob i _ bM;rw [hb] at F;cases F;have h5:=(h3.drop o).take k;rw [hg] at h5;refine ⟨.agg ((vs.drop o).take k).toArray,R.X6 hv (by rw [h5.1,hk]) (fun j v hj=>?_),.agg _ _ h5.1 h5.2⟩;rw [getElem?_take] at hj;split at hj
  ·rw [getElem?_drop] at hj;exact xH I (by simpa using hj)
  ·cases hj
theorem xJ {K:Fz} {β:Bt} {H:Array Obj} {b:Nat}:∀ (gs:List GV) (o:Nat),(∀ (j:Nat) g,gs[j]?=some g->∃ v,ia H b (o+j)=some v/\Rel K β v g)->∃ vs:List Value,bq K β vs gs/\∀ (j:Nat) v,vs[j]?=some v->ia H b (o+j)=some v
 | [],o,_=>⟨[],.nil,fun j v h=>by simp at h⟩
 | g::gs,o,h=>by
  obtain ⟨v,hv,hr⟩:=h 0 g rfl;obtain ⟨vs,F,I⟩:=xJ gs (o+1) (fun j g' hg=>by rw [show o+1+j=o+(j+1) by omega];exact h (j+1) g' hg);refine ⟨v::vs,.cons hr F,fun j u hj=>?_⟩
  cases j with
  | zero=>cases hj;exact hv
  | succ j=>rw [show o+(j+1)=o+1+j by omega];exact I j u hj
theorem YG.XZ {x:Operand} {t:TypeId} {k:Nat} [hT:Ty P t true k] {cs gs:List GV} {o:Nat} (hx:bb fr x=.box cs o) (hg:(cs.drop o).take k=gs) (hk:gs.length=k):YG P (.load t x) fr Γ (.agg gs):=fun B K β w l hI hF=>by
 have h:=hF.ev x;rw [hx] at h;generalize hv:ev l x=v at h
 cases h with
 | box b o' _ _ hb =>
  obtain ⟨vs,F,I⟩:=xJ (K:=K) (β:=β) (H:=w.heap) (b:=b) gs (o'+o) (fun j g hj=>by
   have nD:cs[o+j]?=some g:=by
    rw [<-hg,getElem?_take] at hj;split at hj
    ·rw [getElem?_drop] at hj;exact hj
    ·cases hj
   obtain ⟨hp,u,hu,hr⟩:=hI.fz _ _ _ (hb (o+j) g nD)
   exact ⟨u,by rw [gn];exact hu,hr.pc hp⟩)
  exact ⟨.agg vs.toArray,R.X6 hv (by rw [F.1,hk]) I,.agg _ _ F.1 F.2⟩
def lY:GV->Option (List GV)
 | .v x=>match MA x with
  | true=>some [.v x]
  | false=>none
 | .agg cs=>some cs
 | .U=>none
 | .tup _=>none
 | .vp _ _ _ _ _=>none
 | .sl k rows=>some [.sl k rows]
 | .box cs o=>some [.box cs o]
 | .loc i o=>some [.loc i o]
 | .vec i n=>some [.vec i n]
 | .arr i o n=>some [.arr i o n]
 | .fn f a c=>some [.fn f a c]
def oD:List GV->Nat->List GV->List GV
 | cs,_,[]=>cs
 | cs,o,v::r=>oD (bp cs o v) (o+1) r
def Am (pl:Nat->Option (Nat × Nat)):List GV->List (Nat × GV)->Option (List GV)
 | cs,[]=>some cs
 | cs,(i,g)::r=>match pl i with
  | none=>none
  | some (o,k)=>match lY g with
   | none=>none
   | some gs=>if gs.length≠k || decide (o+gs.length > cs.length) then none else Am pl (oD cs o gs) r
theorem Rel.cells {K:Fz} {β:Bt} {x:Value} {g:GV} {gs:List GV} (h:Rel K β x g) (hg:lY g=some gs):∃ vs:List Value,x.cells=vs.toArray/\bq K β vs gs:=by
 have one:∀ {x:Value} {g:GV},Rel K β x g->x.cells=#[x]->∃ vs:List Value,x.cells=vs.toArray/\bq K β vs [g]:=fun hr hc=>⟨[_],hc,.cons hr .nil⟩
 cases h with
 | v x =>
  simp only [lY] at hg;split at hg
  ·rename_i ho;cases hg;exact one (.v _) (yo ho).1
  ·cases hg
 | U x=>cases hg
 | agg vs cs hl h=>cases hg;exact ⟨vs,rfl,hl,h⟩
 | tup vs cs hl h=>cases hg
 | sl0 a c k=>cases hg;exact one (.sl0 a c k) rfl
 | sl b o c k rows h hc=>cases hg;exact one (.sl b o c k rows h hc) rfl
 | box b o' o cs h=>cases hg;exact one (.box b o' o cs h) rfl
 | loc i o b h=>cases hg;exact one (.loc i o b h) rfl
 | vec i n a c h=>cases hg;exact one (.vec i n a c h) rfl
 | vp i n k idx off x h=>cases hg
 | arr i o n b c h=>cases hg;exact one (.arr i o n b c h) rfl
 | fn f xs ys first cap hl kL h h'=>cases hg;exact one (.fn f xs ys first cap hl kL h h') rfl
def mO:List GV->Bool
 | []=>true
 | g::gs=>g.one&&mO gs
def qm:List GV->Bool
 | []=>true
 | g::gs=>g.pc&&qm gs
theorem nf {gs:List GV} (h:qm gs=true):∀ g∈gs,g.pc=true:=by
 induction gs with
 | nil=>intro g hg;cases hg
 | cons x gs ih =>
  simp only [qm,aC] at h;intro g hg
  rcases de hg with rfl | hg
  ·exact h.1
  ·exact ih h.2 g hg
theorem bq.nb {K:Fz} {β:Bt} {vs:List Value} {gs:List GV} (h:bq K β vs gs) (ho:mO gs=true):nb vs=true:=by
 induction gs generalizing vs with
 | nil=>have:vs=[]:=iC h.1;subst this;rfl
 | cons g gs ih =>
  cases vs with
  | nil=>have:=h.1;simp at this
  | cons v vs =>
   simp only [mO,aC] at ho;obtain ⟨F,I⟩:=h.qo;have h3:=(yo (F.one ho.1)).2;have h4:=ih I ho.2;simp only [Xw.nb,all_cons,aC] at h4 |-;exact ⟨h3,h4⟩
end
theorem bq.jq {K:Fz} {β:Bt} {us:List Value} {hs:List GV} (k:bq K β us hs):∀ {vs:List Value} {gs:List GV} (o:Nat),bq K β vs gs->bq K β (jq vs o us) (oD gs o hs):=by
 have hu:∀ {vs:List Value} {gs:List GV} (o:Nat) {v:Value} {g:GV},Rel K β v g->bq K β vs gs->bq K β (fV vs o v) (bp gs o g):=by
  intro vs
  induction vs with
  | nil =>
   intro gs o v g hv h;have:gs=[]:=iC h.1.symm;subst this;exact .nil
  | cons x vs ih =>
   intro gs o v g hv h
   cases gs with
   | nil=>have:=h.1;simp at this
   | cons y gs =>
    obtain ⟨F,I⟩:=h.qo
    cases o with
    | zero=>exact .cons hv I
    | succ o=>exact .cons F (ih o hv I)
 induction us generalizing hs with
 | nil =>
  intro vs gs o h;have:hs=[]:=iC k.1.symm;subst this;exact h
 | cons u us ih =>
  intro vs gs o h
  cases hs with
  | nil=>have:=k.1;simp at this
  | cons g hs =>
   obtain ⟨F,I⟩:=k.qo;exact ih I (o+1) (hu o F h)
theorem xO {K:Fz} {β:Bt} {pl:Nat->Option (Nat × Nat)} {l:List Value} {fr:List GV} (hF:FR K β fr l):∀ (parts:List (Nat × Operand)) (vs:List Value) (gs cs:List GV),bq K β vs gs ->
  Am pl gs (parts.map fun x=>(x.1,bb fr x.2))=some cs->∃ us,rj pl vs (parts.map fun x=>(x.1,ev l x.2))=some us/\bq K β us cs
 | [],vs,gs,cs,h,hf=>by cases hf;exact ⟨vs,rfl,h⟩
 | (i,x)::r,vs,gs,cs,h,hf=>by
  simp only [List.map_cons,Am] at hf;simp only [List.map_cons,rj]
  cases hp:pl i with
  | none=>rw [hp] at hf;cases hf
  | some y =>
   obtain ⟨o,k⟩:=y;rw [hp] at hf;simp only at hf |-
   cases hg:lY (bb fr x) with
   | none=>rw [hg] at hf;cases hf
   | some hs =>
    rw [hg] at hf;simp only at hf;obtain ⟨us,lH,me⟩:=(hF.ev x).cells hg
    have dr:(ev l x).cells.size=hs.length:=by rw [lH];simpa using me.1
    rw [dr,h.1];split at hf
    ·cases hf
    ·rename_i hc;rw [L hc]
     have kW:(ev l x).cells.toList=us:=by rw [lH]
     rw [kW];exact xO hF r _ _ cs (me.jq o h) hf
section
variable {P:Program} {m:Nat} {Q:dU} {fr:List GV} {Γ:List Ob} {ops:Array Oper} {rest:List Oper} {d:Option Tmp} {op:Op} {ty:TypeId} {pos:String} {af:Array Edge}
def jW (z:List Value):List GV:=z.map .v
theorem YG.build {t:TypeId} {pl:List (Nat × Nat)} {z:List Value} [hT:vm P t pl z] {parts:List (Nat × Operand)} {cs:List GV} (hf:Am (fun i=>pl[i]?) (jW z) (parts.map fun x=>(x.1,bb fr x.2))=some cs) :
  YG P (.build t parts.toArray) fr Γ (.agg cs):=fun B K β w l hI hF=>by
 obtain ⟨us,F,I⟩:=xO hF parts z _ cs bq.self hf;exact ⟨_,R.build F,.agg us cs I.1 I.2⟩
theorem n9 {K:Fz} {β:Bt} {l:List Value} {t:Nat} (h:FR K β fr l) (ht:jj fr t=true):jj l t=true:=by
 induction h generalizing t with
 | nil=>cases ht
 | cons _ _ ih=>cases t with | zero=>rfl | succ t=>exact ih ht
theorem uv {l:List Value} {t:Nat} (h:jj l t=true) (u:Value):nth (fV l t u) t=u:=by
 induction l generalizing t with
 | nil=>cases h
 | cons x l ih=>cases t with | zero=>rfl | succ t=>exact ih h
theorem pG {l:List Value} {t t':Nat} (h:t'≠t) (u:Value):nth (fV l t u) t'=nth l t':=by
 induction l generalizing t t' with
 | nil=>rfl
 | cons x l ih=>cases t with
  | zero=>cases t' with | zero=>exact absurd rfl h | succ t'=>rfl
  | succ t=>cases t' with | zero=>rfl | succ t'=>exact ih (fun e=>h (by rw [e]))
theorem GL.alloc {t:TypeId} {z:Value} {cs:List GV} [hT:rU P t z] (hz:jW z.cells.toList=cs) (h:GL P m ops Q rest (bJ fr d (.loc Γ.length 0)) (Γ++[.box t cs])):GL P m ops Q (⟨d,.alloc t,ty,pos,af,none⟩::rest) fr Γ:=fun B K β w l hm hI hF=>by
 refine WL.alloc (z:=z) fun b w' hn=>?_
 have bE:=hI.add (vs:=z.cells.toList) (cs:=cs) (E:=t) (by simpa using hn) (by rw [<-hz];exact bq.self);exact h B K _ w' _ hm bE ((hF.mono (dh.refl K) (jM (by rw [hI.out _ (aE _)];trivial))).put d (.loc _ 0 b bO))
theorem GL.box {t:TypeId} {x:Operand} {cs:List GV} (hx:lY (bb fr x)=some cs) (h:GL P m ops Q rest (bJ fr d (.loc Γ.length 0)) (Γ++[.box t cs])):GL P m ops Q (⟨d,.box t x,ty,pos,af,none⟩::rest) fr Γ:=fun B K β w l hm hI hF=>by
 obtain ⟨vs,F,I⟩:=(hF.ev x).cells hx
 refine WL.box rfl fun b w' hn=>?_
 rw [F] at hn;have bE:=hI.add hn I;exact h B K _ w' _ hm bE ((hF.mono (dh.refl K) (jM (by rw [hI.out _ (aE _)];trivial))).put d (.loc _ 0 b bO))
def oset:List Ob->Nat->Ob->List Ob
 | [],_,_=>[]
 | _::l,0,x=>x::l
 | y::l,n+1,x=>y::oset l n x
theorem aZ (l:List Ob) (i:Nat) (x:Ob):oset l i x=l.set i x:=by
 induction l generalizing i with
 | nil=>rfl
 | cons y l ih=>cases i with | zero=>rfl | succ i=>simp [oset,ih]
theorem vS:∀ (us:List Value) (vs:List Value) (o:Nat),wu vs.toArray o us=(jq vs o us).toArray
 | [],vs,o=>rfl
 | u::us,vs,o=>by rw [wu,jq,zZ];exact vS us _ _
theorem GL.st {x y:Operand} {t:TypeId} {agg:Bool} {k:Nat} [hT:Ty P t agg k] {i o:Nat} {E:TypeId} {cs gs:List GV} (hx:bb fr x=.loc i o) (bM:Γ[i]?=some (.box E cs)) (hy:lY (bb fr y)=some gs) (hk:gs.length=k) (F:mO gs=true)
  (hl:Nat.ble (o+k) cs.length=true) (h:GL P m ops Q rest (bJ fr d (.v undef)) (oset Γ i (.box E (oD cs o gs)))):GL P m ops Q (⟨d,.store t x y,ty,pos,af,none⟩::rest) fr Γ:=fun B K β w l hm hI hF=>by
 have hr:=hF.ev x;rw [hx] at hr;generalize hv:ev l x=v at hr
 cases hr with
 | loc _ _ b hb =>
  obtain ⟨b',vs,I,h3,h4,h5⟩:=hI.ob i _ bM;rw [hb] at I;cases I;obtain ⟨us,lH,me⟩:=(hF.ev y).cells hy
  have kL:o+k<=cs.length:=by simpa using hl
  refine WL.st (t:=t) hv rfl h3 (by rw [lH];simpa [hk] using me.1) (by rw [size_toArray,h4.1];exact kL) (by rw [lH];simpa using me.nb F) fun w' hs=>?_
  rw [lH,List.toList_toArray,vS] at hs;have bE:=hI.store bM hb hs (me.jq o h4);rw [<-aZ] at bE;exact h B K β w' _ hm bE (hF.put d (.v _))
def chunk:Nat->Nat->List GV->List (List GV)
 | 0,_,_=>[]
 | n+1,k,gs=>gs.take k::chunk n k (gs.drop k)
theorem xK {k:Nat}:∀ (n:Nat) (gs:List GV),gs.length=n * k->(chunk n k gs).flatten=gs/\(chunk n k gs).length=n/\∀ r∈chunk n k gs,r.length=k/\∀ g∈r,g∈gs
 | 0,gs,h=>by
  have:gs=[]:=iC (by simpa using h);subst this;exact ⟨rfl,rfl,fun r hr=>by cases hr⟩
 | n+1,gs,h=>by
  have hk:k<=gs.length:=by rw [h,Nat.succ_mul];omega
  obtain ⟨F,I,h3⟩:=xK (k:=k) n (gs.drop k) (by rw [jv,h,Nat.succ_mul];omega);refine ⟨by rw [chunk,flatten_cons,F,List.take_append_drop],by rw [chunk,length_cons,I],fun r hr=>?_⟩;rw [chunk] at hr
  rcases de hr with rfl | hr
  ·exact ⟨by simp [hk],fun g hg=>List.mem_of_mem_take hg⟩
  ·obtain ⟨h4,h5⟩:=h3 r hr;exact ⟨h4,fun g hg=>List.mem_of_mem_drop (h5 g hg)⟩
def zs:Nat->List Value->List GV
 | 0,_=>[]
 | n+1,z=>jW z++zs n z
theorem IY {K:Fz} {β:Bt} {n k:Nat} {z:List Value} (hz:z.length=k) (hk:0 < k):bq K β ((List.range (n * k)).map fun j=>z.getD (j % k) undef) (zs n z):=by
 induction n with
 | zero=>simpa [zs] using bq.nil
 | succ n ih =>
  have he:(List.range ((n+1) * k)).map (fun j=>z.getD (j % k) undef)=(List.range k).map (fun j=>z.getD (j % k) undef)++(List.range (n * k)).map fun j=>z.getD (j % k) undef:=by
   rw [Nat.succ_mul,Nat.add_comm,List.range_add,gU,List.map_map]
   congr 1
   apply List.map_congr_left;intro j _;simp
  rw [he,zs];refine bq.app ?_ ih
  have:(List.range k).map (fun j=>z.getD (j % k) undef)=z:=by
   apply List.ext_getElem
   ·simp [hz]
   ·intro j F I;simp at F;simp [Nat.mod_eq_of_lt F,dO I]
  rw [this];exact bq.self
theorem GL.mkF {t e:TypeId} {k:Nat} {z:List Value} [hT:q9 P t e k z] {n:Nat} {parts:List (Nat × Operand)} {cs:List GV} (hn:Nat.ble (n * k) 16777216=true) (hf:Am (fun i=>some (i * k,k)) (zs n z) (parts.map fun x=>(x.1,bb fr x.2))=some cs)
  (hl:Nat.beq cs.length (n * k)=true) (hp:qm cs=true) (h:GL P m ops Q rest (bJ fr d (.sl k (chunk n k cs))) Γ):GL P m ops Q (⟨d,.buildSlice t n parts.toArray,ty,pos,af,none⟩::rest) fr Γ:=fun B K β w l hm hI hF=>by
 obtain ⟨us,F,I⟩:=xO hF parts _ _ cs (IY (n:=n) hT.zl hT.pos) hf
 have kL:cs.length=n * k:=by simpa using hl
 refine WL.Ei (by simpa using hn) F fun b w' tW=>?_
 obtain ⟨hle,bE⟩:=hI.vy tW I (nf hp);obtain ⟨c1,c2,c3⟩:=xK n cs kL;refine h B _ β w' _ hm bE ((hF.mono hle (dX.refl β)).put d ?_)
 have mJ:iw k (chunk n k cs):=fun r hr=>⟨(c3 r hr).1,fun g hg=>nf hp g ((c3 r hr).2 g hg)⟩
 have:=Rel.sl (K:=mn K b cs) (β:=β) b 0 n k (chunk n k cs) (fun i r hr=>⟨(mJ r (bA hr)).1,fun j g hg=>by
  rw [cI];exact wB (by have:=vc mJ hr hg;rw [c1] at this;exact this)⟩) (by rw [c2];exact aE _)
 rw [c2] at this;exact this
theorem GL.mkV {t e:TypeId} {k:Nat} {z:List Value} [hT:q9 P t e k z] {n:Nat} {parts:List (Nat × Operand)} {cs:List GV} (hn:Nat.ble (n * k) 16777216=true) (hf:Am (fun i=>some (i * k,k)) (zs n z) (parts.map fun x=>(x.1,bb fr x.2))=some cs)
  (hl:Nat.beq cs.length (n * k)=true) (hp:qm cs=true) (h:GL P m ops Q rest (bJ fr d (.vec Γ.length n)) (Γ++[.vec e k 0 (chunk n k cs)])):GL P m ops Q (⟨d,.buildSlice t n parts.toArray,ty,pos,af,none⟩::rest) fr Γ:=fun B K β w l hm hI hF=>by
 obtain ⟨us,F,I⟩:=xO hF parts _ _ cs (IY (n:=n) hT.zl hT.pos) hf
 have kL:cs.length=n * k:=by simpa using hl
 have CV:n * k<=16777216:=by simpa using hn
 have b9:n<=16777216:=kA (Nat.le_mul_of_pos_right n hT.pos) CV
 refine WL.Ei CV F fun b w' tW=>?_
 obtain ⟨c1,c2,c3⟩:=xK n cs kL
 have mJ:iw k (chunk n k cs):=fun r hr=>⟨(c3 r hr).1,fun g hg=>nf hp g ((c3 r hr).2 g hg)⟩
 have how:=jz.Yj tW (n:=n) (k:=k) (by rw [I.1,kL]) (by simp only [maxLen];omega);have bE:=hI.Gr (x:=.slice (some ⟨b,0,none⟩) n n) (xs:=us) (rows:=chunk n k cs) tW.ext (by rw [c2];exact how.base (aM _)) (fun b' bD=>by cases bD;rw [tW.fresh];exact aE _) (by rw [c1];exact I) mJ;refine h B K _ w' _ hm bE ((hF.mono (dh.refl K) (jM (by rw [hI.out _ (aE _)];trivial))).put d ?_);exact .vec _ n _ n ⟨_,_,bO,by rw [c2];exact aE _,fun _=>rfl⟩
def St (x:Operand) (t:Tmp):Bool :=
 match x with
 | .tmp t'=>!Nat.beq t' t
 | _=>true
theorem Wg {l:List Value} {x:Operand} {t:Tmp} (h:St x t=true) (u:Value):ev (put l (some t) u) x=ev l x:=by
 cases x with
 | tmp t'=>exact pG (fun e=>by subst e;simp [St] at h) u
 | _=>rfl
theorem GL.push {x s:Operand} {t e k iM:Nat} {z:List Value} [hT:pN P t e k iM] [hZ:q9 P t e k z] {d1:Tmp} {Qt:TypeId} {H8:String} {Ns:Array Edge} {i n fz:Nat} {rows:List (List GV)} {gs:List GV}
  (hx:lY (bb fr x)=some gs) (hk:Nat.beq gs.length k=true) (F:mO gs=true) (hp:qm gs=true) (hs:bb fr s=.vec i n) (XG:St s d1=true) (hd:jj fr d1=true) (bM:Γ[i]?=some (.vec e k fz rows)) (hn:rows.length=n)
  (hb:(n+1<=9223372036854775807/\(n+1) * iM<=140737488355328)/\k<=16777216)
  (h:GL P m ops Q rest (bJ (bJ fr (some d1) U) d (.vec i (n+1))) (oset Γ i (.vec e k fz (rows++[gs])))) :
  GL P m ops Q (⟨some d1,.buildSlice t 1 #[(0,x)],Qt,H8,Ns,none⟩::⟨d,.call ⟨.builtin .append,#[s,.tmp d1],#[t,t]⟩,ty,pos,af,none⟩::rest) fr Γ:=fun B K β w l hm hI hF=>by
 subst hn;obtain ⟨us,lH,me⟩:=(hF.ev x).cells hx;obtain ⟨h0,xs,o1,o2,o3,o4,o5,o6⟩:=hI.ob i _ bM;have uX:=hF.ev s;rw [hs] at uX
 have sc:ev l s=h0:=by
  generalize hv:ev l s=v at uX
  cases uX with
  | vec _ _ a c hh =>
   obtain ⟨h',m',e1,e2,e3⟩:=hh;rw [o1] at e1;cases e1;exact e3 rfl
 have OK:=n9 hF hd
 have mW:gs.length=k:=by simpa using hk
 refine WL.push (base:=0) (v:=h0) (vs:=us) (val:=ev l x) (xs:=xs) (n:=rows.length) rfl (fun u=>by rw [Wg XG];exact sc) (fun u=>uv OK u) lH (by rw [me.1,mW]) (me.nb F) o2 hb.1.1 hb.1.2 hb.2 (aM _) ?_;intro u v' w' how ji vC wX
 obtain ⟨K',hK,se,bE⟩:=hI.grow bM o1 ⟨o2,o3⟩ (news:=[gs]) (ns:=us) how ji vC (by simpa using me) (fun r hr=>by simp at hr;subst hr;exact ⟨mW,nf hp⟩) (by simp) (fun b bD o v ho hv=>by
  rcases wX with h7 | h7
  ·exact h7.c hv (fun h=>h)
  ·have iP:o < xs.length:=by rw [o2.1];exact yD ho (rT k o6)
   obtain ⟨b2,c2,qL,_,_,ll⟩:=o2.cells.2 (by intro h0;rw [h0] at iP;simp at iP)
   have eA:b2=b:=by rw [qL] at bD;cases bD;rfl
   subst eA;have Fl:=ll o xs[o] (by simp [iP]);rw [fP,hv] at Fl;cases Fl;obtain ⟨b3,c3,OM,_,_,OH⟩:=how.cells.2 (by intro h0;have:xs=[]:=(List.append_eq_nil_iff.1 h0).1;rw [this] at iP;simp at iP)
   have zm:b3=b2:=by rw [OM,bD] at h7;cases h7;rfl
   subst zm
   rw [<-fP];exact OH o _ (by rw [fO iP];simp [iP]))
 rw [<-aZ] at bE;refine h B K' _ w' _ hm bE (((hF.mono hK se).put (some d1) (.U u)).put d ?_);obtain ⟨a,c,rfl⟩:=how.shape;exact .vec i _ a c ⟨_,_,bO,by simp,fun _=>rfl⟩
theorem Wk.Ek {t:Nat} {a:Option Addr} {c:Nat} (E k:Nat) (ht:cz fr t=.v (.slice none 0 0)):Wk m fr Γ (bp fr t (.vec Γ.length 0)) (Γ++[.vec E k 0 []]):=fun B K β w l hm hI hF=>by
 have da:β Γ.length=.no:=hI.out _ (aE _);have bE:=hI.Gr (w':=w) (E:=E) (k:=k) (x:=.slice none 0 0) (xs:=[]) (rows:=[]) (Ext.refl w) (jz.nil w 0 E k) (fun b hb=>by cases hb) bq.nil (fun r hr=>by cases hr);refine ⟨K,_,bE,?_⟩;have wQ:=hF.mono (dh.refl K) (jM (i:=Γ.length) (x:=.gr (.slice none 0 0) ([]:List (List GV)).length) (by rw [da];trivial));have hv:nth l t=.slice none 0 0:=Rel.gk (by rw [<-ht];exact hF.nth t)
 have hu:∀ (l:List Value) (t:Nat) (v:Value),nth l t=v->(∃ a n c,v=.slice a n c)->fV l t v=l:=by
  intro l
  induction l with
  | nil=>intro t v _ _;rfl
  | cons x l ih =>
   intro t v F I
   cases t with
   | zero=>simp only [nth] at F;subst F;rfl
   | succ t=>simp only [nth] at F;simp only [fV];rw [ih t v F I]
 have:=wQ.fV t (v:=.slice none 0 0) (g:=.vec Γ.length 0) (.vec _ 0 none 0 ⟨_,_,bO,aE _,fun _=>rfl⟩);rw [hu l t _ hv ⟨_,_,_,rfl⟩] at this;exact this
theorem Cw {l:List Value} {t:Nat} (h:jj l t=true):fV l t (nth l t)=l:=by
 induction l generalizing t with
 | nil=>cases h
 | cons x l ih=>cases t with | zero=>rfl | succ t=>simp only [fV,nth];rw [ih h]
theorem Wk.jD {t i n E k fz:Nat} {rows:List (List GV)} (ht:cz fr t=.vec i n) (gD:jj fr t=true) (bM:Γ[i]?=some (.vec E k fz rows)) (hn:rows.length=n):Wk m fr Γ (bp fr t (.sl k rows)) (oset Γ i (.vec E k n rows)):=fun B K β w l hm hI hF=>by
 subst hn;obtain ⟨h0,xs,o1,o2,o3,o4,o5,o6⟩:=hI.ob i _ bM;obtain ⟨K',hK,Ff,bE⟩:=hI.jD bM;rw [<-aZ] at bE;refine ⟨K',β,bE,?_⟩;have hr:=hF.nth t;rw [ht] at hr
 have fX:Rel K' β (nth l t) (.sl k rows):=by
  generalize nth l t=v at hr
  cases hr with
  | vec _ _ a c hh =>
   obtain ⟨h',m',e1,e2,e3⟩:=hh;rw [o1] at e1;cases e1;have e4:=e3 rfl
   rcases o2.2 with ⟨e5,e6⟩ | ⟨g,cap,cu,e5,_,_,rZ,_⟩
   ·have:rows=[]:=iC e6;subst this;exact .sl0 _ _ _
   ·rw [e5] at e4;cases e4;refine .sl g 0 _ k rows (fun j r hr=>⟨(o4 r (bA hr)).1,fun q g' mU=>?_⟩) rZ;rw [cI];exact Ff _ g o1 (by rw [e5];rfl) _ g' (vc o4 hr mU)
 have:=(hF.mono hK (dX.refl β)).fV t fX;rw [Cw (n9 hF gD)] at this;exact this
def ou (i:Nat) (cs:List GV):GV->GV
 | .loc j o=>match Nat.beq j i with
  | true=>.box cs o
  | false=>.loc j o
 | g=>match g.ok (other i) with
  | true=>g
  | false=>.U
theorem Rel.frz {K K':Fz} {β:Bt} {i b:Nat} {cs:List GV} {x:Value} {g:GV} (h:Rel K β x g) (hk:dh K K') (hb:β i=.fix b) (hc:∀ (j:Nat) g,cs[j]?=some g->K' b j=some g):Rel K' (jo (other i) β) x (ou i cs g):=by
 have gen:∀ {g:GV},Rel K β x g->Rel K' (jo (other i) β) x (match g.ok (other i) with | true=>g | false=>.U):=by
  intro g h;split
  ·rename_i ho;exact (h.mono hk (dX.refl β)).res ho
  ·exact .U _
 cases g with
 | loc j o =>
  simp only [ou];split
  ·rename_i hj
   have hj:j=i:=by simpa using hj
   subst hj
   cases h with
   | loc _ _ b' bD =>
    rw [hb] at bD;cases bD;have:=Rel.box (K:=K') (β:=jo (other j) β) b 0 o cs (fun q g hg=>by rw [cI];exact hc q g hg);rw [cI] at this;exact this
  ·rename_i hj
   have hj:j≠i:=by intro e;subst e;simp at hj
   exact (h.mono hk (dX.refl β)).res (xj hj)
 | _=>exact gen h
def oU (i:Nat) (cs:List GV):List GV->List GV
 | []=>[]
 | g::gs=>ou i cs g::oU i cs gs
theorem Wk.freeze {i:Nat} {E:TypeId} {cs:List GV} (bM:Γ[i]?=some (.box E cs)) (hp:qm cs=true) (da:lx (other i) (oset Γ i .gone)=true) (hm:m<=i):Wk m fr Γ (oU i cs fr) (oset Γ i .gone):=fun B K β w l hB hI hF=>by
 rw [aZ] at da |-;obtain ⟨b,vs,F,I,h3,h4⟩:=hI.ob i _ bM;obtain ⟨K',hK,Ff,bE⟩:=hI.freeze bM (nf hp) da (by omega);refine ⟨K',_,bE,?_⟩;clear hI bE da bM
 induction hF with
 | nil=>exact .nil
 | cons h t ih=>exact .cons (h.frz hK F (Ff b F)) ih
end
def cB:List Nat->Nat->Nat->Nat
 | [],n,j=>n+j
 | i::_,_,0=>i
 | _::r,n,j+1=>cB r n j
def dG:List Ob->List Nat->List Ob->List Ob
 | Γ,[],xs=>Γ++xs
 | Γ,_::_,[]=>Γ
 | Γ,i::r,x::xs=>dG (oset Γ i x) r xs
def jn:List Nat->Nat->Bool
 | [],_=>true
 | i::r,n=>Nat.blt i n&&!(r.contains i)&&jn r n
theorem Ex {aS:List Nat} {n j:Nat} (h:aS.length<=j):cB aS n j=n+(j - aS.length):=by
 induction aS generalizing j with
 | nil=>simp [cB]
 | cons i r ih =>
  cases j with
  | zero=>simp at h
  | succ j=>rw [cB,ih (by simpa using h)];simp
theorem Vv {aS:List Nat} {n j:Nat} (h:j < aS.length):∃ i∈aS,cB aS n j=i:=by
 induction aS generalizing j with
 | nil=>simp at h
 | cons i r ih =>
  cases j with
  | zero=>exact ⟨i,by simp,rfl⟩
  | succ j=>obtain ⟨x,F,I⟩:=ih (j:=j) (by simpa using h);exact ⟨x,by simp [F],I⟩
theorem H0 {aS:List Nat} {n:Nat} (h:jn aS n=true):∀ i∈aS,i < n:=by
 induction aS with
 | nil=>intro i hi;cases hi
 | cons x r ih =>
  simp only [jn,aC] at h;intro i hi
  rcases de hi with rfl | hi
  ·simpa using h.1.1
  ·exact ih h.2 i hi
theorem Cj {aS:List Nat} {n:Nat} (h:jn aS n=true):∀ {j j':Nat},cB aS n j=cB aS n j'->j=j':=by
 induction aS with
 | nil=>intro j j' he;simp only [cB] at he;omega
 | cons x r ih =>
  have ak:=H0 h;simp only [jn,aC,Bool.not_eq_true'] at h
  have hx:∀ j,cB r n j≠x:=fun j he=>by
   by_cases hj:j < r.length
   ·obtain ⟨i,hi,I⟩:=Vv (n:=n) hj;rw [he] at I;subst I;have:=h.1.2;rw [ij.2 hi] at this;cases this
   ·have:=Ex (n:=n) (Nat.le_of_not_lt hj);have:=ak x (by simp);omega
  intro j j' he
  cases j with
  | zero=>cases j' with
   | zero=>rfl
   | succ j'=>exact absurd he.symm (hx j')
  | succ j=>cases j' with
   | zero=>exact absurd he (hx j)
   | succ j'=>rw [ih h.2 he]
theorem Jv {aS:List Nat} {n:Nat}:∀ {Γ xs:List Ob},Γ.length=n->jn aS n=true->aS.length<=xs.length ->
  (∀ j,(dG Γ aS xs)[cB aS n j]?=xs[j]?)/\(∀ i,(∀ j,cB aS n j≠i)->(dG Γ aS xs)[i]?=Γ[i]?)/\(dG Γ aS xs).length=n+(xs.length - aS.length):=by
 induction aS with
 | nil =>
  intro Γ xs hn _ _;refine ⟨fun j=>?_,fun i hi=>?_,by simp [dG,hn]⟩
  ·simp only [dG,cB];rw [fa (by omega)];congr 1;omega
  ·simp only [dG,cB] at hi |-
   by_cases ak:i < n
   ·rw [fO (by omega)]
   ·exact absurd (by omega) (hi (i - n))
 | cons x r ih =>
  intro Γ xs hn fx hl;have Hh:=@Cj (x::r) n fx;have ak:=H0 fx x (by simp)
  cases xs with
  | nil=>simp at hl
  | cons y ys =>
   simp only [jn,aC,Bool.not_eq_true'] at fx;obtain ⟨F,I,h3⟩:=ih (Γ:=oset Γ x y) (xs:=ys) (by rw [aZ];simpa using hn) fx.2 (by simpa using hl)
   have hx:∀ j,cB r n j≠x:=fun j he=>by
    have:=@Hh (j+1) 0 he;omega
   refine ⟨fun j=>?_,fun i hi=>?_,by simp only [dG,h3,length_cons];omega⟩
   ·cases j with
    | zero =>
     simp only [dG,cB];rw [I x hx,aZ,dx];simp [hn,ak]
    | succ j=>simp only [dG,cB];exact F j
   ·simp only [dG];rw [I i (fun j=>hi (j+1)),aZ,dx];rw [L (by intro e;exact hi 0 e)]
theorem lM.Dn {K:Fz} {β:Bt} {w:World} {f:Nat->Nat} {j:Nat} {x:Ob} (h:lM K β w (f j) (x.eC f)):lM K (fun j=>β (f j)) w j x:=by
 cases x with
 | gone=>exact h
 | box E cs =>
  obtain ⟨b,vs,F,I,h3,h4⟩:=h;rw [ly] at h3;exact ⟨b,vs,F,I,⟨by simpa using h3.1,fun i v g h5 h6=>(h3.2 i v (eC f g) h5 (by rw [aP,h6];rfl)).Dn⟩,h4⟩
 | vec E k fz rows =>
  obtain ⟨h0,xs,F,I,h3,h4,h5⟩:=h;refine ⟨h0,xs,F,I,⟨h3.1,fun i v g h6 h7=>(h3.2 i v g h6 h7).pc ?_⟩,h4,h5⟩;obtain ⟨r,jI,eg⟩:=List.mem_flatten.1 (bA h7);exact (h4 r jI).2 g eg
 | vech E k rows x =>
  obtain ⟨xs,F,I,h3,h4,h5⟩:=h;refine ⟨xs,F,I,⟨h3.1,fun i v g h6 h7=>(h3.2 i v g h6 h7).pc ?_⟩,h4,h5⟩;obtain ⟨r,jI,eg⟩:=List.mem_flatten.1 (bA h7);exact (h4 r jI).2 g eg
 | lost=>exact h
theorem lM.DD {K:Fz} {β:Bt} {w:World} {f:Nat->Nat} {j:Nat} {x:Ob} (h:lM K (fun j=>β (f j)) w j x):lM K β w (f j) (x.eC f):=by
 cases x with
 | gone=>exact h
 | box E cs =>
  obtain ⟨b,vs,F,I,h3,h4⟩:=h;refine ⟨b,vs,F,I,?_,h4⟩;rw [ly];refine ⟨by simpa using h3.1,fun i v g h5 h6=>?_⟩;rw [aP] at h6
  cases hc:cs[i]? with
  | none=>rw [hc] at h6;cases h6
  | some c=>rw [hc] at h6;cases h6;exact (h3.2 i v c h5 hc).DD
 | vec E k fz rows =>
  obtain ⟨h0,xs,F,I,h3,h4,h5⟩:=h;refine ⟨h0,xs,F,I,⟨h3.1,fun i v g h6 h7=>(h3.2 i v g h6 h7).pc ?_⟩,h4,h5⟩;obtain ⟨r,jI,eg⟩:=List.mem_flatten.1 (bA h7);exact (h4 r jI).2 g eg
 | vech E k rows x =>
  obtain ⟨xs,F,I,h3,h4,h5⟩:=h;refine ⟨xs,F,I,⟨h3.1,fun i v g h6 h7=>(h3.2 i v g h6 h7).pc ?_⟩,h4,h5⟩;obtain ⟨r,jI,eg⟩:=List.mem_flatten.1 (bA h7);exact (h4 r jI).2 g eg
 | lost=>exact h
section
variable {K:Fz} {β:Bt} {Γ:List Ob} {w:World} {B:Bs}
theorem Inv.enter {aS:List Nat} {jw:List Ob} (h:Inv B K β Γ w) (fx:jn aS Γ.length=true) (hl:jw.length=aS.length) (bM:∀ j x,jw[j]?=some x->Γ[cB aS Γ.length j]?=some (x.eC (cB aS Γ.length))) :
  Inv (cur K (fun j=>β (cB aS Γ.length j)) jw w) K (fun j=>β (cB aS Γ.length j)) jw w:=by
 have da:∀ i,jw.length<=i->β (cB aS Γ.length i)=.no:=fun i hi=>by
  rw [Ex (by omega)];exact h.out _ (by omega)
 exact ⟨Ext.refl w,dh.refl K,dX.refl _,da,h.fz,fun i x hi=>(h.ob _ _ (bM i x hi)).Dn,da,fun i j b hi hj=>Cj fx (h.dis _ _ b hi hj),fun i b hb=>.inl ⟨i,hb⟩,fun _ _ _ h=>.inl h,h.tab.step (S:=jm) (Ext.refl w) (fun _ h=>h.elim) (dh.refl K) (fun i b2 I=>.inl ⟨_,I⟩)⟩
theorem Inv.leave {aS:List Nat} {jw sQ:List Ob} {K':Fz} {Cz:Bt} {w':World} (h:Inv B K β Γ w) (fx:jn aS Γ.length=true) (hl:jw.length=aS.length) (kL:aS.length<=sQ.length)
  (hI:Inv (cur K (fun j=>β (cB aS Γ.length j)) jw w) K' Cz sQ w') :
  ∃ bT,dh K K'/\dX β bT/\(∀ j,bT (cB aS Γ.length j)=Cz j)/\Inv B K' bT (dG Γ aS (sQ.map (Ob.eC (cB aS Γ.length)))) w':=by
 obtain ⟨s1,s2,s3⟩:=Jv (aS:=aS) (n:=Γ.length) (Γ:=Γ) (xs:=sQ.map (Ob.eC (cB aS Γ.length))) rfl fx (by simpa using kL);rw [bP] at s3;generalize hf:cB aS Γ.length=f at *
 have Hh:∀ {j j'},f j=f j'->j=j':=by subst hf;exact Cj fx
 have mV:∀ j,aS.length<=j->f j=Γ.length+(j - aS.length):=fun j hj=>by subst hf;exact Ex hj
 have aaY:∀ i,Γ.length<=i->f (aS.length+(i - Γ.length))=i:=fun i hi=>by rw [mV _ (by omega)];omega
 have ⟨bT,hβ1,hβ2⟩:∃ bT:Bt,(∀ j,bT (f j)=Cz j)/\∀ i,(∀ j,f j≠i)->bT i=β i:=by
  classical
  refine ⟨fun i=>if h:∃ j,f j=i then Cz (Classical.choose h) else β i,fun j=>?_,fun i hi=>?_⟩
  ·have hex:∃ j',f j'=f j:=⟨j,rfl⟩;simp only;rw [dif_pos hex,Hh (Classical.choose_spec hex)]
  ·simp only;rw [dif_neg (fun ⟨j,hj⟩=>hi j hj)]
 have WH:dX β bT:=fun i=>by
  by_cases hi:∃ j,f j=i
  ·obtain ⟨j,rfl⟩:=hi;rw [hβ1];exact hI.ble j
  ·rw [hβ2 i (fun j hj=>hi ⟨j,hj⟩)];exact tN.refl _
 have L3:∀ b,blocks (fun j=>β (f j)) b->blocks β b:=fun b ⟨j,hj⟩=>⟨f j,hj⟩
 have jc:∀ i b,(bT i).blk=some b->blocks β b\/w.heap.size<=b:=fun i b hb=>by
  by_cases hi:∃ j,f j=i
  ·obtain ⟨j,rfl⟩:=hi;rw [hβ1] at hb;exact (hI.own j b hb).imp (L3 b) id
  ·rw [hβ2 i (fun j hj=>hi ⟨j,hj⟩)] at hb;exact .inl ⟨i,hb⟩
 have tw:∀ i b,(∀ j,f j≠i)->(β i).blk=some b->¬ blocks (fun j=>β (f j)) b:=fun i b hi hb ⟨j,hj⟩=>hi j (h.dis _ _ b hj hb)
 refine ⟨bT,hI.kle,WH,hβ1,h.P0 (Γ0:=Γ) ?_⟩;refine ⟨hI.ext.mono (fun k _ hk=>L3 k hk),hI.kle,WH,h.out,hI.fz,fun i x hi=>?_,fun i hi=>?_,fun i i' b hi qh=>?_,jc,fun b o g hg=>?_,⟨hI.tab.le,hI.tab.pow,hI.tab.spc,fun i b hb=>(jc i b hb).elim (fun ⟨j,hj⟩=>h.tab.free j b hj) (fun hs=>⟨by have:=h.tab.pow.lt;have hs:w.heap.size<=b:=hs;omega,by have:=h.tab.spc.lt;have hs:w.heap.size<=b:=hs;omega⟩)⟩⟩
 ·by_cases hj:∃ j,f j=i
  ·obtain ⟨j,rfl⟩:=hj;rw [s1 j,aP] at hi
   cases hc:sQ[j]? with
   | none=>rw [hc] at hi;cases hi
   | some c =>
    rw [hc] at hi;cases hi;refine lM.DD ?_;have:=hI.ob j c hc;rw [show (fun j=>bT (f j))=Cz from funext hβ1];exact this
  ·have nD:∀ j,f j≠i:=fun j h=>hj ⟨j,h⟩
   rw [s2 i nD] at hi;refine (h.ob i x hi).ext hI.ext (fun b hb=>tw i b nD hb) hI.kle WH (hβ2 i nD) (fun b o hb hk=>?_)
   cases mW:K' b o with
   | none=>rfl
   | some g =>
    rcases hI.kn b o g mW with h7 | h7 | h7
    ·have h7:K b o=some g:=h7;rw [hk] at h7;cases h7
    ·exact absurd h7 (tw i b nD hb)
    ·have:=h.lt hb;have h7:w.heap.size<=b:=h7;omega
 ·rw [s3] at hi;have F:=aaY i (by omega);rw [<-F,hβ1];exact hI.out _ (by omega)
 ·by_cases F:∃ j,f j=i <;> by_cases I:∃ j,f j=i'
  ·obtain ⟨j,rfl⟩:=F;obtain ⟨j',rfl⟩:=I;rw [hβ1] at hi qh;rw [hI.dis j j' b hi qh]
  ·obtain ⟨j,rfl⟩:=F
   have rW:∀ j,f j≠i':=fun j h=>I ⟨j,h⟩
   rw [hβ1] at hi;rw [hβ2 i' rW] at qh
   rcases hI.own j b hi with h7 | h7
   ·exact absurd h7 (tw i' b rW qh)
   ·have:=h.lt qh;have h7:w.heap.size<=b:=h7;omega
  ·obtain ⟨j,rfl⟩:=I
   have dq:∀ j,f j≠i:=fun j h=>F ⟨j,h⟩
   rw [hβ1] at qh;rw [hβ2 i dq] at hi
   rcases hI.own j b qh with h7 | h7
   ·exact absurd h7 (tw i b dq hi)
   ·have:=h.lt hi;have h7:w.heap.size<=b:=h7;omega
  ·rw [hβ2 i (fun j h=>F ⟨j,h⟩)] at hi;rw [hβ2 i' (fun j h=>I ⟨j,h⟩)] at qh;exact h.dis i i' b hi qh
 ·rcases hI.kn b o g hg with h7 | h7 | h7
  ·exact .inl h7
  ·exact .inr (.inl (L3 b h7))
  ·exact .inr (.inr h7)
end
section
variable {P:Program} {m:Nat} {Q:dU} {fr:List GV} {Γ:List Ob} {ops:Array Oper} {rest:List Oper} {d:Option Tmp} {op:Op} {ty:TypeId} {pos:String} {af:Array Edge}
def seen (f:Nat->Nat) (Γ:List Ob):List Nat->List Ob->Prop
 | [],[]=>True
 | i::r,x::xs=>Γ[i]?=some (x.eC f)/\seen f Γ r xs
 | _,_=>False
theorem FM {f:Nat->Nat} {Γ:List Ob} {n:Nat}:∀ {aS:List Nat} {jw:List Ob},seen f Γ aS jw->jw.length=aS.length/\∀ j x,jw[j]?=some x->Γ[cB aS n j]?=some (x.eC f)
 | [],[],_=>⟨rfl,fun j x h=>by simp at h⟩
 | i::r,y::ys,h=>by
  obtain ⟨F,I⟩:=h;obtain ⟨h3,h4⟩:=FM (n:=n) I;refine ⟨by simp [h3],fun j x hx=>?_⟩
  cases j with
  | zero=>cases hx;exact F
  | succ j=>exact h4 j x hx
 | [],_::_,h=>h.elim
 | _::_,[],h=>h.elim
theorem GL.calls {f:FuncId} {aS:List Nat} {gs:List GV} {jw:List Ob} {R:GV->List Ob->Prop} {vs:List Value->List Value} (hr:∀ K β w l,FR K β fr l->bq K β (vs l) (cV (cB aS Γ.length) gs)/\(execOp (ev l) ⟨d,op,ty,pos,af,none⟩).run P w=.ok (.enter f (vs l).toArray) w)
  (fx:jn aS Γ.length=true) (bM:seen (cB aS Γ.length) Γ aS jw) (hc:GC P f gs jw R)
  (h:∀ g aR,R g aR->aS.length<=aR.length/\GL P m ops Q rest (bJ fr d (eC (cB aS Γ.length) g)) (dG Γ aS (aR.map (Ob.eC (cB aS Γ.length))))) :
  GL P m ops Q (⟨d,op,ty,pos,af,none⟩::rest) fr Γ:=fun B K β w l hm hI hF=>by
 obtain ⟨hl,hs⟩:=FM (n:=Γ.length) bM;obtain ⟨ha,hr⟩:=hr K β w l hF;have hIc:=hI.enter fx hl hs
 have CN:bq K (fun j=>β (cB aS Γ.length j)) (vs l) gs:=by
  rw [ly] at ha;exact ⟨by simpa using ha.1,fun i v g h5 h6=>(ha.2 i v (eC _ g) h5 (by rw [aP,h6];rfl)).Dn⟩
 refine WL.calls hr (hc _ K _ w _ rfl hIc CN) ?_;rintro v w' ⟨K',Cz,g,aR,bE,fX,hR⟩;obtain ⟨kL,h⟩:=h g aR hR;obtain ⟨bT,hK,hB,se,rX⟩:=hI.leave fx hl kL bE;refine h B K' bT w' _ hm rX ((hF.mono hK hB).put d (Rel.DD ?_));rw [show (fun j=>bT (cB aS Γ.length j))=Cz from funext se];exact fX
theorem GL.sV {f:FuncId} [hf:aJ P f] (aS:List Nat) {x:Operand} {first cap:List GV} {args:List Operand} {nq:Array TypeId} {gs:List GV} {jw:List Ob} {R:GV->List Ob->Prop} (hc:GC P f gs jw R) (hx:bb fr x=.fn (.func f) first cap) (ha:first++args.map (bb fr)++cap=cV (cB aS Γ.length) gs) (fx:jn aS Γ.length=true)
  (bM:seen (cB aS Γ.length) Γ aS jw) (h:∀ g aR,R g aR->aS.length<=aR.length/\GL P m ops Q rest (bJ fr d (eC (cB aS Γ.length) g)) (dG Γ aS (aR.map (Ob.eC (cB aS Γ.length))))) :
  GL P m ops Q (⟨d,.call ⟨.value x,args.toArray,nq⟩,ty,pos,af,none⟩::rest) fr Γ :=
 GL.calls (vs:=fun l=>match ev l x with | .func _ a c=>a.toList++args.map (ev l)++c.toList | _=>[]) (fun K β w l hF=>by
  have hr:=hF.ev x;rw [hx] at hr;generalize hv:ev l x=v at hr
  cases hr with
  | fn _ xs ys _ _ F I h3 h4 =>
   refine ⟨?_,?_⟩
   ·rw [<-ha];exact (bq.app (bq.app ⟨F,h3⟩ (hF.args args)) ⟨I,h4⟩)
   ·simp [execOp,resolve,hv,Deferred.ofValue,invoke,ng]) fx bM hc h
theorem GL.Y7 {f:FuncId} [hf:aJ P f] (aS:List Nat) {x:Operand} {args:List Operand} {nq:Array TypeId} {gs:List GV} {jw:List Ob} {R:GV->List Ob->Prop} (hc:GC P f gs jw R) (hx:bb fr x=.v (.func (.func f) #[] #[])) (ha:args.map (bb fr)=cV (cB aS Γ.length) gs) (fx:jn aS Γ.length=true)
  (bM:seen (cB aS Γ.length) Γ aS jw) (h:∀ g aR,R g aR->aS.length<=aR.length/\GL P m ops Q rest (bJ fr d (eC (cB aS Γ.length) g)) (dG Γ aS (aR.map (Ob.eC (cB aS Γ.length))))) :
  GL P m ops Q (⟨d,.call ⟨.value x,args.toArray,nq⟩,ty,pos,af,none⟩::rest) fr Γ :=
 GL.calls (vs:=fun l=>args.map (ev l)) (fun K β w l hF=>⟨by rw [<-ha];exact hF.args args,by
  have hv:=hF.jF hx
  simp [execOp,resolve,hv,Deferred.ofValue,invoke,ng]⟩) fx bM hc h
end
def oV (ops:List Oper) (fr:List GV):Nat->Option (Option Bool):=fun j =>
 match jj ops j,(tQ ops j).dst with
 | true,some t=>match jj fr t,cz fr t with
  | true,.v (.bool c)=>some (some c)
  | true,.v (.tuple _)=>some none
  | _,_=>none
 | _,_=>none
section
variable {P:Program} {m:Nat} {Q:dU} {fr:List GV} {Γ:List Ob} {ops:Array Oper} {rest:List Oper} {d:Option Tmp} {op:Op} {ty:TypeId} {pos:String} {af:Array Edge}
theorem wP {K:Fz} {β:Bt} {l:List Value} {j:Nat} {b:Bool} {c:Option Bool} (hF:FR K β fr l) (h:oV ops.toList fr j=some c):Fm (some (j,b)) ops.toList l=true/\gv ops.toList l (j,b)=c:=by
 unfold oV at h;split at h
 ·rename_i t F I;split at h
  ·rename_i c' h3 h4;cases h;have hv:nth l t=.bool c':=Rel.gk (by rw [<-h4];exact hF.nth t);have hl:=n9 hF h3;simp only [Fm,gv,F,I,hl,hv,Bool.and_self];exact ⟨trivial,trivial⟩
  ·rename_i vs h3 h4;cases h;have hv:nth l t=.tuple vs:=Rel.gk (by rw [<-h4];exact hF.nth t);have hl:=n9 hF h3;simp only [Fm,gv,F,I,hl,hv,Bool.and_self];exact ⟨trivial,trivial⟩
  ·cases h
 ·cases h
theorem GL.gt {gd:Nat × Bool} {c:Bool} (hv:oV ops.toList fr gd.1=some (some c)) (hc:c=gd.2) (h:GL P m ops Q (⟨d,op,ty,pos,af,none⟩::rest) fr Γ):GL P m ops Q (⟨d,op,ty,pos,af,some gd⟩::rest) fr Γ:=fun B K β w l hm hI hF=>by
 obtain ⟨F,I⟩:=wP (b:=gd.2) hF hv;exact Xw.GT F I hc (h B K β w l hm hI hF)
theorem GL.gf {gd:Nat × Bool} {c:Bool} (hv:oV ops.toList fr gd.1=some (some c)) (hc:c=!gd.2) (h:GL P m ops Q rest (bJ fr d (.v undef)) Γ):GL P m ops Q (⟨d,op,ty,pos,af,some gd⟩::rest) fr Γ:=fun B K β w l hm hI hF=>by
 obtain ⟨F,I⟩:=wP (b:=gd.2) hF hv;exact Xw.GF F I hc (h B K β w _ hm hI (hF.put d (.v _)))
theorem GL.gu {gd:Nat × Bool} (hv:oV ops.toList fr gd.1=some none) (h:GL P m ops Q rest (bJ fr d (.v undef)) Γ):GL P m ops Q (⟨d,op,ty,pos,af,some gd⟩::rest) fr Γ:=fun B K β w l hm hI hF=>by
 obtain ⟨F,I⟩:=wP (b:=gd.2) hF hv;exact Xw.GU F I (h B K β w _ hm hI (hF.put d (.v _)))
end
def gG (ops:List Oper) (fr:List GV):Option (Nat × Bool)->Option Bool
 | none=>some true
 | some (j,b)=>match oV ops fr j with
  | some (some c)=>some (c==b)
  | some none=>some false
  | none=>none
theorem J6 {ops:Array Oper} {K:Fz} {β:Bt} {fr:List GV} {l:List Value} {o:Oper} {c:Bool} (hF:FR K β fr l) (h:gG ops.toList fr o.guard=some c):Region.wanted o (yielded ops (act l).tmps)=c:=by
 obtain ⟨d,op,ty,pos,af,gd⟩:=o
 cases gd with
 | none=>simp only [gG] at h;cases h;rfl
 | some gd =>
  obtain ⟨j,b⟩:=gd;simp only [gG] at h;split at h
  ·rename_i c' hc;cases h;obtain ⟨F,I⟩:=wP (b:=b) hF hc;rw [xA F]
   cases A3:(c'==b) with
   | true=>exact QC I (by simpa using A3)
   | false=>exact QB I (by cases c' <;> cases b <;> simp_all)
  ·rename_i hc;cases h;obtain ⟨F,I⟩:=wP (b:=b) hF hc;rw [xA F];exact QD I
  ·cases h
def FE (P:Program) (o:Oper) (e:Operand->Value) (w:World) (Kv:Value->World->Prop):Prop :=
 match (execOp e o).run P w with
 | .ok (.value v) w'=>Kv v w'
 | .ok .skip w'=>Kv undef w'
 | .ok (.enter f args) w'=>Calls P f args w' fun e Uk=>∃ v,e=.returned v/\Kv v Uk
 | .ok (.row row args) w'=>Rows P row args w' Kv
 | _=>False
theorem Yk {P:Program} {o:Oper} {a:Act} {w:World} {Kv:Value->World->Prop} {next:Act->World->Prop} {Q:Exit->Act->World->Prop} (h:FE P o a.eval w Kv) (hn:∀ v w',Kv v w'->next (a.put o.dst v) w'):o.wp P a w next Q:=by
 unfold FE at h;unfold Oper.wp;generalize (execOp a.eval o).run P w=r at *
 cases r with
 | ok n w' =>
  cases n <;> simp only [Oper.upon] at h |- <;> first
   | exact hn _ _ h
   | exact Calls.mono h (fun e Uk ⟨v,he,hv⟩=>by subst he;exact hn _ _ hv)
   | exact Rows.mono h (fun _ _ hv=>hn _ _ hv)
   | exact h.elim
 | halt x w'=>exact h.elim
theorem YT {P:Program} {o:Oper} {a:Act} {w:World} {Kv:Value->World->Prop} {next:Act->World->Prop} {Q:Exit->Act->World->Prop} (h:o.wp P a w next Q) (hQ:∀ c a w,¬ Q (.panic c) a w) (hQ':∀ a w,¬ Q .outgrown a w) (hn:∀ v w',next (a.put o.dst v) w'->Kv v w')
  (hd:∀ d w',¬ next ({ a with defers:=d::a.defers }.put o.dst undef) w'):FE P o a.eval w Kv:=by
 unfold FE;unfold Oper.wp at h;generalize (execOp a.eval o).run P w=r at *
 cases r with
 | ok n w' =>
  cases n <;> simp only [Oper.upon] at h |- <;> first
   | exact hn _ _ h
   | exact Calls.mono h (fun e Uk he=>by
     cases e with
     | returned v=>exact ⟨v,rfl,hn _ _ he⟩
     | panicked c=>exact (hQ _ _ _ he).elim
     | outgrown=>obtain ⟨a0,w0,hf⟩:=he;exact (hQ' _ _ hf).elim)
   | exact Rows.mono h (fun _ _ hv=>hn _ _ hv)
   | exact h.elim
   | exact absurd h (hd _ _)
 | halt x w' =>
  cases x <;> simp only [Oper.upon] at h
  exact (hQ _ _ _ h).elim
def du (ts:List Nat):Nat->List GV->List GV
 | _,[]=>[]
 | k,g::gs=>(match ts.contains k with | true=>g | false=>.U)::du ts (k+1) gs
theorem FR.mask {K:Fz} {β:Bt} {ts:List Nat} {fr:List GV} {l:List Value} (h:FR K β fr l):∀ k,FR K β (du ts k fr) l:=by
 induction h with
 | nil=>intro k;exact .nil
 | cons h t ih =>
  intro k;rw [du];split
  ·exact .cons h (ih _)
  ·exact .cons (.U _) (ih _)
theorem Sa {ts:List Nat} {d:Option Tmp} {g:GV} (hd:∀ t,d=some t->t ∉ ts) (fr:List GV):du ts 0 (bJ fr d g)=du ts 0 fr:=by
 cases d with
 | none=>rfl
 | some t =>
  have hd:=hd t rfl
  have gen:∀ (fr:List GV) (k t:Nat),k+t ∉ ts->du ts k (bp fr t g)=du ts k fr:=by
   intro fr
   induction fr with
   | nil=>intro k t _;rfl
   | cons x fr ih =>
    intro k t h
    cases t with
    | zero =>
     have hc:ts.contains k=false:=by
      cases hb:ts.contains k with
      | false=>rfl
      | true=>exact absurd (ij.1 hb) (by simpa using h)
     simp only [bp,du,hc]
    | succ t=>simp only [bp,du];rw [ih (k+1) t (by rw [show k+1+t=k+(t+1) by omega];exact h)]
  exact gen fr 0 t (by simpa using hd)
section
variable {P:Program} {ops:Array Oper}
def YQ (P:Program) (ops:Array Oper) (i:Nat) (g:GV) (fr:List GV) (Γ:List Ob):Prop :=
 ∃ o c,ops[i]?=some o/\gG ops.toList (du (o.looksAt ops) 0 fr) o.guard=some c/\match c with
  | true=>YG P o.op (du (o.looksAt ops) 0 fr) Γ g
  | false=>g=.v undef
abbrev ml:=List (Nat × GV × List GV)
def GA (P:Program) (o:Oper) (Kt:GV->List Ob->Prop) (fr:List GV) (Γ:List Ob):Prop :=
 ∀ B K β w l,Inv B K β Γ w->FR K β fr l->FE P o (ev l) w fun v w'=>∃ K' bT g aR,dh K K'/\dX β bT/\Inv B K' bT aR w'/\(∀ fr l,FR K' bT fr l->FR K' bT (bJ fr o.dst g) (put l o.dst v))/\Kt g aR
def GI (P:Program) (ops:Array Oper) (i:Nat) (Kt:GV->List Ob->Prop) (fr:List GV) (Γ:List Ob):Prop :=
 ∃ o c,ops[i]?=some o/\gG ops.toList fr o.guard=some c/\match c with
  | true=>GA P o Kt fr Γ
  | false=>Kt (.v undef) Γ
def mr (ops:Array Oper) (i:Nat):Option Tmp:=(ops[i]?).bind (·.dst)
def waits (ops:Array Oper) (i j:Nat):Bool:=match ops[i]? with
 | some o=>o.after.any fun e=>Region.binds .any e&&e.on==j
 | none=>false
def stay (ops:Array Oper) (i:Nat) (bc:ml):ml:=bc.filter fun p=>!waits ops i p.1
def qZ (P:Program) (ops:Array Oper) (Q:List GV->List Ob->Prop):Nat->ml->Array Bool->List GV->List Ob->Prop
 | 0,_,listed,fr,Γ=>Region.ready .any ops listed=[]/\Q fr Γ
 | n+1,bc,listed,fr,Γ=>(Region.ready .any ops listed=[]->Q fr Γ) /\
   ∀ i∈Region.ready .any ops listed,GI P ops i (fun g aR=>(∀ p∈stay ops i bc,YQ P ops p.1 p.2.1 p.2.2 aR)/\qZ P ops Q n (stay ops i bc) (listed.setIfInBounds i true) (bJ fr (mr ops i) g) aR) fr Γ
theorem GA.mono {o:Oper} {Kt Gn:GV->List Ob->Prop} {fr:List GV} {Γ:List Ob} (h:GA P o Kt fr Γ) (hk:∀ g aR,Kt g aR->Gn g aR):GA P o Gn fr Γ:=fun B K β w l hI hF=>by
 have:=h B K β w l hI hF;unfold FE at *;generalize (execOp (ev l) o).run P w=r at *
 have key:∀ v w',(∃ K' bT g aR,dh K K'/\dX β bT/\Inv B K' bT aR w'/\(∀ fr l,FR K' bT fr l->FR K' bT (bJ fr o.dst g) (put l o.dst v))/\Kt g aR)->∃ K' bT g aR,dh K K'/\dX β bT/\Inv B K' bT aR w'/\(∀ fr l,FR K' bT fr l->FR K' bT (bJ fr o.dst g) (put l o.dst v))/\Gn g aR :=
  fun v w' ⟨K',bT,g,aR,F,I,h3,h4,h5⟩=>⟨K',bT,g,aR,F,I,h3,h4,hk _ _ h5⟩
 cases r with
 | ok n w'=>cases n <;> simp only at this |- <;> first
   | exact key _ _ this
   | exact Calls.mono this (fun e Uk ⟨v,he,hv⟩=>⟨v,he,key _ _ hv⟩)
   | exact Rows.mono this (fun _ _ hv=>key _ _ hv)
   | exact this.elim
 | halt x w'=>exact this.elim
theorem GI.mono {i:Nat} {Kt Gn:GV->List Ob->Prop} {fr:List GV} {Γ:List Ob} (h:GI P ops i Kt fr Γ) (hk:∀ g aR,Kt g aR->Gn g aR):GI P ops i Gn fr Γ:=by
 obtain ⟨o,c,F,I,h3⟩:=h;refine ⟨o,c,F,I,?_⟩
 cases c with
 | true=>exact GA.mono h3 hk
 | false=>exact hk _ _ h3
theorem qZ.Th {Q:List GV->List Ob->Prop}:∀ (n:Nat) (bc eL:ml) (listed:Array Bool) (fr:List GV) (Γ:List Ob),(∀ p∈eL,p∈bc)->qZ P ops Q n bc listed fr Γ->qZ P ops Q n eL listed fr Γ
 | 0,_,_,_,_,_,_,h=>h
 | n+1,bc,eL,listed,fr,Γ,hs,h=>⟨h.1,fun i hi=>(h.2 i hi).mono fun g aR ⟨F,I⟩=>by
  have pR:∀ p∈stay ops i eL,p∈stay ops i bc:=fun p hp=>by
   simp only [stay,mem_filter] at hp |-;exact ⟨hs p hp.1,hp.2⟩
  exact ⟨fun p hp=>F p (pR p hp),qZ.Th n _ _ _ _ _ pR I⟩⟩
theorem qZ.sound {m:Nat} {Q:List GV->List Ob->Prop} {B:Bs} {Q':dU} (hm:B.m=m) (hQ:∀ fr Γ,Q fr Γ->Q' .normal fr Γ):∀ (n:Nat) (bc:ml) (listed:Array Bool) (fr:List GV) (Γ:List Ob) (K:Fz) (β:Bt) (w:World) (l:List Value),
  qZ P ops Q n bc listed fr Γ->Inv B K β Γ w->FR K β fr l->wpAny P .any ops (lift (gl B Q')) n listed (act l) w
 | 0,_,_,fr,Γ,K,β,w,l,h,hI,hF=>⟨h.1,l,rfl,K,β,fr,Γ,hI,hF,hQ _ _ h.2⟩
 | n+1,bc,listed,fr,Γ,K,β,w,l,h,hI,hF=>by
  refine ⟨fun h0=>⟨l,rfl,K,β,fr,Γ,hI,hF,hQ _ _ (h.1 h0)⟩,fun i hi=>?_⟩;obtain ⟨o,c,ho,hg,hc⟩:=h.2 i hi;have hw:=J6 hF hg;unfold wpOp;simp only [ho,hw]
  have hd:mr ops i=o.dst:=by simp [mr,ho]
  cases c with
  | true =>
   simp only [if_true];refine .inl (Yk (by rw [oN];exact hc B K β w l hI hF) ?_);rintro v w' ⟨K',bT,g,aR,hK,hB,bE,hf,F,I⟩;rw [qH];rw [hd] at I;exact qZ.sound hm hQ n _ _ _ _ K' bT w' _ I bE (hf _ _ (hF.mono hK hB))
  | false =>
   simp only [Bool.false_eq_true,if_false];rw [qH];obtain ⟨F,I⟩:=hc;rw [hd] at I;exact qZ.sound hm hQ n _ _ _ _ K β w _ I hI (hF.put o.dst (.v _))
theorem Jc {fr:List GV} {t t':Nat} (h:t'≠t) (g:GV):cz (bp fr t g) t'=cz fr t':=by
 induction fr generalizing t t' with
 | nil=>rfl
 | cons x l ih=>cases t with
  | zero=>cases t' with | zero=>exact absurd rfl h | succ t'=>rfl
  | succ t=>cases t' with | zero=>rfl | succ t'=>exact ih (fun e=>h (by rw [e]))
theorem Kx {fr:List GV} {t t':Nat} {g:GV}:jj (bp fr t g) t'=jj fr t':=by
 induction fr generalizing t t' with
 | nil=>rfl
 | cons x l ih=>cases t with
  | zero=>cases t' <;> rfl
  | succ t=>cases t' with | zero=>rfl | succ t'=>exact ih
theorem Ws {o:Oper} {fr:List GV} {d:Option Tmp} {g:GV} (h:∀ t,d=some t->t ∉ o.looksAt ops):gG ops.toList (bJ fr d g) o.guard=gG ops.toList fr o.guard:=by
 cases d with
 | none=>rfl
 | some t =>
  have h:=h t rfl;obtain ⟨d',op,ty,pos,af,gd⟩:=o
  cases gd with
  | none=>rfl
  | some gd =>
   obtain ⟨j,b⟩:=gd
   have ct:∀ t',jj ops.toList j=true->(tQ ops.toList j).dst=some t'->t'≠t:=fun t' hj Hv he=>by
    subst he;apply h;have nD:=KO ops.toList j (C7 hj);simp only [Array.toArray_toList] at nD;simp [Oper.looksAt,nD,Hv]
   have hv:oV ops.toList (bp fr t g) j=oV ops.toList fr j:=by
    unfold oV
    cases gD:jj ops.toList j with
    | false=>rfl
    | true =>
     cases hd:(tQ ops.toList j).dst with
     | none=>rfl
     | some t' =>
      simp only;rw [Kx,Jc (ct t' gD hd)]
   simp only [gG,bJ,hv]
theorem YQ.at {i:Nat} {g:GV} {fr:List GV} {Γ:List Ob} {o:Oper} (h:YQ P ops i g fr Γ) (ho:ops[i]?=some o) {B:Bs} {K:Fz} {β:Bt} {w:World} {l:List Value} (hI:Inv B K β Γ w) (hF:FR K β fr l):∃ v,Rel K β v g/\((Region.wanted o (yielded ops (act l).tmps)=true/\(execOp (ev l) o).run P w=.ok (.value v) w)\/(Region.wanted o (yielded ops (act l).tmps)=false/\v=undef)):=by
 obtain ⟨o',c,F,I,h3⟩:=h;rw [ho] at F;cases F;have hw:=J6 (hF.mask (ts:=o.looksAt ops) 0) I
 cases c with
 | true =>
  obtain ⟨v,hr,hv⟩:=h3 B K β w l hI (hF.mask 0);exact ⟨v,hv,.inl ⟨hw,by obtain ⟨d,op,ty,pos,af,gd⟩:=o;exact hr d ty pos af⟩⟩
 | false=>subst h3;exact ⟨undef,.v _,.inr ⟨hw,rfl⟩⟩
theorem GI.comm {i j:Nat} {g:GV} {oi oj:Oper} {Kt:GV->List Ob->Prop} {fr:List GV} {Γ:List Ob} (hi:ops[i]?=some oi) (hj:ops[j]?=some oj) (TA:oi.apart ops oj=true) (hsj:∀ cs b,oj.op≠.select cs b) (hy:YQ P ops i g fr Γ)
  (h:GI P ops j Kt (bJ fr oi.dst g) Γ):GI P ops j Kt fr Γ:=by
 obtain ⟨a1,a2,a3⟩:=Oper.apart_spec TA;obtain ⟨o,c,F,I,h3⟩:=h;rw [hj] at F;cases F;rw [Ws a1] at I;refine ⟨oj,c,hj,I,?_⟩
 cases c with
 | false=>exact h3
 | true =>
  intro B K β w l hI hF;obtain ⟨v,hv,_⟩:=hy.at hi hI hF;have:=h3 B K β w (put l oi.dst v) hI (hF.put _ hv)
  have he:execOp (ev (put l oi.dst v)) oj=execOp (ev l) oj:=by
   have:=execOp_put oj hsj (act l) oi.dst v a1;rw [qH,oN,oN] at this;exact this
  unfold FE at this |-;rw [he] at this;exact this
theorem qZ.first {Q:List GV->List Ob->Prop} {i:Nat} {oi:Oper} {g:GV} {qc:List GV} (hi:ops[i]?=some oi) (abp:∀ (j:Nat) (o:Oper) cs b,ops[j]?=some o->o.op≠.select cs b) :
  ∀ (n:Nat) (bc:ml) (listed:Array Bool) (fr:List GV) (Γ:List Ob),
   (∀ j oj,ops[j]?=some oj->j≠i->listed.getD j true=false->(∀ e∈oj.after,Region.binds .any e=true->e.on≠i)->oi.apart ops oj=true) ->
   i∈Region.ready .any ops listed->du (oi.looksAt ops) 0 fr=du (oi.looksAt ops) 0 qc->YQ P ops i g qc Γ->(∀ p∈bc,YQ P ops p.1 p.2.1 p.2.2 Γ) ->
   qZ P ops Q n ((i,g,qc)::bc) (listed.setIfInBounds i true) (bJ fr oi.dst g) Γ->qZ P ops Q (n+1) bc listed fr Γ:=by
 have hd:mr ops i=oi.dst:=by simp [mr,hi]
 have YN:∀ {fr:List GV} {Γ:List Ob},du (oi.looksAt ops) 0 fr=du (oi.looksAt ops) 0 qc->YQ P ops i g qc Γ->YQ P ops i g fr Γ:=by
  rintro fr Γ hm ⟨o,c,F,I,h3⟩;rw [hi] at F;cases F;exact ⟨oi,c,hi,by rw [hm];exact I,by rw [hm];exact h3⟩
 have self:∀ (n:Nat) (bc:ml) (listed:Array Bool) (fr:List GV) (Γ:List Ob),du (oi.looksAt ops) 0 fr=du (oi.looksAt ops) 0 qc->YQ P ops i g qc Γ->(∀ p∈bc,YQ P ops p.1 p.2.1 p.2.2 Γ) ->
   qZ P ops Q n ((i,g,qc)::bc) (listed.setIfInBounds i true) (bJ fr oi.dst g) Γ ->
   GI P ops i (fun g aR=>(∀ p∈stay ops i bc,YQ P ops p.1 p.2.1 p.2.2 aR)/\qZ P ops Q n (stay ops i bc) (listed.setIfInBounds i true) (bJ fr (mr ops i) g) aR) fr Γ:=by
  intro n bc listed fr Γ tV hy hp H
  have cj:∀ p∈stay ops i bc,p∈bc:=fun p hp=>by simp only [stay,mem_filter] at hp;exact hp.1
  have H':qZ P ops Q n (stay ops i bc) (listed.setIfInBounds i true) (bJ fr (mr ops i) g) Γ:=by
   rw [hd];exact qZ.Th n _ _ _ _ _ (fun p hp=>dw _ (cj p hp)) H
  obtain ⟨o,c,F,I,h3⟩:=YN tV hy;rw [hi] at F;cases F
  have rW:gG ops.toList fr oi.guard=some c:=by
   obtain ⟨d',op,ty,pos,af,gd⟩:=oi
   cases gd with
   | none=>exact I
   | some gd =>
    obtain ⟨j,b⟩:=gd;simp only [gG] at I |-
    have hv:∀ x,oV ops.toList (du (Oper.looksAt ops ⟨d',op,ty,pos,af,some (j,b)⟩) 0 fr) j=some x->oV ops.toList fr j=some x:=by
     intro x hx;unfold oV at hx |-
     cases gD:jj ops.toList j with
     | false=>rw [gD] at hx;cases hx
     | true =>
      rw [gD] at hx
      cases hdt:(tQ ops.toList j).dst with
      | none=>rw [hdt] at hx;cases hx
      | some t =>
       rw [hdt] at hx;simp only at hx |-
       have vD:∀ (ts:List Nat) (fr:List GV) (k t:Nat),jj (du ts k fr) t=jj fr t:=by
        intro ts fr
        induction fr with
        | nil=>intro k t;rfl
        | cons x fr ih=>intro k t;cases t with | zero=>rfl | succ t=>exact ih (k+1) t
       have OO:∀ (ts:List Nat) (fr:List GV) (k t:Nat) ,cz (du ts k fr) t=cz fr t\/cz (du ts k fr) t=.U:=by
        intro ts fr
        induction fr with
        | nil=>intro k t;exact .inl rfl
        | cons x fr ih =>
         intro k t
         cases t with
         | zero=>simp only [du,cz];split <;> first | exact .inl rfl | exact .inr rfl
         | succ t=>exact ih (k+1) t
       rw [vD] at hx
       rcases OO (Oper.looksAt ops ⟨d',op,ty,pos,af,some (j,b)⟩) fr 0 t with h | h
       ·rw [h] at hx;exact hx
       ·rw [h] at hx
        split at hx <;> first | (rename_i h5;cases h5;done) | cases hx
    split at I
    ·rename_i c' hc;rw [hv _ hc];exact I
    ·rename_i hc;rw [hv _ hc];exact I
    ·cases I
  refine ⟨oi,c,hi,rW,?_⟩
  have lG:∀ p∈stay ops i bc,YQ P ops p.1 p.2.1 p.2.2 Γ:=fun p hq=>hp p (cj p hq)
  cases c with
  | true =>
   intro B K β w l hI hF;obtain ⟨v,hr,hv⟩:=h3 B K β w l hI (hF.mask 0)
   have ow:(execOp (ev l) oi).run P w=.ok (.value v) w:=by obtain ⟨d,op,ty,pos,af,gd⟩:=oi;exact hr d ty pos af
   unfold FE;rw [ow];exact ⟨K,β,g,Γ,dh.refl K,dX.refl β,hI,fun fr l hf=>hf.put _ hv,lG,H'⟩
  | false =>
   simp only at h3;subst h3;exact ⟨lG,H'⟩
 intro n
 induction n with
 | zero =>
  intro bc listed fr Γ _ hr tV hy hp H;refine ⟨fun h=>(by rw [h] at hr;cases hr),fun j hj=>?_⟩
  by_cases hji:j=i
  ·subst hji;exact self 0 bc listed fr Γ tV hy hp H
  ·have:=ready_mono hj hji;rw [H.1] at this;cases this
 | succ n ih =>
  intro bc listed fr Γ TG hr tV hy hp H;refine ⟨fun h=>(by rw [h] at hr;cases hr),fun j hj=>?_⟩
  by_cases hji:j=i
  ·subst hji;exact self (n+1) bc listed fr Γ tV hy hp H
  ·have F:=H.2 j (ready_mono hj hji);obtain ⟨Xk,oj,OV,aY⟩:=mem_ready.1 hj
   have Xu:∀ e∈oj.after,Region.binds .any e=true->e.on≠i:=fun e he hb heq=>by
    have F:=aY e he hb;have h0:=(mem_ready.1 hr).1;rw [heq] at F
    rcases Nat.lt_or_ge i listed.size with h' | h'
    ·simp [h'] at h0 F;rw [h0] at F;cases F
    ·simp [Array.getElem?_eq_none h'] at F
   have TA:=TG j oj OV hji Xk Xu;obtain ⟨a1,a2,a3⟩:=Oper.apart_spec TA
   have tW:waits ops j i=false:=by
    simp only [waits,OV];rw [Array.any_eq_false'];intro e he hb;simp only [aC,beq_iff_eq] at hb;exact Xu e he hb.1 hb.2
   have cj:stay ops j ((i,g,qc)::bc)=(i,g,qc)::stay ops j bc:=by
    simp [stay,List.filter_cons,tW]
   rw [cj] at F;have I:=GI.comm hi OV TA (fun cs b=>abp j oj cs b OV) (YN tV hy) F
   have hdj:mr ops j=oj.dst:=by simp [mr,OV]
   have Xd:∀ k ok,ops[k]?=some ok->k≠i->(listed.setIfInBounds j true).getD k true=false ->
     (∀ e∈ok.after,Region.binds .any e=true->e.on≠i)->oi.apart ops ok=true:=fun k ok hk dy hun da=>by
    refine TG k ok hk dy ?_ da
    by_cases hjk:j=k
    ·subst hjk;exact Xk
    ·rw [getD_set_ne true hjk] at hun;exact hun
   refine I.mono fun gj aR ⟨h3,h4⟩=>⟨fun p hp=>h3 p (dw _ hp),?_⟩
   refine ih (stay ops j bc) (listed.setIfInBounds j true) (bJ fr (mr ops j) gj) aR Xd (ready_mono hr (Ne.symm hji)) ?_ (h3 (i,g,qc) (mem_cons_self)) (fun p hp=>h3 p (dw _ hp)) ?_
   ·rw [<-tV,hdj];exact Sa a3 fr
   ·rw [Array.setIfInBounds_comm _ _ hji]
    have Zl:bJ (bJ fr (mr ops j) gj) oi.dst g=bJ (bJ fr oi.dst g) (mr ops j) gj:=by
     rw [hdj]
     cases hdi:oi.dst with
     | none=>rfl
     | some t =>
      cases hdj':oj.dst with
      | none=>rfl
      | some u =>
       have ct:t≠u:=fun e=>a2 t hdi (by rw [hdj',e])
       have gen:∀ (fr:List GV) (t u:Nat),t≠u->bp (bp fr u gj) t g=bp (bp fr t g) u gj:=by
        intro fr
        induction fr with
        | nil=>intro t u _;rfl
        | cons x fr ih =>
         intro t u h
         cases t with
         | zero=>cases u with | zero=>exact absurd rfl h | succ u=>rfl
         | succ t=>cases u with | zero=>rfl | succ u=>simp only [bp];rw [ih t u (fun e=>h (by rw [e]))]
       exact gen fr t u ct
    rw [Zl];exact h4
inductive Ot where
 | nil
 | q (i:Nat) (r:Ot)
 | a (i:Nat) (r:Ot)
 | f (i:Nat) (r:Ot) (j:Nat) (s:Ot)
def Ot.len:Ot->Nat
 | .nil=>0
 | .q _ r=>r.len+1
 | .a _ r=>r.len+1
 | .f _ r _ _=>r.len+1
def vb (ops:Array Oper):Ot->Array Bool->Bool
 | .nil,listed=>(Region.ready .any ops listed).isEmpty
 | .q i r,listed=>(Region.ready .any ops listed).contains i&&Region.free .any ops listed i&&vb ops r (listed.setIfInBounds i true)
 | .a i r,listed=>(Region.ready .any ops listed==[i])&&vb ops r (listed.setIfInBounds i true)
 | .f i r j s,listed=>(Region.ready .any ops listed==[i,j])&&vb ops r (listed.setIfInBounds i true)&&vb ops s (listed.setIfInBounds j true)&&(r.len==s.len)
def GO (P:Program) (ops:Array Oper) (Q:List GV->List Ob->Prop):Ot->ml->List GV->List Ob->Prop
 | .nil,_,fr,Γ=>Q fr Γ
 | .q i r,bc,fr,Γ=>∃ g,YQ P ops i g fr Γ/\GO P ops Q r ((i,g,fr)::bc) (bJ fr (mr ops i) g) Γ
 | .a i r,bc,fr,Γ=>GI P ops i (fun g aR=>(∀ p∈stay ops i bc,YQ P ops p.1 p.2.1 p.2.2 aR)/\GO P ops Q r (stay ops i bc) (bJ fr (mr ops i) g) aR) fr Γ
 | .f i r j s,bc,fr,Γ=>GI P ops i (fun g aR=>(∀ p∈stay ops i bc,YQ P ops p.1 p.2.1 p.2.2 aR)/\GO P ops Q r (stay ops i bc) (bJ fr (mr ops i) g) aR) fr Γ/\GI P ops j (fun g aR=>(∀ p∈stay ops j bc,YQ P ops p.1 p.2.1 p.2.2 aR)/\GO P ops Q s (stay ops j bc) (bJ fr (mr ops j) g) aR) fr Γ
theorem GO.fork {ops:Array Oper} {Q:List GV->List Ob->Prop} {i j:Nat} {r s:Ot} {bc:ml} {fr:List GV} {Γ:List Ob} (F:GO P ops Q (.a i r) bc fr Γ) (I:GO P ops Q (.a j s) bc fr Γ):GO P ops Q (.f i r j s) bc fr Γ:=⟨F,I⟩
theorem GO.all {ol:List Oper} {Q:List GV->List Ob->Prop} (hs:Region.noSelect ol.toArray=true):∀ (ord:Ot) (bc:ml) (listed:Array Bool) (fr:List GV) (Γ:List Ob),
  vb ol.toArray ord listed=true->(∀ p∈bc,YQ P ol.toArray p.1 p.2.1 p.2.2 Γ)->GO P ol.toArray Q ord bc fr Γ->qZ P ol.toArray Q ord.len bc listed fr Γ
 | .nil,bc,listed,fr,Γ,ho,_,h=>⟨by simpa [vb] using ho,h⟩
 | .q i r,bc,listed,fr,Γ,ho,hp,h=>by
  simp only [vb,aC] at ho;obtain ⟨⟨hr,hf⟩,ho⟩:=ho;obtain ⟨g,hy,h⟩:=h
  have D7:i∈Region.ready .any ol.toArray listed:=by simpa using hr
  obtain ⟨_,o,hi,_⟩:=mem_ready.1 D7
  have hd:mr ol.toArray i=o.dst:=by simp only [mr,hi];rfl
  rw [hd] at h
  exact qZ.first hi (Region.noSelect_spec hs) _ bc listed fr Γ (Region.free_spec hi hf) D7 rfl hy hp (GO.all hs r _ _ _ _ ho (fun p lG=>by
   rcases de lG with rfl | lG
   ·exact hy
   ·exact hp p lG) h)
 | .a i r,bc,listed,fr,Γ,ho,hp,h=>by
  simp only [vb,aC,beq_iff_eq] at ho;obtain ⟨hr,ho⟩:=ho;refine ⟨fun h0=>by rw [h0] at hr;simp at hr,fun j hj=>?_⟩;rw [hr,List.mem_singleton] at hj;subst hj
  exact GI.mono h fun g aR ⟨F,I⟩=>⟨F,GO.all hs r _ _ _ _ ho F I⟩
 | .f i r j s,bc,listed,fr,Γ,ho,hp,h=>by
  simp only [vb,aC,beq_iff_eq] at ho;obtain ⟨⟨⟨hr,ho1⟩,ho2⟩,hl⟩:=ho;refine ⟨fun h0=>by rw [h0] at hr;simp at hr,fun k hk=>?_⟩;rw [hr] at hk;simp only [List.mem_cons,List.not_mem_nil,or_false] at hk
  rcases hk with rfl | rfl
  ·exact GI.mono h.1 fun g aR ⟨F,I⟩=>⟨F,GO.all hs r _ _ _ _ ho1 F I⟩
  ·exact GI.mono h.2 fun g aR ⟨F,I⟩=>⟨F,by
    have:=GO.all hs s _ _ _ _ ho2 F I
    rw [<-hl] at this;exact this⟩
theorem GW.draw {m id:Nat} {ol:List Oper} {Q:dU} {fr:List GV} {Γ:List Ob} (ord:Ot) (hm:P.follows .mixedOrders=true)
  (fx:(Region.noSelect ol.toArray&&(ord.len==ol.length)&&vb ol.toArray ord (Array.replicate ol.toArray.size false))=true)
  (h:GO P ol.toArray (Q .normal) ord [] fr Γ):GW P m (.region id ol.toArray true) Q fr Γ:=fun B K β w l hB hI hF=>by
 simp only [aC,beq_iff_eq] at fx;obtain ⟨⟨hs,hl⟩,ho⟩:=fx;refine wp_region_any hm ?_;have F:=GO.all hs ord [] _ fr Γ ho (fun p hp=>by cases hp) h;rw [hl] at F;have I:=qZ.sound (Q':=Q) hB (fun fr Γ h=>h) _ _ _ _ _ K β w.drew l F (hI.same (Ext.drew w)) hF;simpa using I
end
def kR:List Oper->Nat->Option Oper
 | [],_=>none
 | o::_,0=>some o
 | _::r,n+1=>kR r n
theorem su {ol:List Oper} {i:Nat} {o:Oper} (h:kR ol i=some o):ol.toArray[i]?=some o:=by
 have:∀ (ol:List Oper) (i:Nat),kR ol i=ol[i]?:=by
  intro ol
  induction ol with
  | nil=>intro i;rfl
  | cons x ol ih=>intro i;cases i with | zero=>rfl | succ i=>simpa [kR] using ih i
 rw [this] at h;simpa using h
section
variable {P:Program} {Q:List GV->List Ob->Prop} {ol:List Oper} {r:Ot} {bc:ml} {fr:List GV} {Γ:List Ob} {i:Nat} {g:GV} {d:Option Tmp} {op:Op} {ty:TypeId} {pos:String} {af:Array Edge} {gd:Nat × Bool}
theorem wJ {o:Oper} (h:kR ol i=some o):mr ol.toArray i=o.dst:=by simp only [mr,su h];rfl
theorem GO.more {ops:Array Oper}:∀ (r:Ot) (bc eL:ml) (fr:List GV) (Γ:List Ob),(∀ p∈eL,p∈bc\/∀ Γ,YQ P ops p.1 p.2.1 p.2.2 Γ)->GO P ops Q r bc fr Γ->GO P ops Q r eL fr Γ
 | .nil,_,_,_,_,_,h=>h
 | .q i r,bc,eL,fr,Γ,hs,⟨g,F,I⟩=>⟨g,F,GO.more r _ _ _ _ (fun p hp=>by
   rcases de hp with rfl | hp
   ·exact .inl (mem_cons_self)
   ·exact (hs p hp).imp (dw _) id) I⟩
 | .a i r,bc,eL,fr,Γ,hs,h=>GI.mono h fun g aR ⟨F,I⟩=>by
   have pR:∀ p∈stay ops i eL,p∈stay ops i bc\/∀ Γ,YQ P ops p.1 p.2.1 p.2.2 Γ:=fun p hp=>by
    simp only [stay,mem_filter] at hp |-;exact (hs p hp.1).imp (fun h=>⟨h,hp.2⟩) id
   exact ⟨fun p hp=>(pR p hp).elim (F p) (fun h=>h aR),GO.more r _ _ _ _ pR I⟩
 | .f i r j s,bc,eL,fr,Γ,hs,h=>by
   have pR:∀ k,∀ p∈stay ops k eL,p∈stay ops k bc\/∀ Γ,YQ P ops p.1 p.2.1 p.2.2 Γ:=fun k p hp=>by
    simp only [stay,mem_filter] at hp |-;exact (hs p hp.1).imp (fun h=>⟨h,hp.2⟩) id
   exact ⟨GI.mono h.1 fun g aR ⟨F,I⟩=>⟨fun p hp=>(pR i p hp).elim (F p) (fun h=>h aR),GO.more r _ _ _ _ (pR i) I⟩,GI.mono h.2 fun g aR ⟨F,I⟩=>⟨fun p hp=>(pR j p hp).elim (F p) (fun h=>h aR),GO.more s _ _ _ _ (pR j) I⟩⟩
theorem GO.skip {ops:Array Oper} {x:Nat × GV × List GV} (hx:∀ Γ,YQ P ops x.1 x.2.1 x.2.2 Γ) (h:GO P ops Q r bc fr Γ):GO P ops Q r (x::bc) fr Γ:=by
 refine GO.more r bc _ fr Γ (fun p hp=>?_) h
 rcases de hp with he | hp
 ·subst he;exact .inr hx
 ·exact .inl hp
theorem GO.yq {o:Oper} (hi:kR ol i=some o) (hy:YQ P ol.toArray i g fr Γ) (h:GO P ol.toArray Q r ((i,g,fr)::bc) (bJ fr o.dst g) Γ):GO P ol.toArray Q (.q i r) bc fr Γ :=
 ⟨g,hy,by rw [wJ hi];exact h⟩
theorem GO.yp {o:Oper} (hi:kR ol i=some o) (hy:∀ Γ,YQ P ol.toArray i g fr Γ) (h:GO P ol.toArray Q r bc (bJ fr o.dst g) Γ):GO P ol.toArray Q (.q i r) bc fr Γ :=
 GO.yq hi (hy Γ) (GO.skip hy h)
theorem BN {c:Bool} {ops:List Oper} (hv:oV ops fr gd.1=some (some c)) (hc:c=gd.2):gG ops fr (some gd)=some true:=by
 obtain ⟨j,b⟩:=gd;simp only at hv hc;simp only [gG,hv,hc];simp
theorem D3 {c:Bool} {ops:List Oper} (hv:oV ops fr gd.1=some (some c)) (hc:c=!gd.2):gG ops fr (some gd)=some false:=by
 obtain ⟨j,b⟩:=gd;simp only at hv hc;simp only [gG,hv,hc];simp
theorem Wt {ops:List Oper} (hv:oV ops fr gd.1=some none):gG ops fr (some gd)=some false:=by
 obtain ⟨j,b⟩:=gd;simp only at hv;simp only [gG,hv]
theorem YQ.t {o:Oper} (hi:kR ol i=some o) (hg:gG ol (du (o.looksAt ol.toArray) 0 fr) o.guard=some true) (hy:YG P o.op (du (o.looksAt ol.toArray) 0 fr) Γ g):YQ P ol.toArray i g fr Γ:=⟨o,true,su hi,hg,hy⟩
theorem YQ.f {o:Oper} (hi:kR ol i=some o) (hg:gG ol (du (o.looksAt ol.toArray) 0 fr) o.guard=some false):YQ P ol.toArray i (.v undef) fr Γ:=⟨o,false,su hi,hg,rfl⟩
theorem OQ (hi:kR ol i=some ⟨d,op,ty,pos,af,none⟩) (hy:YG P op (du (Oper.looksAt ol.toArray ⟨d,op,ty,pos,af,none⟩) 0 fr) Γ g) (h:GO P ol.toArray Q r ((i,g,fr)::bc) (bJ fr d g) Γ):GO P ol.toArray Q (.q i r) bc fr Γ :=
 GO.yq hi (YQ.t hi rfl hy) h
theorem OP (hi:kR ol i=some ⟨d,op,ty,pos,af,none⟩) (hy:∀ Γ,YG P op (du (Oper.looksAt ol.toArray ⟨d,op,ty,pos,af,none⟩) 0 fr) Γ g) (h:GO P ol.toArray Q r bc (bJ fr d g) Γ):GO P ol.toArray Q (.q i r) bc fr Γ :=
 GO.yp hi (fun Γ=>YQ.t hi rfl (hy Γ)) h
theorem OQt {c:Bool} (hi:kR ol i=some ⟨d,op,ty,pos,af,some gd⟩) (hv:oV ol (du (Oper.looksAt ol.toArray ⟨d,op,ty,pos,af,some gd⟩) 0 fr) gd.1=some (some c)) (hc:c=gd.2) (hy:YG P op (du (Oper.looksAt ol.toArray ⟨d,op,ty,pos,af,some gd⟩) 0 fr) Γ g)
  (h:GO P ol.toArray Q r ((i,g,fr)::bc) (bJ fr d g) Γ):GO P ol.toArray Q (.q i r) bc fr Γ :=
 GO.yq hi (YQ.t hi (BN hv hc) hy) h
theorem OPt {c:Bool} (hi:kR ol i=some ⟨d,op,ty,pos,af,some gd⟩) (hv:oV ol (du (Oper.looksAt ol.toArray ⟨d,op,ty,pos,af,some gd⟩) 0 fr) gd.1=some (some c)) (hc:c=gd.2) (hy:∀ Γ,YG P op (du (Oper.looksAt ol.toArray ⟨d,op,ty,pos,af,some gd⟩) 0 fr) Γ g)
  (h:GO P ol.toArray Q r bc (bJ fr d g) Γ):GO P ol.toArray Q (.q i r) bc fr Γ :=
 GO.yp hi (fun Γ=>YQ.t hi (BN hv hc) (hy Γ)) h
theorem ONf {c:Bool} (hi:kR ol i=some ⟨d,op,ty,pos,af,some gd⟩) (hv:oV ol (du (Oper.looksAt ol.toArray ⟨d,op,ty,pos,af,some gd⟩) 0 fr) gd.1=some (some c)) (hc:c=!gd.2) (h:GO P ol.toArray Q r bc (bJ fr d (.v undef)) Γ):GO P ol.toArray Q (.q i r) bc fr Γ :=
 GO.yp hi (fun Γ=>YQ.f hi (D3 hv hc)) h
theorem ONu (hi:kR ol i=some ⟨d,op,ty,pos,af,some gd⟩) (hv:oV ol (du (Oper.looksAt ol.toArray ⟨d,op,ty,pos,af,some gd⟩) 0 fr) gd.1=some none) (h:GO P ol.toArray Q r bc (bJ fr d (.v undef)) Γ):GO P ol.toArray Q (.q i r) bc fr Γ :=
 GO.yp hi (fun Γ=>YQ.f hi (Wt hv)) h
theorem KK:∀ (fr:List GV) (ts:List Nat) (k t:Nat),k+t∈ts->cz (du ts k fr) t=cz fr t
 | [],_,_,_,_=>rfl
 | g::fr,ts,k,0,h=>by
  have hc:ts.contains k=true:=ij.2 (by simpa using h);simp only [du,hc,cz]
 | g::fr,ts,k,t+1,h=>by
  simp only [du,cz];exact KK fr ts (k+1) t (by rw [show k+1+t=k+(t+1) by omega];exact h)
theorem xc {o:Oper} {ops:Array Oper} {x:Operand} (h:x∈o.op.operands.toList):bb (du (o.looksAt ops) 0 fr) x=bb fr x:=by
 cases x with
 | tmp t =>
  refine KK fr _ 0 t ?_;rw [cI];refine List.mem_append_left _ (List.mem_filterMap.2 ⟨.tmp t,h,rfl⟩)
 | _=>rfl
theorem OPm {x:Operand} (hi:kR ol i=some ⟨d,.move x,ty,pos,af,none⟩) (h:GO P ol.toArray Q r bc (bJ fr d (bb fr x)) Γ):GO P ol.toArray Q (.q i r) bc fr Γ :=
 OP hi (fun Γ=>by
  have:=YG.mv (P:=P) (x:=x) (Γ:=Γ) (fr:=du (Oper.looksAt ol.toArray ⟨d,.move x,ty,pos,af,none⟩) 0 fr)
  rw [xc (by simp [Op.operands])] at this;exact this) h
theorem OPa {x:Operand} (hi:kR ol i=some ⟨d,.assign x,ty,pos,af,none⟩) (h:GO P ol.toArray Q r bc (bJ fr d (bb fr x)) Γ):GO P ol.toArray Q (.q i r) bc fr Γ :=
 OP hi (fun Γ=>by
  have:=YG.vr (P:=P) (x:=x) (Γ:=Γ) (fr:=du (Oper.looksAt ol.toArray ⟨d,.assign x,ty,pos,af,none⟩) 0 fr)
  rw [xc (by simp [Op.operands])] at this;exact this) h
theorem aaf {x:Operand} {c:Bool} (hi:kR ol i=some ⟨d,.move x,ty,pos,af,some gd⟩) (hv:oV ol (du (Oper.looksAt ol.toArray ⟨d,.move x,ty,pos,af,some gd⟩) 0 fr) gd.1=some (some c)) (hc:c=gd.2) (h:GO P ol.toArray Q r bc (bJ fr d (bb fr x)) Γ):GO P ol.toArray Q (.q i r) bc fr Γ :=
 OPt hi hv hc (fun Γ=>by
  have:=YG.mv (P:=P) (x:=x) (Γ:=Γ) (fr:=du (Oper.looksAt ol.toArray ⟨d,.move x,ty,pos,af,some gd⟩) 0 fr)
  rw [xc (by simp [Op.operands])] at this;exact this) h
theorem aae {c a b:Operand} {t:Bool} (hi:kR ol i=some ⟨d,.pick c a b,ty,pos,af,none⟩) (hc:bb (du (Oper.looksAt ol.toArray ⟨d,.pick c a b,ty,pos,af,none⟩) 0 fr) c=.v (.bool t)) (ht:t=true) (h:GO P ol.toArray Q r bc (bJ fr d (bb fr a)) Γ):GO P ol.toArray Q (.q i r) bc fr Γ :=
 OP hi (fun Γ=>by
  have:=YG.Ud (P:=P) (Γ:=Γ) (a:=a) (b:=b) hc ht
  rw [xc (by simp [Op.operands])] at this;exact this) h
theorem aad {c a b:Operand} {t:Bool} (hi:kR ol i=some ⟨d,.pick c a b,ty,pos,af,none⟩) (hc:bb (du (Oper.looksAt ol.toArray ⟨d,.pick c a b,ty,pos,af,none⟩) 0 fr) c=.v (.bool t)) (ht:t=false) (h:GO P ol.toArray Q r bc (bJ fr d (bb fr b)) Γ):GO P ol.toArray Q (.q i r) bc fr Γ :=
 OP hi (fun Γ=>by
  have:=YG.Uc (P:=P) (Γ:=Γ) (a:=a) (b:=b) hc ht
  rw [xc (by simp [Op.operands])] at this;exact this) h
inductive jg (P:Program) (ops:Array Oper) (i:Nat) (aR:List Ob):ml->ml->Prop
 | n:jg P ops i aR [] []
 | w {j:Nat} {g:GV} {qc:List GV} {bc eL:ml} (hw:waits ops i j=true) (h:jg P ops i aR bc eL):jg P ops i aR ((j,g,qc)::bc) eL
 | y {j:Nat} {g:GV} {qc:List GV} {bc eL:ml} (hy:YQ P ops j g qc aR) (h:jg P ops i aR bc eL):jg P ops i aR ((j,g,qc)::bc) ((j,g,qc)::eL)
theorem vU {ops:Array Oper} {q p:Nat × GV × List GV} (h:p∈stay ops i (q::bc)):(p=q/\waits ops i q.1=false)\/p∈stay ops i bc:=by
 simp only [stay,mem_filter] at h |-
 rcases de h.1 with he | lG
 ·subst he;exact .inl ⟨rfl,by simpa using h.2⟩
 ·exact .inr ⟨lG,h.2⟩
theorem jg.spec {ops:Array Oper} {aR:List Ob} {eL:ml} (h:jg P ops i aR bc eL):(∀ p∈stay ops i bc,YQ P ops p.1 p.2.1 p.2.2 aR)/\∀ p∈stay ops i bc,p∈eL:=by
 induction h with
 | n=>exact ⟨fun p hp=>(by cases hp),fun p hp=>(by cases hp)⟩
 | w hw h ih =>
  refine ⟨fun p hp=>?_,fun p hp=>?_⟩
  ·rcases vU hp with ⟨_,I⟩ | lG
   ·simp only at I;rw [hw] at I;cases I
   ·exact ih.1 p lG
  ·rcases vU hp with ⟨_,I⟩ | lG
   ·simp only at I;rw [hw] at I;cases I
   ·exact ih.2 p lG
 | y hy h ih =>
  refine ⟨fun p hp=>?_,fun p hp=>?_⟩
  ·rcases vU hp with ⟨he,_⟩ | lG
   ·subst he;exact hy
   ·exact ih.1 p lG
  ·rcases vU hp with ⟨he,_⟩ | lG
   ·subst he;exact mem_cons_self
   ·exact dw _ (ih.2 p lG)
def Wc (fr:List GV):Option Tmp->Bool
 | none=>true
 | some t=>jj fr t
def fv (P:Program) (Q:List GV->List Ob->Prop) (ol:List Oper) (i:Nat) (r:Ot) (bc:ml) (fr:List GV) (d:Option Tmp) (cJ:List GV) (aR:List Ob):Prop :=
 ∃ g eL,cJ=bJ fr d g/\jg P ol.toArray i aR bc eL/\GO P ol.toArray Q r eL (bJ fr d g) aR
theorem GA.of {o:Oper} {Kt:GV->List Ob->Prop} {R:List GV->List Ob->Prop} {ops:Array Oper} (hg:o.guard=none) (hd:Wc fr o.dst=true) (hR:∀ cJ aR,R cJ aR->∃ g,cJ=bJ fr o.dst g/\Kt g aR) (h:GL P Γ.length ops (be R (fun _ _ _=>False)) [o] fr Γ):GA P o Kt fr Γ:=fun B K β w l hI hF=>by
 have F:=h (cur K β Γ w) K β w l rfl hI.here hF;obtain ⟨d,op,ty,pos,af,gd⟩:=o;simp only at hg;subst hg;simp only at F hd;unfold WL wpList at F;rw [ab (by rfl)] at F
 rcases F with F | ⟨_,a0,w0,hf⟩
 ·rw [<-oN];refine YT F (fun c a w' hf=>?_) (fun a w' hf=>?_) ?_ ?_
  ·obtain ⟨l',_,_,_,_,_,_,_,hq⟩:=hf;exact hq
  ·obtain ⟨l',_,_,_,_,_,_,_,hq⟩:=hf;exact hq
  ·rintro v w' ⟨l',hl,K',bT,cJ,aR,bE,wQ,hq⟩;obtain ⟨g,rfl,hk⟩:=hR cJ aR hq;rw [qH] at hl
   have kL:put l d v=l':=by
    have:=congrArg (fun a:Act=>a.tmps.toList) hl;simpa [act] using this
   subst kL;refine ⟨K',bT,g,aR,bE.kle,bE.ble,hI.P0 bE,fun Of l2 I=>?_,hk⟩
   cases d with
   | none=>exact I
   | some t =>
    refine I.fV t ?_;have hv:=wQ.nth t;have h3:nth (put l (some t) v) t=v:=uv (n9 hF hd) v
    have h4:cz (bJ fr (some t) g) t=g:=by
     have gen:∀ (fr:List GV) (t:Nat),jj fr t=true->cz (bp fr t g) t=g:=by
      intro fr
      induction fr with
      | nil=>intro t h;cases h
      | cons x fr ih=>intro t h;cases t with | zero=>rfl | succ t=>exact ih t h
     exact gen fr t hd
    rw [h3,h4] at hv;exact hv
  ·rintro d' w' ⟨l',hl,_⟩;have:=congrArg (fun a:Act=>a.defers) hl
   cases d <;> simp [act,Act.put] at this
 ·obtain ⟨l',_,_,_,_,_,_,_,hq⟩:=hf;exact hq.elim
theorem fv.kt {cJ:List GV} {aR:List Ob} (h:fv P Q ol i r bc fr d cJ aR):∃ g,cJ=bJ fr d g/\((∀ p∈stay ol.toArray i bc,YQ P ol.toArray p.1 p.2.1 p.2.2 aR)/\GO P ol.toArray Q r (stay ol.toArray i bc) (bJ fr d g) aR):=by
 obtain ⟨g,eL,F,I,h3⟩:=h;obtain ⟨h4,h5⟩:=I.spec;exact ⟨g,F,h4,GO.more r _ _ _ _ (fun p hp=>.inl (h5 p hp)) h3⟩
theorem OA (hi:kR ol i=some ⟨d,op,ty,pos,af,none⟩) (hd:Wc fr d=true) (h:GL P Γ.length ol.toArray (be (fv P Q ol i r bc fr d) (fun _ _ _=>False)) [⟨d,op,ty,pos,af,none⟩] fr Γ):GO P ol.toArray Q (.a i r) bc fr Γ:=by
 refine ⟨_,true,su hi,rfl,?_⟩
 exact (GA.of (o:=⟨d,op,ty,pos,af,none⟩) rfl hd (fun cJ aR hq=>fv.kt hq) h).mono fun g aR ⟨F,I⟩=>⟨F,by rw [wJ hi];exact I⟩
theorem Ta {c:Bool} (hi:kR ol i=some ⟨d,op,ty,pos,af,some gd⟩) (hd:Wc fr d=true) (hv:oV ol fr gd.1=some (some c)) (hc:c=gd.2) (h:GL P Γ.length ol.toArray (be (fv P Q ol i r bc fr d) (fun _ _ _=>False)) [⟨d,op,ty,pos,af,none⟩] fr Γ):GO P ol.toArray Q (.a i r) bc fr Γ:=by
 refine ⟨_,true,su hi,BN hv hc,?_⟩
 have:=(GA.of (o:=⟨d,op,ty,pos,af,none⟩) rfl hd (fun cJ aR hq=>fv.kt hq) h).mono (Gn:=fun g aR=>(∀ p∈stay ol.toArray i bc,YQ P ol.toArray p.1 p.2.1 p.2.2 aR)/\GO P ol.toArray Q r (stay ol.toArray i bc) (bJ fr (mr ol.toArray i) g) aR) fun g aR ⟨F,I⟩=>⟨F,by rw [wJ hi];exact I⟩
 exact this
theorem OAf {c:Bool} {eL:ml} (hi:kR ol i=some ⟨d,op,ty,pos,af,some gd⟩) (hv:oV ol fr gd.1=some (some c)) (hc:c=!gd.2) (hs:jg P ol.toArray i Γ bc eL) (h:GO P ol.toArray Q r eL (bJ fr d (.v undef)) Γ):GO P ol.toArray Q (.a i r) bc fr Γ :=
 ⟨_,false,su hi,D3 hv hc,hs.spec.1,by rw [wJ hi];exact GO.more r _ _ _ _ (fun p hp=>.inl (hs.spec.2 p hp)) h⟩
theorem OAu {eL:ml} (hi:kR ol i=some ⟨d,op,ty,pos,af,some gd⟩) (hv:oV ol fr gd.1=some none) (hs:jg P ol.toArray i Γ bc eL) (h:GO P ol.toArray Q r eL (bJ fr d (.v undef)) Γ):GO P ol.toArray Q (.a i r) bc fr Γ :=
 ⟨_,false,su hi,Wt hv,hs.spec.1,by rw [wJ hi];exact GO.more r _ _ _ _ (fun p hp=>.inl (hs.spec.2 p hp)) h⟩
theorem GO.nil (h:Q fr Γ):GO P ol.toArray Q .nil bc fr Γ:=h
theorem fv.mk {eL:ml} (hs:jg P ol.toArray i Γ bc eL) {qc:List GV} (h:GO P ol.toArray Q r eL (bJ qc d g) Γ):fv P Q ol i r bc qc d (bJ qc d g) Γ:=⟨g,eL,rfl,hs,h⟩
theorem pS {ops:Array Oper} {cJ:List GV} {aR:List Ob} (F:fr=cJ) (I:Γ=aR) (h:GO P ops Q r bc cJ aR):GO P ops Q r bc fr Γ:=by subst F;subst I;exact h
theorem GON {ops:Array Oper} {cJ:List GV} (F:fr=cJ) (h:GO P ops Q r bc cJ Γ):GO P ops Q r bc fr Γ:=by subst F;exact h
end
theorem GW.range {P:Program} {m:Nat} {Q:dU} {fr:List GV} {Γ:List Ob} {B C r1 r2:Nat} {body:Code} {tb ti tn ta:Tmp} {T1 T2 T3 T4 T5 T6 T7:TypeId} {p1 p2 p3:String} {a1 a2 a3:Array Edge} (n:Nat) (acz:Nat->List GV->List Ob->Prop)
  (h0:AO m (acz 0) fr Γ) (hn:n<=1099511627776)
  (hI:∀ k fr Γ,acz k fr Γ->cz fr ti=.v (ii k)/\cz fr tn=.v (ii n)/\jj fr tb=true)
  (Zk:∀ k fr Γ,k < n->acz k fr Γ->GW P m body (bg C (be (fun cJ aR=>cz cJ ti=.v (ii k)/\jj cJ ta=true/\AO m (acz (k+1)) (bp (bp cJ ta (.v (ii ((k+1:Nat):Int)))) ti (.v (ii ((k+1:Nat):Int)))) aR) (bg B Q))) (bp fr tb (.v (.bool true))) Γ)
  (xU:∀ fr Γ,acz n fr Γ->Q .normal (bp fr tb (.v (.bool false))) Γ) :
  GW P m (.loop (.seq (.region r1 [(⟨some tb,.binOp .lss T1 (.tmp ti) (.tmp tn) T2,T3,p1,a1,none⟩:Oper)].toArray false) (.seq (.cond (.tmp tb) .skip (.exit B))
   (.seq (.block C body) (.region r2 [(⟨some ta,.binOp .add T4 (.tmp ti) (.const (.int .i64 1)) T5,T6,p2,a2,none⟩:Oper),⟨some ti,.move (.tmp ta),T7,p3,a3,none⟩].toArray false))))) (bg B Q) fr Γ:=by
 have A6:∀ (fr:List GV) (t:Nat) (g:GV),jj fr t=true->cz (bp fr t g) t=g:=by
  intro fr
  induction fr with
  | nil=>intro t g h;cases h
  | cons x fr ih=>intro t g h;cases t with | zero=>rfl | succ t=>exact ih t g h
 refine GW.loop (fun k:Nat=>n - k) (fun k fr Γ=>k<=n/\acz k fr Γ) 0 ?_ ?_
 ·obtain ⟨cJ,aR,hw,h⟩:=h0;exact ⟨cJ,aR,hw,aM _,h⟩
 rintro k fr Γ ⟨hk,hi⟩;obtain ⟨F,I,h3⟩:=hI k fr Γ hi;refine GW.seq (GW.region (GL.q (YG.go (v:=.bool (decide ((k:Int) < (n:Int)))) ?_) (GL.nil (ba ?_))))
 ·simp only [WB,Xw.go,bb,F,I,D5,LX,ii,MJ,LY]
 by_cases ak:k < n
 ·have hd:decide ((k:Int) < (n:Int))=true:=by simpa using ak
  simp only [bJ,hd];refine GW.seq (Nh (A6 fr tb _ h3) rfl (GW.skip (ba (GW.seq (GW.block ?_)))));refine GW.mono (Zk k fr Γ ak hi) ?_;intro e cJ aR hq;have key:∀ cJ aR,(cz cJ ti=.v (ii k)/\jj cJ ta=true/\AO m (acz (k+1)) (bp (bp cJ ta (.v (ii ((k+1:Nat):Int)))) ti (.v (ii ((k+1:Nat):Int)))) aR) ->
    GW P m (.region r2 [(⟨some ta,.binOp .add T4 (.tmp ti) (.const (.int .i64 1)) T5,T6,p2,a2,none⟩:Oper),⟨some ti,.move (.tmp ta),T7,p3,a3,none⟩].toArray false) (be (fun cJ aR=>∃ y:Nat,AO m (fun fr Γ=>y<=n/\acz y fr Γ) cJ aR/\n - y < n - k) (bg B Q)) cJ aR:=by
   rintro cJ aR ⟨h5,h6,Of,FY,hw,h7⟩;refine GW.region (GL.q (YG.vZ (a:=k) h5 rfl (by omega)) (GL.q YG.mv (GL.nil (ba ⟨k+1,⟨Of,FY,?_,ak,h7⟩,by omega⟩))));have h8:bb (bp cJ ta (.v (ii ((k+1:Nat):Int)))) (.tmp ta)=.v (ii ((k+1:Nat):Int)):=A6 cJ ta _ h6;simp only [bJ,h8];exact hw
  cases e with
  | normal=>exact key cJ aR hq
  | exit id =>
   simp only [bg] at hq |-;split <;> rename_i hh
   ·rw [ab hh] at hq;exact key cJ aR hq
   ·rw [L hh] at hq;exact hq
  | goto _=>exact hq
  | ret=>exact hq
  | panic _=>exact hq
  | outgrown=>exact hq
 ·have n8:k=n:=by omega
  have hd:decide ((k:Int) < (n:Int))=false:=by simpa using ak
  simp only [bJ,hd];refine GW.seq (Ng (A6 fr tb _ h3) rfl (GW.exit (GR (GR (J8 ?_)))));subst n8;exact xU fr Γ hi
def nY (g g':GV):Prop:=∀ K β x,Rel K β x g->Rel K β x g'
def lL (gs hs:List GV):Prop:=∀ K β vs,bq K β vs gs->bq K β vs hs
theorem nY.refl {g:GV}:nY g g:=fun _ _ _ h=>h
theorem nY.U {g:GV}:nY g .U:=fun _ _ _ _=>.U _
theorem nY.nil {k:Nat}:nY (.v (.slice none 0 0)) (.sl k []):=fun K β x h=>by
 rw [Rel.gk h];exact .sl0 _ _ _
theorem lL.nil:lL [] []:=fun _ _ _ h=>h
theorem lL.refl {gs:List GV}:lL gs gs:=fun _ _ _ h=>h
theorem lL.cons {g h:GV} {gs hs:List GV} (F:nY g h) (I:lL gs hs):lL (g::gs) (h::hs):=fun K β vs hv=>by
 cases vs with
 | nil=>have:=hv.1;simp at this
 | cons v vs=>obtain ⟨a,b⟩:=hv.qo;exact .cons (F K β v a) (I K β vs b)
theorem nY.agg {gs hs:List GV} (h:lL gs hs):nY (.agg gs) (.agg hs):=fun K β x hx=>by
 cases hx with
 | agg vs _ hl h'=>obtain ⟨a,b⟩:=h K β vs ⟨hl,h'⟩;exact .agg vs hs a b
theorem nY.tup {gs hs:List GV} (h:lL gs hs):nY (.tup gs) (.tup hs):=fun K β x hx=>by
 cases hx with
 | tup vs _ hl h'=>obtain ⟨a,b⟩:=h K β vs ⟨hl,h'⟩;exact .tup vs hs a b
inductive VY:List GV->List GV->Prop
 | nil:VY [] []
 | cons {f g:GV} {fs gs:List GV} (h:nY f g) (t:VY fs gs):VY (f::fs) (g::gs)
section
variable {P:Program} {m:Nat} {Q:dU} {fr:List GV} {Γ:List Ob} {ops:Array Oper} {rest:List Oper} {d:Option Tmp} {op:Op} {ty:TypeId} {pos:String} {af:Array Edge}
theorem Wk.cells (i:Nat) {E:TypeId} {cs ds:List GV} (hi:Γ[i]?=some (.box E cs)) (h:lL cs ds):Wk m fr Γ fr (oset Γ i (.box E ds)):=fun B K β w l _ hI hF=>by
 rw [aZ];refine ⟨K,β,⟨hI.ext,hI.kle,hI.ble,hI.loc,hI.fz,fun j x hj=>?_,fun j hj=>hI.out j (by simpa using hj),hI.dis,hI.own,hI.kn,hI.tab⟩,hF⟩;rw [dx] at hj;split at hj
 ·rename_i ir;split at hj
  ·cases hj;subst ir
   obtain ⟨b,vs,F,I,h3,h4⟩:=hI.ob i _ hi;exact ⟨b,vs,F,I,h K β vs h3,h4⟩
  ·cases hj
 ·exact hI.ob j x hj
theorem GL.F8 {f:FuncId} [hf:aJ P f] (aS:List Nat) {args:List Operand} {nq:Array TypeId} {gs:List GV} {jw:List Ob} {R:GV->List Ob->Prop} (hc:GC P f gs jw R) (ha:lL (args.map (bb fr)) (cV (cB aS Γ.length) gs)) (fx:jn aS Γ.length=true)
  (bM:seen (cB aS Γ.length) Γ aS jw) (h:∀ g aR,R g aR->aS.length<=aR.length/\GL P m ops Q rest (bJ fr d (eC (cB aS Γ.length) g)) (dG Γ aS (aR.map (Ob.eC (cB aS Γ.length))))) :
  GL P m ops Q (⟨d,.call ⟨.value (.func f),args.toArray,nq⟩,ty,pos,af,none⟩::rest) fr Γ :=
 GL.calls (vs:=fun l=>args.map (ev l)) (fun K β w l hF=>⟨ha K β _ (hF.args args),by simp [execOp,resolve,ev,Deferred.ofValue,invoke,ng]⟩) fx bM hc h
theorem GL.F9 {f:FuncId} [hf:aJ P f] (aS:List Nat) {args:List Operand} {nq:Array TypeId} {gs:List GV} {jw sQ:List Ob} {g:GV} (hc:GF P f gs jw g sQ) (ha:lL (args.map (bb fr)) (cV (cB aS Γ.length) gs)) (fx:jn aS Γ.length=true)
  (bM:seen (cB aS Γ.length) Γ aS jw) (hl:Nat.ble aS.length sQ.length=true) (h:GL P m ops Q rest (bJ fr d (eC (cB aS Γ.length) g)) (dG Γ aS (sQ.map (Ob.eC (cB aS Γ.length))))) :
  GL P m ops Q (⟨d,.call ⟨.value (.func f),args.toArray,nq⟩,ty,pos,af,none⟩::rest) fr Γ :=
 GL.F8 aS hc ha fx bM fun g' aR ⟨F,I⟩=>by subst F;subst I;exact ⟨by simpa using hl,h⟩
end
section
variable {P:Program} {fr:List GV} {Γ:List Ob} {g:GV}
theorem K.bin {o:BinOp} {t t':TypeId} {x y:Operand} (h:YG P (.binOp o t x y t') fr Γ g):YG P (.binOp o t x y t') fr Γ g:=h
theorem K.ld {t:TypeId} {x:Operand} (h:YG P (.load t x) fr Γ g):YG P (.load t x) fr Γ g:=h
theorem K.Wl {t:TypeId} {x:Operand} {i:Nat} (h:YG P (.fieldAddr t x i) fr Γ g):YG P (.fieldAddr t x i) fr Γ g:=h
theorem K.len {t:TypeId} {x:Operand} (h:YG P (.call ⟨.builtin .len,#[x],#[t]⟩) fr Γ g):YG P (.call ⟨.builtin .len,#[x],#[t]⟩) fr Γ g:=h
theorem K.nck {x:Operand} (h:YG P (.nilCheck x) fr Γ g):YG P (.nilCheck x) fr Γ g:=h
theorem K.idx {t:TypeId} {x y:Operand} (h:YG P (.indexAddr t x y) fr Γ g):YG P (.indexAddr t x y) fr Γ g:=h
theorem K.pick {a b c:Operand} (h:YG P (.pick a b c) fr Γ g):YG P (.pick a b c) fr Γ g:=h
theorem K.Is {t:TypeId} {x:Operand} {a b c:Option Operand} (h:YG P (.slice t x a b c) fr Γ g):YG P (.slice t x a b c) fr Γ g:=h
theorem K.Eh {f:Fn} {a b:Array Operand} (h:YG P (.makeFunc f a b) fr Γ g):YG P (.makeFunc f a b) fr Γ g:=h
end
section
variable {P:Program} {fn:Func} {m:Nat} {fr:List GV} {Γ aR:List Ob} {e:Exit} {g:GV}
theorem zd {R:GV->List Ob->Prop} (h:rl P fn m (fun x Δ=>∃ y,nY x y/\R y Δ) e fr Γ):rl P fn m R e fr Γ :=
 ⟨h.1,fun B K β w l hm hI hF=>by
  obtain ⟨v,K',bT,x,Δ,F,I,h3,y,h4,h5⟩:=h.2 B K β w l hm hI hF
  exact ⟨v,K',bT,y,Δ,F,I,h4 _ _ _ h3,h5⟩⟩
end
end Go.Xg
