/- Part 4 of proofs that are told in their last texts. -/
import Derived.WalkKit
import Derived.KernelRfl
import Derived.Orders
open List (all_cons eq_nil_of_length_eq_zero flatten_cons getElem?_append_left getElem?_drop getElem?_map getElem?_set getElem?_take length_cons map_nil map_toArray mem_cons_of_mem mem_cons_self mem_filter mem_of_getElem? size_toArray)
set_option linter.unusedVariables false
set_option linter.unusedSimpArgs false
set_option maxRecDepth 100000
namespace Go.Xw
open Go.RowKit
def nth:List Value->Nat->Value
 | [],_=>undef
 | v::_,0=>v
 | _::l,n+1=>nth l n
def eU:List Value->Nat->Value->List Value
 | [],_,_=>[]
 | _::l,0,v=>v::l
 | x::l,n+1,v=>x::eU l n v
def ev (l:List Value):Operand->Value
 | .tmp t=>nth l t
 | .const v=>v
 | .global g=>.pointer (some ⟨g,0,none⟩)
 | .func f=>.func (.func f) #[] #[]
def put (l:List Value) (d:Option Tmp) (v:Value):List Value :=
 match d with | some d=>eU l d v | none=>l
theorem jR (l:List Value) (t:Nat):l.toArray.getD t undef=nth l t:=by
 induction l generalizing t with
 | nil=>simp [nth]
 | cons x l ih =>
  cases t with
  | zero=>simp [nth]
  | succ t=>rw [nth,<-ih];simp [Array.getD]
theorem yf (l:List Value) (t:Nat) (v:Value):l.toArray.setIfInBounds t v=(eU l t v).toArray:=by
 have h:∀ (l:List Value) t,eU l t v=l.set t v:=by
  intro l
  induction l with
  | nil=>intro t;rfl
  | cons x l ih=>intro t;cases t with | zero=>rfl | succ t=>simp [eU,ih]
 rw [h];simp
def act (l:List Value):Act:=⟨l.toArray,[]⟩
theorem nt (l:List Value):(act l).eval=ev l:=by
 funext x;cases x <;> first | rfl | exact jR l _
theorem pe (l:List Value) (d:Option Tmp) (v:Value):(act l).put d v=act (put l d v):=by
 cases d with
 | none=>rfl
 | some d=>simp only [act,Act.put,put];rw [yf]
abbrev lp:=Exit->List Value->World->Prop
def lift (Q:lp):Exit->Act->World->Prop:=fun e a w=>∃ l,a=act l/\Q e l w
def W (P:Program) (c:Code) (Q:lp) (l:List Value) (w:World):Prop:=c.wp P (lift Q) (act l) w
def WL (P:Program) (ops:Array Oper) (Q:lp) (rest:List Oper) (l:List Value) (w:World):Prop :=
 wpList P ops (lift Q) rest (act l) w
def Yk (next:List Value->World->Prop) (Q:lp):lp
 | .normal,l,w=>next l w
 | e,l,w=>Q e l w
def Vk (id:Nat) (Q:lp):lp
 | .exit Bd,l,w=>if Bd=id then Q .normal l w else Q (.exit Bd) l w
 | e,l,w=>Q e l w
section
variable {P:Program} {Q:lp} {l:List Value} {w:World} {ops:Array Oper} {rest:List Oper}
theorem W.seq {x y:Code} (h:W P x (Yk (W P y Q) Q) l w):W P (.seq x y) Q l w:=by
 refine wp_seq (wp_mono h ?_);rintro e a w ⟨l,rfl,hq⟩
 cases e <;> first | exact hq | exact ⟨l,rfl,hq⟩
theorem W.skip (h:Q .normal l w):W P .skip Q l w:=wp_skip ⟨l,rfl,h⟩
theorem W.exit {n:Nat} (h:Q (.exit n) l w):W P (.exit n) Q l w:=wp_exit ⟨l,rfl,h⟩
theorem W.ret (h:Q .ret l w):W P .ret Q l w:=wp_ret ⟨l,rfl,h⟩
theorem W.block {id:Nat} {c:Code} (h:W P c (Vk id Q) l w):W P (.block id c) Q l w:=by
 refine wp_block (wp_mono h ?_);rintro e a w ⟨l,rfl,hq⟩
 cases e with
 | exit Bd =>
  simp only [Vk] at hq;simp only [Exit.inBlock];split <;> rename_i hh
  ·rw [if_pos hh] at hq;exact ⟨l,rfl,hq⟩
  ·rw [if_neg hh] at hq;exact ⟨l,rfl,hq⟩
 | normal=>exact ⟨l,rfl,hq⟩
 | goto _=>exact ⟨l,rfl,hq⟩
 | ret=>exact ⟨l,rfl,hq⟩
 | panic _=>exact ⟨l,rfl,hq⟩
 | outgrown=>exact ⟨l,rfl,hq⟩
theorem W.cond {c:Operand} {x y:Code} {t:Bool} (hc:ev l c=.bool t) (ht:t=true->W P x Q l w) (hf:t=false->W P y Q l w):W P (.cond c x y) Q l w:=by
 refine wp_cond_split (t:=t) (by rw [nt];exact hc) ht hf
theorem W.mono {c:Code} {Q':lp} (h:W P c Q l w) (hq:∀ e l w,Q e l w->Q' e l w):W P c Q' l w :=
 wp_mono h fun _ _ _ ⟨l,ha,q⟩=>⟨l,ha,hq _ _ _ q⟩
theorem W.loop {c:Code} {α:Type} (μ:α->Nat) (I:α->List Value->World->Prop) (x:α) (h0:I x l w)
  (round:∀ x l w,I x l w->W P c (Yk (fun l' w'=>∃ y,I y l' w'/\μ y < μ x) Q) l w):W P (.loop c) Q l w:=by
 have key:∀ n x l w,μ x=n->I x l w->∀ (b:Frame) (k:List Item) (cs:List Frame),
   ∃ e a' w',lift Q e a' w'/\Arrives P (lone (b.at (act l) (.code c::.inLoop c::k)) cs w) b k cs e a' w':=by
  intro n
  induction n using Nat.strongRecOn with
  | _ n ih =>
   intro x l w hn hI b k cs;obtain ⟨e,aag,CK,hq,xz⟩:=round x l w hI b (.inLoop c::k) cs;obtain ⟨Ck,rfl,hq⟩:=hq
   cases e with
   | normal =>
    obtain ⟨y,WC,ak⟩:=hq;obtain ⟨Yt,Yr,ZU,WN,SM⟩:=ih (μ y) (hn ▸ ak) y Ck CK rfl WC b k cs;exact ⟨Yt,Yr,ZU,WN,.of_steps (Steps.trans xz (.one step_inLoop)) SM⟩
   | exit id=>exact ⟨_,_,CK,⟨Ck,rfl,hq⟩,.pass (x:=.inLoop c) rfl (fun _ _=>.inl (by simp)) xz⟩
   | goto _=>exact ⟨_,_,CK,⟨Ck,rfl,hq⟩,.pass (x:=.inLoop c) rfl (fun _ _=>.inl (by simp)) xz⟩
   | ret=>exact ⟨_,_,CK,⟨Ck,rfl,hq⟩,.pass (x:=.inLoop c) rfl (fun _ _=>.inl (by simp)) xz⟩
   | panic ch=>exact ⟨_,_,CK,⟨Ck,rfl,hq⟩,.pass (x:=.inLoop c) rfl (fun _ _=>.inl (by simp)) xz⟩
   | outgrown=>exact ⟨_,_,CK,⟨Ck,rfl,hq⟩,.pass (x:=.inLoop c) rfl (fun _ _=>.inl (by simp)) xz⟩
 intro b k cs;obtain ⟨e,a',w',hq,xz⟩:=key _ x l w rfl h0 b k cs;exact ⟨e,a',w',hq,.of_steps (.one step_loop) xz⟩
theorem W.region {id:Nat} {ol:List Oper} (h:WL P ol.toArray Q ol l w):W P (.region id ol.toArray false) Q l w :=
 wp_region_lit h
theorem WL.nil (h:Q .normal l w):WL P ops Q [] l w:=⟨l,rfl,h⟩
theorem WL.val {d:Option Tmp} {op:Op} {ty:TypeId} {pos:String} {af:Array Edge} {v:Value} {w':World}
  (hr:(execOp (ev l) ⟨d,op,ty,pos,af,none⟩).run P w=.ok (.value v) w')
  (h:WL P ops Q rest (put l d v) w'):WL P ops Q (⟨d,op,ty,pos,af,none⟩::rest) l w:=by
 refine wpList_plain rfl fun K hK=>?_
 simp only [Oper.wp,nt,hr,Oper.upon_value,pe];exact hK _ _ h
theorem WL.skp {d:Option Tmp} {op:Op} {ty:TypeId} {pos:String} {af:Array Edge} {w':World}
  (hr:(execOp (ev l) ⟨d,op,ty,pos,af,none⟩).run P w=.ok .skip w')
  (h:WL P ops Q rest (put l d undef) w'):WL P ops Q (⟨d,op,ty,pos,af,none⟩::rest) l w:=by
 refine wpList_plain rfl fun K hK=>?_
 simp only [Oper.wp,nt,hr,Oper.upon_skip,pe];exact hK _ _ h
theorem WL.gt {d:Option Tmp} {op:Op} {ty:TypeId} {pos:String} {af:Array Edge} {g:Option (Nat × Bool)}
  (hw:Region.wanted ⟨d,op,ty,pos,af,g⟩ (yielded ops (act l).tmps)=true)
  (h:WL P ops Q (⟨d,op,ty,pos,af,none⟩::rest) l w):WL P ops Q (⟨d,op,ty,pos,af,g⟩::rest) l w:=by
 unfold WL wpList at *;rw [if_pos hw];rw [if_pos (by rfl)] at h;exact h
theorem WL.gf {d:Option Tmp} {op:Op} {ty:TypeId} {pos:String} {af:Array Edge} {g:Option (Nat × Bool)}
  (hw:Region.wanted ⟨d,op,ty,pos,af,g⟩ (yielded ops (act l).tmps)=false)
  (h:WL P ops Q rest (put l d undef) w):WL P ops Q (⟨d,op,ty,pos,af,g⟩::rest) l w:=by
 unfold WL wpList;rw [if_neg (by rw [hw];decide)];show wpList P ops (lift Q) rest ((act l).put d undef) w;rw [pe];exact h
end
section
variable {next:List Value->World->Prop} {Q:lp} {l:List Value} {w:World} {id Bd:Nat}
end
structure Ext (S:Nat->Prop) (w w':World):Prop where
 os:w'.os=w.os
 tape:w'.tape=w.tape
 output:w'.output=w.output
 size:w.heap.size<=w'.heap.size
 block:∀ k,k < w.heap.size->¬ S k->w'.heap[k]?=w.heap[k]?
abbrev gq:Nat->Prop:=fun _=>False
theorem Ext.refl {S:Nat->Prop} (w:World):Ext S w w:=⟨rfl,rfl,rfl,Nat.le_refl _,fun _ _ _=>rfl⟩
theorem Ext.trans {S:Nat->Prop} {a b c:World} (h:Ext S a b) (k:Ext S b c):Ext S a c :=
 ⟨k.os.trans h.os,k.tape.trans h.tape,k.output.trans h.output,Nat.le_trans h.size k.size,
  fun i hi hs=>(k.block i (Nat.lt_of_lt_of_le hi h.size) hs).trans (h.block i hi hs)⟩
theorem Ext.step {S0 S:Nat->Prop} {a b c:World} (h:Ext S0 a b) (k:Ext S b c) (hs:∀ j,S j->a.heap.size<=j\/S0 j):Ext S0 a c :=
 ⟨k.os.trans h.os,k.tape.trans h.tape,k.output.trans h.output,Nat.le_trans h.size k.size,
  fun i hi hn=>(k.block i (Nat.lt_of_lt_of_le hi h.size) fun U4=>by
   rcases hs i U4 with h1 | h1
   ·omega
   ·exact hn h1).trans (h.block i hi hn)⟩
theorem Ext.mono {S S':Nat->Prop} {a b:World} (h:Ext S a b) (hs:∀ k,k < a.heap.size->S k->S' k):Ext S' a b :=
 ⟨h.os,h.tape,h.output,h.size,fun i hi hn=>h.block i hi fun x=>hn (hs i hi x)⟩
theorem Ext.blk {S:Nat->Prop} {a b:World} (h:Ext S a b) {k:Nat} {o:Obj} (hv:a.heap[k]?=some o) (hs:¬ S k):b.heap[k]?=some o:=by
 rw [h.block k (by have:=(Array.getElem?_eq_some_iff.1 hv).1;exact this) hs,hv]
theorem rK {w:World} {k:Nat} {o:Obj} (hv:w.heap[k]?=some o):k < w.heap.size:=(Array.getElem?_eq_some_iff.1 hv).1
theorem LQ {w:World} {b o:Nat} {cs:Array Value} {E:TypeId} {fz:Nat × Nat} {v:Value} (hb:w.heap[b]?=some (.cells cs E fz)) (hv:cs[o]?=some v):w.cell? ⟨b,o,none⟩=some v:=by
 rw [cell_of_row w b o cs E fz hb,hv]
theorem Ext.below {a b:World} (h:Ext gq a b):Below a.heap.size a b:=⟨h.os,h.tape,h.output,h.size,fun k hk=>h.block k hk (fun x=>x)⟩
structure uL (w w':World) (b:Nat) (o:Obj):Prop where
 fresh:b=w.heap.size
 size:w'.heap.size=b+1
 blk:w'.heap[b]?=some o
 ext:Ext gq w w'
theorem uL.of (w:World) (o:Obj):uL w (w.alloc o) w.heap.size o :=
 ⟨rfl,by simp,heap_alloc_new w o,⟨rfl,rfl,rfl,by simp,fun k hk _=>Below.heap_alloc _ _ _ hk⟩⟩
def yj:TypeDesc->Bool
 | .struct _=>true
 | .array _ _=>true
 | _=>false
class Ty (P:Program) (t:TypeId) (agg:outParam Bool) (k:outParam Nat):Prop where
 und:(P.underlying t).map yj=some agg
 siz:(P.info? t).map (·.size)=some k
class mj (P:Program) (t:TypeId) (e:outParam TypeId) (k:outParam Nat):Prop where
 und:P.underlying t=some (.slice e)
 siz:(P.info? e).map (·.size)=some k
class pH (P:Program) (t:TypeId):Prop where
 und:P.underlying t=some .string
def JW (P:Program) (s:TypeId) (i:Nat) (off:Nat) (k:Nat) (agg:Bool):Bool :=
 match P.underlying s with
 | some (.struct fs)=>match fs[i]? with
  | some f=>f.offset==off&&(match P.info? f.type with | some x=>x.size==k | none=>false)&&k != 0&&((P.underlying f.type).map yj==some agg)
  | none=>false
 | _=>false
class dr (P:Program) (s:TypeId) (i:Nat) (off:outParam Nat) (k:outParam Nat) (agg:outParam Bool):Prop where
 is:JW P s i off k agg=true
section
variable {P:Program} {w:World}
theorem DL {t:TypeId} {agg:Bool} {k:Nat} [h:Ty P t agg k]:(isAgg t).run P w=.ok agg w:=by
 obtain ⟨hu,_⟩:=h
 cases hd:P.underlying t with
 | none=>simp [hd] at hu
 | some d =>
  rw [hd] at hu;unfold isAgg;rw [Sem.run_bind,run_underlying hd w]
  cases d <;> simp_all [yj]
theorem iJ {t:TypeId} {k:Nat} (h:(P.info? t).map (·.size)=some k):(sizeOf t).run P w=.ok k w:=by
 cases hq:P.info? t with
 | none=>simp [hq] at h
 | some i=>simp [hq] at h;simp [sizeOf,typeInfo,hq,h]
theorem pI (b o n:Nat):(⟨b,o,none⟩:Addr).add n=⟨b,o+n,none⟩:=by
 unfold Addr.add;split
 ·rename_i h;subst h;rfl
 ·rfl
theorem Gi {t:TypeId} [h:Ty P t false 1] {a:Addr} {v:Value} (hv:w.cell? a=some v):(loadVar t a).run P w=.ok v w:=by
 unfold loadVar;rw [Sem.run_bind,DL (agg:=false) (k:=1)];simp [hv]
theorem nH {t:TypeId} {k:Nat} [h:Ty P t true k] {b o:Nat} {vs:List Value} (hl:vs.length=k) (hv:∀ j v,vs[j]?=some v->w.cell? ⟨b,o+j,none⟩=some v) :
  (loadVar t ⟨b,o,none⟩).run P w=.ok (.agg vs.toArray) w:=by
 unfold loadVar;rw [Sem.run_bind,DL (agg:=true) (k:=k)]
 have hc:(loadCells ⟨b,o,none⟩ k).run P w=.ok vs.toArray w:=by
  rw [<-hl]
  exact run_loadCells_list w _ vs fun j v hj=>by rw [pI];exact hv j v hj
 simp [iJ h.siz,hc]
end
def ep (P:Program) (l:List Value) (w:World) (op:Op) (v:Value):Prop :=
 ∀ (d:Option Tmp) (ty:TypeId) (pos:String) (af:Array Edge),(execOp (ev l) ⟨d,op,ty,pos,af,none⟩).run P w=.ok (.value v) w
theorem WL.v {P:Program} {Q:lp} {l:List Value} {w:World} {ops:Array Oper} {rest:List Oper} {d:Option Tmp} {op:Op} {ty:TypeId} {pos:String} {af:Array Edge} {v:Value}
  (hr:ep P l w op v) (h:WL P ops Q rest (put l d v) w):WL P ops Q (⟨d,op,ty,pos,af,none⟩::rest) l w:=WL.val (hr d ty pos af) h
section
variable {P:Program} {l:List Value} {w:World}
theorem R.mv {x:Operand}:ep P l w (.move x) ((ev l x)):=fun d ty pos af=>by simp [execOp]
theorem R.tN {x:Operand}:ep P l w (.assign x) ((ev l x)):=fun d ty pos af=>by simp [execOp]
theorem R.pick {c a b:Operand} {t:Bool} (hc:ev l c=.bool t):ep P l w (.pick c a b) ((if t then ev l a else ev l b)):=fun d ty pos af=>by simp [execOp,hc,asBool]
theorem R.KH {x:Operand} {a:Addr} (hx:ev l x=.pointer (some a)):ep P l w (.nilCheck x) ((.pointer (some a))):=fun d ty pos af=>by simp [execOp,hx]
theorem R.extract {x:Operand} {i:Nat} {vs:Array Value} {v:Value} (hx:ev l x=.tuple vs) (hv:vs[i]?=some v):ep P l w (.extract x i) (v):=fun d ty pos af=>by simp [execOp,hx,Instr.extract,hv]
theorem R.Cm {fn:Fn} {first cap:Array Operand}:ep P l w (.makeFunc fn first cap) ((.func fn (first.map (ev l)) (cap.map (ev l)))):=fun d ty pos af=>by simp [execOp,Instr.makeFunc]
abbrev ah:=List UInt8
def sv (s:ah):Value:=.string ⟨s.toArray⟩
theorem toList_mk (s:ah):(⟨s.toArray⟩:ByteArray).toList=s:=by
 simp [ByteArray.toList_eq]
theorem vA (s:ah):(⟨s.toArray⟩:ByteArray).size=s.length:=by
 simp [ByteArray.size]
theorem Ei (b:ByteArray):Value.string b=sv b.data.toList:=by
 simp [sv]
theorem LP (a b:ah):(⟨a.toArray⟩:ByteArray)++⟨b.toArray⟩=⟨(a++b).toArray⟩:=by
 apply ByteArray.ext;simp
theorem extract_mk (s:ah) (i j:Nat):(⟨s.toArray⟩:ByteArray).extract i j=⟨((s.take j).drop i).toArray⟩:=by
 apply ByteArray.ext;simp [ByteArray.data_extract,List.take_drop]
 by_cases h:i<=j
 ·rw [Nat.add_sub_cancel' h]
 ·rw [List.drop_eq_nil_of_le (by simp;omega),List.drop_eq_nil_of_le (by simp;omega)]
theorem aae (x c:UInt8):((x.toNat:Int)==(c.toNat:Int))=(x==c):=by
 rw [Bool.eq_iff_iff];simp only [beq_iff_eq];constructor
 ·intro h;exact UInt8.toNat_inj.1 (by omega)
 ·rintro rfl;rfl
abbrev ii (n:Int):Value:=.int .i64 n
theorem CH {n:Int} (h1 : -9223372036854775808<=n) (h2:n<=9223372036854775807):IntKind.i64.wrap n=n:=IntWalk.i64_in _ ⟨h1,h2⟩
theorem R.P1 {x:Operand} {t:TypeId} [hT:pH P t] {s:ah} (hx:ev l x=sv s):ep P l w (.call ⟨.builtin .len,#[x],#[t]⟩) ((ii s.length)):=fun d ty pos af=>by simp [execOp,resolve,invoke,builtin,hx,sv,Builtin.len_,goInt,run_underlying hT.und,vA]
theorem R.Kw {x:Operand} {t e:TypeId} {k:Nat} [hT:mj P t e k] {a:Option Addr} {n c:Nat} (hx:ev l x=.slice a n c):ep P l w (.call ⟨.builtin .len,#[x],#[t]⟩) ((ii n)):=fun d ty pos af=>by simp [execOp,resolve,invoke,builtin,hx,Builtin.len_,goInt,run_underlying hT.und]
theorem R.add {x y:Operand} {t t':TypeId} {a b:Int} (hx:ev l x=ii a) (hy:ev l y=ii b) (h1 : -9223372036854775808<=a+b) (h2:a+b<=9223372036854775807):ep P l w (.binOp .add t x y t') ((ii (a+b))):=fun d ty pos af=>by simp [execOp,eqGuard,hx,hy,binOp,Op.intArith,CH h1 h2]
theorem R.sub {x y:Operand} {t t':TypeId} {a b:Int} (hx:ev l x=ii a) (hy:ev l y=ii b) (h1 : -9223372036854775808<=a - b) (h2:a - b<=9223372036854775807):ep P l w (.binOp .sub t x y t') ((ii (a - b))):=fun d ty pos af=>by simp [execOp,eqGuard,hx,hy,binOp,Op.intArith,CH h1 h2]
theorem R.mul {x y:Operand} {t t':TypeId} {a b:Int} (hx:ev l x=ii a) (hy:ev l y=ii b) (h1 : -9223372036854775808<=a * b) (h2:a * b<=9223372036854775807):ep P l w (.binOp .mul t x y t') ((ii (a * b))):=fun d ty pos af=>by simp [execOp,eqGuard,hx,hy,binOp,Op.intArith,CH h1 h2]
theorem R.cat {x y:Operand} {t t':TypeId} {a b:ah} (hx:ev l x=sv a) (hy:ev l y=sv b) (h1:a.length+b.length<=9223372036854775807):ep P l w (.binOp .add t x y t') ((sv (a++b))):=fun d ty pos af=>by
  have h2:¬ ((((⟨a.toArray⟩:ByteArray).size+(⟨b.toArray⟩:ByteArray).size:Nat):Int) > IntKind.i64.max):=by
   rw [vA,vA];simp [IntKind.max,IntKind.signed,IntKind.bits];omega
  simp only [execOp,eqGuard,hx,hy,binOp,sv,Op.stringOp,if_neg h2,LP];simp
theorem R.eq {x y:Operand} {t t':TypeId} {k:IntKind} {a b:Int} (hx:ev l x=.int k a) (hy:ev l y=.int k b):ep P l w (.binOp .eql t x y t') ((.bool (a==b))):=fun d ty pos af=>by simp [execOp,eqGuard,hx,hy,binOp,Op.intCmp]
theorem R.ne {x y:Operand} {t t':TypeId} {k:IntKind} {a b:Int} (hx:ev l x=.int k a) (hy:ev l y=.int k b):ep P l w (.binOp .neq t x y t') ((.bool (a != b))):=fun d ty pos af=>by simp [execOp,eqGuard,hx,hy,binOp,Op.intCmp]
theorem R.lt {x y:Operand} {t t':TypeId} {k:IntKind} {a b:Int} (hx:ev l x=.int k a) (hy:ev l y=.int k b):ep P l w (.binOp .lss t x y t') ((.bool (decide (a < b)))):=fun d ty pos af=>by simp [execOp,eqGuard,hx,hy,binOp,Op.intCmp]
theorem R.le {x y:Operand} {t t':TypeId} {k:IntKind} {a b:Int} (hx:ev l x=.int k a) (hy:ev l y=.int k b):ep P l w (.binOp .leq t x y t') ((.bool (decide (a<=b)))):=fun d ty pos af=>by simp [execOp,eqGuard,hx,hy,binOp,Op.intCmp]
theorem R.gt' {x y:Operand} {t t':TypeId} {k:IntKind} {a b:Int} (hx:ev l x=.int k a) (hy:ev l y=.int k b):ep P l w (.binOp .gtr t x y t') ((.bool (decide (b < a)))):=fun d ty pos af=>by simp [execOp,eqGuard,hx,hy,binOp,Op.intCmp]
theorem R.ge {x y:Operand} {t t':TypeId} {k:IntKind} {a b:Int} (hx:ev l x=.int k a) (hy:ev l y=.int k b):ep P l w (.binOp .geq t x y t') ((.bool (decide (b<=a)))):=fun d ty pos af=>by simp [execOp,eqGuard,hx,hy,binOp,Op.intCmp]
theorem R.AL {x y:Operand} {t t':TypeId} {a b:ah} (hx:ev l x=sv a) (hy:ev l y=sv b):ep P l w (.binOp .eql t x y t') ((.bool (a==b))):=fun d ty pos af=>by simp only [execOp,eqGuard,hx,hy,binOp,sv,Op.stringOp,toList_mk];simp
theorem R.Bm {x y:Operand} {t t':TypeId} {a b:ah} (hx:ev l x=sv a) (hy:ev l y=sv b):ep P l w (.binOp .neq t x y t') ((.bool (!(a==b)))):=fun d ty pos af=>by simp only [execOp,eqGuard,hx,hy,binOp,sv,Op.stringOp,toList_mk];simp
theorem R.not {x:Operand} {t:TypeId} {b:Bool} (hx:ev l x=.bool b):ep P l w (.unOp .not t x) ((.bool (!b))):=fun d ty pos af=>by simp [execOp,hx,Op.unary]
theorem R.qK {x y:Operand} {t:TypeId} [hT:pH P t] {s:ah} {k:IntKind} {i:Nat} {c:UInt8} (hx:ev l x=sv s) (hy:ev l y=.int k i) (hc:s[i]?=some c):ep P l w (.index t x y) ((.int .u8 c.toNat)):=fun d ty pos af=>by
  have hg:(⟨s.toArray⟩:ByteArray)[i]?=some c:=by
   obtain ⟨hi,hv⟩:=List.getElem?_eq_some_iff.1 hc
   have oE:i < (⟨s.toArray⟩:ByteArray).size:=by rw [vA];exact hi
   rw [getElem?_pos (⟨s.toArray⟩:ByteArray) i oE];simp only [ByteArray.getElem_eq_getElem_data];simpa using hv
  simp [execOp,Instr.index,hx,hy,asIntOf,run_underlying hT.und,sv,hg]
theorem R.Qx {x:Operand} {t:TypeId} [hT:pH P t] {s:ah} {lo hi:Option Operand} {i j:Nat} (hx:ev l x=sv s)
  (fX:match lo with | some y=>∃ k,ev l y=.int k i | none=>i=0) (oe:match hi with | some y=>∃ k,ev l y=.int k j | none=>j=s.length)
  (h1:i<=j) (h2:j<=s.length):ep P l w (.slice t x lo hi none) ((sv ((s.take j).drop i))):=fun d ty pos af=>by
  have cU:=vA s
  cases lo <;> cases hi <;> simp only at fX oe
  ·subst fX;subst oe;simp [execOp,Instr.sliceAt,Instr.slice,Instr.sliceBounds,hx,sv,run_underlying hT.und,cU,extract_mk]
  ·obtain ⟨k,hk⟩:=oe;subst fX;simp [execOp,Instr.sliceAt,Instr.slice,Instr.sliceBounds,Instr.sliceBound,asIntOf,hx,hk,sv,run_underlying hT.und,cU,extract_mk,h2]
  ·obtain ⟨k,hk⟩:=fX;subst oe;simp [execOp,Instr.sliceAt,Instr.slice,Instr.sliceBounds,Instr.sliceBound,asIntOf,hx,hk,sv,run_underlying hT.und,cU,extract_mk,h1]
  ·obtain ⟨k,hk⟩:=fX;obtain ⟨k',ly⟩:=oe;simp [execOp,Instr.sliceAt,Instr.slice,Instr.sliceBounds,Instr.sliceBound,asIntOf,hx,hk,ly,sv,run_underlying hT.und,cU,extract_mk,h1,h2]
theorem R.uD {x y:Operand} {t e:TypeId} {k:Nat} [hT:mj P t e k] {b o n c:Nat} {kk:IntKind} {i:Nat} (hx:ev l x=.slice (some ⟨b,o,none⟩) n c) (hy:ev l y=.int kk i) (hi:i < n):ep P l w (.indexAddr t x y) ((.pointer (some ⟨b,o+i * k,none⟩))):=fun d ty pos af=>by
  simp [execOp,Instr.indexAt,hx,hy,asIntOf,run_underlying hT.und,hi,iJ hT.siz,pI]
theorem R.Ph {x:Operand} {s:TypeId} {i off k:Nat} {agg:Bool} [hT:dr P s i off k agg] {b o:Nat} (hx:ev l x=.pointer (some ⟨b,o,none⟩)):ep P l w (.fieldAddr s x i) ((.pointer (some ⟨b,o+off,none⟩))):=fun d ty pos af=>by
  obtain ⟨hT⟩:=hT;unfold JW at hT;split at hT
  ·rename_i fs hu;split at hT
   ·rename_i f hf;simp only [Bool.and_eq_true,beq_iff_eq,bne_iff_ne,ne_eq] at hT;obtain ⟨⟨⟨h1,h2⟩,h3⟩,h4⟩:=hT;split at h2
    ·rename_i x hq
     have hs:(P.info? f.type).map (·.size)=some k:=by rw [hq];simpa using h2
     simp [execOp,Instr.fieldAt,hx,run_underlying hu,hf,Instr.sureAddr,fieldPlace,iJ hs,h3,pI,h1]
    ·cases h2
   ·cases hT
  ·cases hT
theorem R.ld1 {x:Operand} {t:TypeId} [hT:Ty P t false 1] {a:Addr} {v:Value} (hx:ev l x=.pointer (some a)) (hv:w.cell? a=some v):ep P l w (.load t x) (v):=fun d ty pos af=>by simp [execOp,Instr.loadAt,hx,Instr.sureAddr,Gi hv]
theorem R.ldN {x:Operand} {t:TypeId} {k:Nat} [hT:Ty P t true k] {b o:Nat} {vs:List Value} (hx:ev l x=.pointer (some ⟨b,o,none⟩)) (hl:vs.length=k)
  (hv:∀ j v,vs[j]?=some v->w.cell? ⟨b,o+j,none⟩=some v):ep P l w (.load t x) ((.agg vs.toArray)):=fun d ty pos af=>by simp [execOp,Instr.loadAt,hx,Instr.sureAddr,nH hl hv]
end
def fF (H:Array Obj) (b o:Nat):Option Value :=
 match H[b]? with
 | some (.cells c _ _)=>c[o]?
 | _=>none
theorem ff (w:World) (b o:Nat):w.cell? ⟨b,o,none⟩=fF w.heap b o:=by
 unfold World.cell? fF
 cases w.heap[b]? with
 | none=>rfl
 | some x=>cases x <;> rfl
theorem EG {H:Array Obj} {b o:Nat} {v:Value} (h:fF H b o=some v):b < H.size:=by
 unfold fF at h
 cases hb:H[b]? with
 | none=>rw [hb] at h;cases h
 | some x=>exact (Array.getElem?_eq_some_iff.1 hb).1
theorem Ext.c {S:Nat->Prop} {w w':World} (hx:Ext S w w') {b o:Nat} {v:Value} (h:fF w.heap b o=some v) (hs:¬ S b):fF w'.heap b o=some v:=by
 unfold fF at *;rw [hx.block b (EG (H:=w.heap) (by unfold fF;exact h)) hs];exact h
theorem vO {H:Array Obj} {b o:Nat} {cs:Array Value} {E:TypeId} {fz:Nat × Nat} {v:Value} (hb:H[b]?=some (.cells cs E fz)) (hv:cs[o]?=some v):fF H b o=some v:=by
 unfold fF;rw [hb];exact hv
theorem Ext.drew {S:Nat->Prop} (w:World):Ext S w w.drew:=⟨rfl,rfl,rfl,Nat.le_refl _,fun _ _ _=>rfl⟩
theorem R.ld {P:Program} {l:List Value} {w:World} {x:Operand} {t:TypeId} [hT:Ty P t false 1] {b o:Nat} {v:Value} (hx:ev l x=.pointer (some ⟨b,o,none⟩)) (hv:fF w.heap b o=some v):ep P l w (.load t x) v:=R.ld1 hx (by rw [ff];exact hv)
theorem R.Yh {P:Program} {l:List Value} {w:World} {x:Operand} {t:TypeId} {k:Nat} [hT:Ty P t true k] {b o:Nat} {vs:List Value} (hx:ev l x=.pointer (some ⟨b,o,none⟩)) (hl:vs.length=k)
  (hv:∀ j v,vs[j]?=some v->fF w.heap b (o+j)=some v):ep P l w (.load t x) (.agg vs.toArray):=R.ldN hx hl (fun j v h=>by rw [ff];exact hv j v h)
section
variable {H:Array Obj} {b o:Nat} {v0 v1 v2 v3 v4 v5:Value}
end
class qk (P:Program) (t:TypeId) (z:outParam Value):Prop where
 is:(P.info? t).bind (·.zero)=some z
structure tL (w w':World) (b:Nat) (cs:Array Value) (E:TypeId):Prop where
 blk:w'.heap[b]?=some (.cells cs E (0,0))
 ext:Ext (·=b) w w'
 size:w'.heap.size=w.heap.size
def uG (cs:Array Value) (o:Nat):List Value->Array Value
 | []=>cs
 | v::r=>uG (cs.setIfInBounds o v) (o+1) r
def lC (vs:List Value):Bool:=vs.all (·.oneCell')
section
variable {P:Program} {w:World}
theorem Ak {t:TypeId} {z:Value} [h:qk P t z]:(zeroValue t).run P w=.ok z w:=by
 obtain ⟨h⟩:=h
 cases hq:P.info? t with
 | none=>simp [hq] at h
 | some i=>simp [hq] at h;simp [zeroValue,typeInfo,hq,h]
theorem tL.refl {b:Nat} {cs:Array Value} {E:TypeId} (hb:w.heap[b]?=some (.cells cs E (0,0))):tL w w b cs E:=⟨hb,Ext.refl _,rfl⟩
theorem tL.trans {w1 w2:World} {b:Nat} {cs y9:Array Value} {E:TypeId} (h:tL w w1 b cs E) (k:tL w1 w2 b y9 E):tL w w2 b y9 E :=
 ⟨k.blk,h.ext.trans k.ext,k.size.trans h.size⟩
theorem tL.setCell {b o:Nat} {cs:Array Value} {E:TypeId} (hb:w.heap[b]?=some (.cells cs E (0,0))) (v:Value) :
  tL w (w.setCell ⟨b,o,none⟩ v) b (cs.setIfInBounds o v) E :=
 ⟨heap_setCell_same w b o cs E v hb,⟨rfl,rfl,rfl,by simp,fun k _ hs=>heap_setCell_other w _ k v hs⟩,by simp⟩
theorem vz {b o:Nat} {E:TypeId}:∀ (vs:List Value) (i:Nat) (w:World) (cs:Array Value),w.heap[b]?=some (.cells cs E (0,0))->o+i+vs.length<=cs.size->lC vs=true ->
  ∃ w',(storeCells ⟨b,o,none⟩ vs i).run P w=.ok () w'/\tL w w' b (uG cs (o+i) vs) E
 | [],i,w,cs,hb,_,_=>⟨w,by simp [storeCells],tL.refl hb⟩
 | v::r,i,w,cs,hb,hl,h1=>by
  simp only [lC,all_cons,Bool.and_eq_true] at h1;simp only [length_cons] at hl;have hs:=tL.setCell (w:=w) (o:=o+i) hb v;obtain ⟨w',hr,cq⟩:=vz (b:=b) (o:=o) (E:=E) r (i+1) _ _ hs.blk (by simp;omega) h1.2;refine ⟨w',?_,hs.trans (by simpa [uG,Nat.add_assoc] using cq)⟩;have hc:w.cell? ⟨b,o+i,none⟩=cs[o+i]?:=cell_of_row w b (o+i) cs E (0,0) hb;have du:∃ u,w.cell? ⟨b,o+i,none⟩=some u:=⟨cs[o+i]'(by omega),by rw [hc];simp⟩;obtain ⟨u,hu⟩:=du;have hf:w.frozen? ⟨b,o+i,none⟩=false:=frozen_of_row w b _ cs E hb
  have Zw:(store ((⟨b,o,none⟩:Addr).add i) v).run P w=.ok () (w.setCell ⟨b,o+i,none⟩ v):=by
   rw [pI]
   cases v <;> first | (simp [Value.oneCell'] at h1;done) | simp [store,Sem.run,hu,hf]
  simp only [storeCells,Sem.run_bind,Zw,Result.andThen_ok,hr]
theorem Gj {t:TypeId} {agg:Bool} {k:Nat} [hT:Ty P t agg k] {b o:Nat} {E:TypeId} {cs:Array Value} {v:Value} (hb:w.heap[b]?=some (.cells cs E (0,0)))
  (hl:v.cells.size=k) (ho:o+k<=cs.size) (h1:lC v.cells.toList=true) :
  ∃ w',(storeVar t ⟨b,o,none⟩ v).run P w=.ok () w'/\tL w w' b (uG cs o v.cells.toList) E:=by
 obtain ⟨w',hr,hs⟩:=vz (P:=P) (o:=o) v.cells.toList 0 w cs hb (by simp;omega) h1;refine ⟨w',?_,by simpa using hs⟩;simp [storeVar,iJ hT.siz,hl,hr]
end
def gM:List Value->Nat->List Value->List Value
 | cs,_,[]=>cs
 | cs,o,v::r=>gM (eU cs o v) (o+1) r
def pN (pl:Nat->Option (Nat × Nat)):List Value->List (Nat × Value)->Option (List Value)
 | cs,[]=>some cs
 | cs,(i,v)::r=>match pl i with
  | none=>none
  | some (o,k)=>if v.cells.size≠k || decide (o+v.cells.size > cs.length) then none else pN pl (gM cs o v.cells.toList) r
theorem An:∀ (vs:List Value) (cs:List Value) (o:Nat),(gM cs o vs).length=cs.length
 | [],_,_=>rfl
 | v::r,cs,o=>by
  rw [gM,An r];have:=congrArg Array.size (yf cs o v);simpa using this.symm
theorem AN:∀ (vs:List Value) (cs:List Value) (o n:Nat),
  (vs.zipIdx n).foldl (fun (cs:Array Value) (x:Value × Nat)=>cs.setIfInBounds (o+x.2) x.1) cs.toArray=(gM cs (o+n) vs).toArray
 | [],cs,o,n=>by simp [gM]
 | v::r,cs,o,n=>by
  simp only [List.zipIdx_cons,List.foldl_cons,yf,gM];rw [AN r];rfl
theorem xq (pl:Nat->Option (Nat × Nat)):∀ (parts:List (Nat × Value)) (cs:List Value),
  Instr.fill pl cs.toArray parts=(pN pl cs parts).map List.toArray
 | [],cs=>by simp [Instr.fill,pN]
 | (i,v)::r,cs=>by
  simp only [Instr.fill,pN]
  cases hp:pl i with
  | none=>rfl
  | some x =>
   obtain ⟨o,k⟩:=x;simp only [size_toArray];split
   ·rfl
   ·have h:(v.cells.zipIdx.foldl (fun (cs:Array Value) (x:Value × Nat)=>cs.setIfInBounds (o+x.2) x.1) cs.toArray)=(gM cs o v.cells.toList).toArray:=by
     have:=AN v.cells.toList cs o 0;rw [<-Array.foldl_toList,Array.toList_zipIdx];exact this
    have h2:=xq pl r (gM cs o v.cells.toList);rw [<-h2,<-h]
def RV (P:Program) (t:TypeId) (pl:List (Nat × Nat)):Bool :=
 match P.underlying t with
 | some (.struct fs)=>(fs.toList.map fun f=>(f.offset,(P.info? f.type).map (·.size)))==pl.map fun x=>(x.1,some x.2)
 | _=>false
class tK (P:Program) (t:TypeId) (pl:outParam (List (Nat × Nat))) (z:outParam (List Value)):Prop where
 is:RV P t pl=true
 zero:(P.info? t).bind (·.zero)=some (.agg z.toArray)
section
variable {P:Program} {w:World}
theorem Bw {fs:List Field}:∀ {pl:List (Nat × Nat)},(fs.map fun f=>(f.offset,(P.info? f.type).map (·.size)))=(pl.map fun x=>(x.1,some x.2)) ->
  (List.mapM (m:=Sem) (fun (f:Field)=>Functor.map (Prod.mk f.offset) (sizeOf f.type)) fs).run P w=.ok pl w:=by
 induction fs with
 | nil=>intro pl h;cases pl with | nil=>simp | cons=>simp at h
 | cons f fs ih =>
  intro pl h
  cases pl with
  | nil=>simp at h
  | cons x pl =>
   simp only [List.map_cons,List.cons.injEq,Prod.mk.injEq] at h;obtain ⟨⟨h1,h2⟩,h3⟩:=h;have:=ih h3;have h5:=iJ (w:=w) h2;simp [List.mapM_cons,Sem.run_bind,h5,this,h1]
theorem run_build {t:TypeId} {pl:List (Nat × Nat)} {z:List Value} [hT:tK P t pl z] {parts:List (Nat × Value)} {cs:List Value} (hf:pN (fun i=>pl[i]?) z parts=some cs) :
  (Instr.build t parts.toArray).run P w=.ok (.agg cs.toArray) w:=by
 obtain ⟨hi,hz⟩:=hT
 have hzz:(zeroValue t).run P w=.ok (.agg z.toArray) w:=by
  haveI:qk P t (.agg z.toArray):=⟨hz⟩
  exact Ak
 unfold RV at hi;split at hi
 ·rename_i fs hu;have hm:=Bw (P:=P) (w:=w) (eq_of_beq hi)
  have kz:(Array.mapM (m:=Sem) (fun (f:Field)=>Functor.map (Prod.mk f.offset) (sizeOf f.type)) fs).run P w=.ok pl.toArray w:=by
   rw [Array.mapM_eq_mapM_toList];simp [hm]
  have jL:=xq (fun i=>pl[i]?) parts z;rw [hf] at jL;simp [Instr.build,Sem.run_bind,hzz,run_underlying hu,kz,Value.cells];simp [jL]
 ·cases hi
end
section
variable {P:Program} {Q:lp} {l:List Value} {w:World} {ops:Array Oper} {rest:List Oper} {d:Option Tmp} {ty:TypeId} {pos:String} {af:Array Edge}
theorem Bx (t:TypeId) (v:Value):(newVar t v).run P w=.ok ⟨w.heap.size,0,none⟩ (w.alloc (.cells v.cells t)):=by
 rfl
theorem WL.alloc {t:TypeId} {z:Value} [hT:qk P t z] (h:∀ b w',uL w w' b (.cells z.cells t)->WL P ops Q rest (put l d (.pointer (some ⟨b,0,none⟩))) w') :
  WL P ops Q (⟨d,.alloc t,ty,pos,af,none⟩::rest) l w :=
 WL.val (w':=w.alloc (.cells z.cells t)) (by simp [execOp,Instr.alloc,Ak (w:=w) (z:=z),Bx]) (h _ _ (uL.of w _))
theorem WL.box {t:TypeId} {x:Operand} {v:Value} (hx:ev l x=v) (h:∀ b w',uL w w' b (.cells v.cells t)->WL P ops Q rest (put l d (.pointer (some ⟨b,0,none⟩))) w') :
  WL P ops Q (⟨d,.box t x,ty,pos,af,none⟩::rest) l w :=
 WL.val (w':=w.alloc (.cells v.cells t)) (by simp [execOp,Instr.box,Bx,hx]) (h _ _ (uL.of w _))
theorem R.build {t:TypeId} {pl:List (Nat × Nat)} {z:List Value} [hT:tK P t pl z] {parts:List (Nat × Operand)} {cs:List Value}
  (hf:pN (fun i=>pl[i]?) z (parts.map fun x=>(x.1,ev l x.2))=some cs):ep P l w (.build t parts.toArray) (.agg cs.toArray):=fun d ty pos af=>by
  have hr:=run_build (P:=P) (w:=w) (t:=t) hf;simp only [execOp,map_toArray];simp [hr]
class pd (P:Program) (t:TypeId) (e:outParam TypeId) (k:outParam Nat) (z:outParam (List Value)):Prop where
 und:P.underlying t=some (.slice e)
 siz:(P.info? e).map (·.size)=some k
 zero:(P.info? e).bind (·.zero)=some (if k=1 then z.headD undef else .agg z.toArray)
 zl:z.length=k
 pos:0 < k
 one:k=1->(z.headD undef).cells=#[z.headD undef]
theorem pd.cells {t e:TypeId} {k:Nat} {z:List Value} (h:pd P t e k z):(if k=1 then z.headD undef else .agg z.toArray).cells=z.toArray:=by
 split
 ·rename_i hk;rw [h.one hk];have:=h.zl;rw [hk] at this
  match z,this with
  | [a],_=>rfl
 ·rfl
theorem WL.Cn {t e:TypeId} {k:Nat} {z:List Value} [hT:pd P t e k z] {n:Nat} {parts:List (Nat × Operand)} {cs:List Value} (hn:n * k<=16777216)
  (hf:pN (fun i=>some (i * k,k)) ((List.range (n * k)).map fun j=>z.getD (j % k) undef) (parts.map fun x=>(x.1,ev l x.2))=some cs)
  (h:∀ b w',uL w w' b (.cells cs.toArray e)->WL P ops Q rest (put l d (.slice (some ⟨b,0,none⟩) n n)) w') :
  WL P ops Q (⟨d,.buildSlice t n parts.toArray,ty,pos,af,none⟩::rest) l w :=
 WL.val (w':=w.alloc (.cells cs.toArray e)) (by
  have hz:(zeroValue e).run P w=.ok (if k=1 then z.headD undef else .agg z.toArray) w:=by
   haveI:qk P e (if k=1 then z.headD undef else .agg z.toArray):=⟨hT.zero⟩
   exact Ak
  have hc:=hT.cells;generalize (if k=1 then z.headD undef else .agg z.toArray:Value)=zv at hz hc;have jL:=xq (fun i=>some (i * k,k)) (parts.map fun x=>(x.1,ev l x.2)) ((List.range (n * k)).map fun j=>z.getD (j % k) undef);rw [hf] at jL
  have A5:¬ (16777216 < n * k):=by omega
  by_cases h0:n * k=0
  ·have h00:n=0:=by
    rcases Nat.mul_eq_zero.1 h0 with h | h
    ·exact h
    ·have:=hT.pos;omega
   subst h00;simp only [Nat.zero_mul,List.range_zero,map_nil] at jL;simp only [execOp,map_toArray];have oI:(Array.range 0)=#[]:=rfl;simp [Instr.buildSlice,run_underlying hT.und,iJ hT.siz,oI,jL];rfl
  ·have he:(Array.range (n * k)).map (fun j=>z.toArray[j % z.toArray.size]!)=((List.range (n * k)).map fun j=>z.getD (j % k) undef).toArray:=by
    apply Array.ext';simp only [Array.toList_map,Array.toList_range];apply List.map_congr_left;intro j _;have hk:=hT.pos
    have ak:j % k < z.length:=by rw [hT.zl];exact Nat.mod_lt _ hk
    rw [List.getD_eq_getElem?_getD,List.getElem?_eq_getElem ak];simp [hT.zl];rw [List.getElem?_eq_getElem ak];rfl
   rw [<-he] at jL;simp only [execOp,map_toArray];simp [Instr.buildSlice,run_underlying hT.und,iJ hT.siz,A5,h0,hz,hc];simp only [size_toArray] at jL;simp at jL;simp [jL]
   rfl) (h _ _ (uL.of w _))
theorem WL.st {x y:Operand} {t:TypeId} {agg:Bool} {k:Nat} [hT:Ty P t agg k] {b o:Nat} {E:TypeId} {cs:Array Value} {v:Value} (hx:ev l x=.pointer (some ⟨b,o,none⟩)) (hy:ev l y=v)
  (hb:w.heap[b]?=some (.cells cs E (0,0))) (hl:v.cells.size=k) (ho:o+k<=cs.size) (h1:lC v.cells.toList=true)
  (h:∀ w',tL w w' b (uG cs o v.cells.toList) E->WL P ops Q rest (put l d undef) w'):WL P ops Q (⟨d,.store t x y,ty,pos,af,none⟩::rest) l w:=by
 obtain ⟨w',hr,hs⟩:=Gj (P:=P) (t:=t) hb hl ho h1;exact WL.skp (w':=w') (by simp [execOp,Instr.storeAt,hx,hy,Instr.sureAddr,hr]) (h w' hs)
end
def EK (P:Program) (f:FuncId):Bool :=
 match P.funcs[f]? with
 | some fn=>fn.name != "runtime.NumGoroutine" && fn.body.isSome
 | none=>false
class aH (P:Program) (f:FuncId):Prop where
 ok:EK P f=true
def mi (P:Program) (f:FuncId) (args:List Value) (w:World) (R:Value->World->Prop):Prop :=
 Calls P f args.toArray w fun e w'=>∃ v,e=.returned v/\R v w'
theorem mi.mono {P:Program} {f:FuncId} {args:List Value} {w:World} {R R':Value->World->Prop} (h:mi P f args w R) (hr:∀ v w',R v w'->R' v w'):mi P f args w R' :=
 Calls.mono h fun _ _ ⟨v,he,r⟩=>⟨v,he,hr _ _ r⟩
theorem lG {P:Program} {w:World} {f:FuncId} [h:aH P f] (args:Array Value):(callFunc f args).run P w=.ok (.enter f args) w:=by
 obtain ⟨h⟩:=h;unfold EK at h;split at h
 ·rename_i fn hf;simp only [Bool.and_eq_true,bne_iff_ne,ne_eq] at h
  have h2:fn.body.isNone=false:=by cases hb:fn.body <;> simp_all
  simp [callFunc,program,Sem.run,hf,h.1,h2];intro hn;simp [hn] at h2
 ·cases h
section
variable {P:Program} {Q:lp} {l:List Value} {w:World} {ops:Array Oper} {rest:List Oper} {d:Option Tmp} {ty:TypeId} {pos:String} {af:Array Edge}
theorem WL.calls {op:Op} {f:FuncId} {BP:List Value} (hr:(execOp (ev l) ⟨d,op,ty,pos,af,none⟩).run P w=.ok (.enter f BP.toArray) w) {R:Value->World->Prop}
  (hc:mi P f BP w R) (h:∀ v w',R v w'->WL P ops Q rest (put l d v) w'):WL P ops Q (⟨d,op,ty,pos,af,none⟩::rest) l w:=by
 refine wpList_plain rfl fun K hK=>?_
 simp only [Oper.wp,nt,hr,Oper.upon_enter];refine Calls.mono hc ?_;rintro e w' ⟨v,rfl,hv⟩;simp only [pe];exact hK _ _ (h v w' hv)
theorem WL.call {f:FuncId} [hf:aH P f] {args:List Operand} {mI:Array TypeId} {BP:List Value} (ha:args.map (ev l)=BP) {R:Value->World->Prop}
  (hc:mi P f BP w R) (h:∀ v w',R v w'->WL P ops Q rest (put l d v) w'):WL P ops Q (⟨d,.call ⟨.value (.func f),args.toArray,mI⟩,ty,pos,af,none⟩::rest) l w :=
 WL.calls (by simp [execOp,resolve,ev,Deferred.ofValue,invoke,lG,ha]) hc h
end
def Gd:Nat->List Value
 | 0=>[]
 | n+1=>undef::Gd n
def frame:List Value->Nat->List Value
 | [],n=>Gd n
 | a::r,n=>a::frame r (n - 1)
theorem VL (n:Nat):Gd n=List.replicate n undef:=by
 induction n with
 | zero=>rfl
 | succ n ih=>rw [Gd,ih];rfl
theorem Pm (args:List Value) (n:Nat):frame args n=args++List.replicate (n - args.length) undef:=by
 induction args generalizing n with
 | nil=>simp [frame,VL]
 | cons a r ih=>rw [frame,ih];simp [Nat.sub_sub,Nat.add_comm]
def QZ (P:Program) (fn:Func) (R:Value->World->Prop):lp
 | .normal,l,w | .ret,l,w=>∃ v,(results fn l.toArray).run P w=.ok v w/\R v w
 | _,_,_=>False
theorem mi.enter {P:Program} {f:FuncId} {fn:Func} {c:Code} {args:List Value} {w:World} {R:Value->World->Prop} {n:Nat} {l:List Value}
  (hf:P.funcs[f]?=some fn) (hn:fn.ntmps=n) (hb:fn.body=some c) (hl:frame args n=l) (h:W P c (QZ P fn R) l w):mi P f args w R:=by
 subst hl;refine calls_of_wp hf hb ?_
 have tV:(args.toArray++Array.replicate (fn.ntmps - args.toArray.size) undef)=(frame args n).toArray:=by
  simp [Pm,hn]
 rw [tV];refine wp_mono h ?_;rintro e a w ⟨l,rfl,hq⟩
 cases e <;> simp only [QZ] at hq <;> simp only [bodyPost]
 ·obtain ⟨v,hr,hv⟩:=hq;exact ⟨rfl,v,hr,v,rfl,hv⟩
 ·obtain ⟨v,hr,hv⟩:=hq;exact ⟨rfl,v,hr,v,rfl,hv⟩
def TP (P:Program) (t e k gU:Nat):Bool :=
 (match P.underlying t with | some (.slice e')=>e'==e | _=>false) &&
 (match P.info? e with
  | some i=>(match i.zero with | some z=>z.cells.size==k | none=>false)&&i.size==k&&i.bytes==gU
  | none=>false)&&k != 0
class n8 (P:Program) (t:TypeId) (e:outParam TypeId) (k:outParam Nat) (gU:outParam Nat):Prop where
 is:TP P t e k gU=true
theorem n8.parts {P:Program} {t e k gU:Nat} (h:n8 P t e k gU) :
  P.underlying t=some (.slice e)/\(∃ i z,P.info? e=some i/\i.zero=some z/\z.cells.size=k/\i.size=k/\i.bytes=gU)/\0 < k:=by
 obtain ⟨h⟩:=h;simp only [TP,Bool.and_eq_true,bne_iff_ne,ne_eq] at h;obtain ⟨⟨h1,h2⟩,h3⟩:=h;refine ⟨?_,?_,by omega⟩
 ·split at h1
  ·rename_i e' hu;rw [hu];simp at h1;rw [h1]
  ·cases h1
 ·split at h2
  ·rename_i i hi;simp only [Bool.and_eq_true,beq_iff_eq] at h2;obtain ⟨⟨h4,h5⟩,h6⟩:=h2;split at h4
   ·rename_i z hz;exact ⟨i,z,hi,hz,by simpa using h4,h5,h6⟩
   ·cases h4
  ·cases h2
abbrev gB (w:World) (base:Nat) (e k:Nat) (v:Value) (n:Nat) (xs:List Value):Prop:=w.ownsRow base e k v n xs
theorem gB.nil (w:World) (base e k:Nat):gB w base e k (.slice none 0 0) 0 []:=World.ownsRow_nil w base e k
theorem gB.ext {S:Nat->Prop} {w w':World} {base e k:Nat} {v:Value} {n:Nat} {xs:List Value} (h:gB w base e k v n xs) (hx:Ext S w w') (hs:∀ b,v.ownBlock=some b->¬ S b):gB w' base e k v n xs:=by
 obtain ⟨h1,h2⟩:=h;refine ⟨h1,?_⟩
 rcases h2 with h2 | ⟨g,cap,cur,rfl,hb,hg,r⟩
 ·exact .inl h2
 ·exact .inr ⟨g,cap,cur,rfl,hb,hx.blk hg (hs g rfl),r⟩
theorem gB.lt {w:World} {base e k:Nat} {v:Value} {n:Nat} {xs:List Value} (h:gB w base e k v n xs) {b:Nat} (hv:v.ownBlock=some b):base<=b/\b < w.heap.size:=by
 obtain ⟨h1,h2⟩:=h
 rcases h2 with ⟨rfl,_⟩ | ⟨g,cap,cur,rfl,hb,hg,r⟩
 ·cases hv
 ·simp only [Value.ownBlock,Option.some.injEq] at hv;subst hv;exact ⟨hb,rK hg⟩
theorem gB.shape {w:World} {base e k:Nat} {v:Value} {n:Nat} {xs:List Value} (h:gB w base e k v n xs):∃ a c,v=.slice a n c:=by
 obtain ⟨h1,h2⟩:=h
 rcases h2 with ⟨rfl,rfl⟩ | ⟨g,cap,cur,rfl,_⟩
 ·exact ⟨_,_,rfl⟩
 ·exact ⟨_,_,rfl⟩
theorem gB.base {w:World} {base QY e k:Nat} {v:Value} {n:Nat} {xs:List Value} (h:gB w base e k v n xs) (hb:QY<=base):gB w QY e k v n xs:=by
 obtain ⟨h1,h2⟩:=h;refine ⟨h1,?_⟩
 rcases h2 with h2 | ⟨g,cap,cur,rfl,bq,r⟩
 ·exact .inl h2
 ·exact .inr ⟨g,cap,cur,rfl,Nat.le_trans hb bq,r⟩
theorem gB.cells {w:World} {base e k:Nat} {v:Value} {n:Nat} {xs:List Value} (h:gB w base e k v n xs) :
  xs.length=n * k/\(xs≠[]->∃ b c,v=.slice (some ⟨b,0,none⟩) n c/\base<=b/\b < w.heap.size/\∀ j u,xs[j]?=some u->w.cell? ⟨b,j,none⟩=some u):=by
 obtain ⟨h1,h2⟩:=h;refine ⟨h1,fun bP=>?_⟩
 rcases h2 with ⟨rfl,rfl⟩ | ⟨g,cap,cur,rfl,hb,hg,hn,hm,cU,ht⟩
 ·simp at h1;exact absurd h1 bP
 ·refine ⟨g,cap,rfl,hb,rK hg,fun j u hj=>?_⟩;rw [cell_of_row w g j cur e (0,0) hg];rw [<-ht] at hj;rw [getElem?_take] at hj;split at hj
  ·simpa using hj
  ·cases hj
theorem gB.VA {w w':World} {b e k n:Nat} {cs:List Value} (h:uL w w' b (.cells cs.toArray e)) (hl:cs.length=n * k) (hm:n<=maxLen):gB w' w.heap.size e k (.slice (some ⟨b,0,none⟩) n n) n cs :=
 ⟨hl,.inr ⟨b,n,cs.toArray,rfl,by rw [h.fresh];exact Nat.le_refl _,h.blk,Nat.le_refl _,hm,by simpa using hl,by simp [<-hl]⟩⟩
section
variable {P:Program} {Q:lp} {l:List Value} {w:World} {ops:Array Oper} {rest:List Oper} {d:Option Tmp} {ty:TypeId} {pos:String} {af:Array Edge}
theorem WL.app {s x:Operand} {t e k gU:Nat} [hT:n8 P t e k gU] {base n m c b o:Nat} {xs news:List Value} {v:Value} (hs:ev l s=v) (fc:gB w base e k v n xs)
  (hx:ev l x=.slice (some ⟨b,o,none⟩) m c) (hl:news.length=m * k) (Rr:∀ j u,news[j]?=some u->w.cell? ⟨b,o+j,none⟩=some u) (h1:lC news=true)
  (Uq:n+m<=9223372036854775807) (xE:(n+m) * gU<=140737488355328) (AZ:base<=w.heap.size)
  (h:∀ v' w',gB w' base e k v' (n+m) (xs++news)->Ext (fun b=>v.ownBlock=some b) w w'->(∀ b,v'.ownBlock=some b->v.ownBlock=some b\/w.heap.size<=b)->(Ext gq w w'\/v'.ownBlock=v.ownBlock)->WL P ops Q rest (put l d v') w') :
  WL P ops Q (⟨d,.call ⟨.builtin .append,#[s,x],#[t,t]⟩,ty,pos,af,none⟩::rest) l w:=by
 obtain ⟨hu,⟨i,z,hi,hz,Ng,cU,xD⟩,hk⟩:=hT.parts;obtain ⟨v',w',hr,h2,h3,h4⟩:=run_append_own (P:=P) w base t ty e i z k gU hu hi hz cU xD Ng hk v n xs fc ⟨b,o,none⟩ m c news hl
  (fun j u hj=>by rw [pI];exact Rr j u hj) (by simpa [lC] using h1) (by simpa [maxLen] using Uq) xE AZ
 have gJ:Ext (fun b=>v.ownBlock=some b) w w':=⟨h3.os,h3.tape,h3.output,h3.size,fun j hj hn=>h3.block j hj fun he=>hn he.symm⟩
 have xI:∀ j u,news[j]?=some u->w.cell? ((⟨b,o,none⟩:Addr).add j)=some u:=fun j u hj=>by rw [pI];exact Rr j u hj
 have iN:news.length=m * i.size:=by rw [cU];exact hl
 have Pt:(n+m) * i.bytes<=140737488355328:=by rw [xD];exact xE
 refine WL.val (v:=v') (w':=w') (by simp [execOp,resolve,invoke,builtin,hs,hx,hr]) (h v' w' h2 gJ ?_ ?_)
 ·intro b' bq;have A7:=fc.2
  rcases A7 with ⟨rfl,rfl⟩ | ⟨g,cap,cur,rfl,nC,hg,oH,wW,eK,Ba⟩
  ·by_cases hm:m=0
   ·have:=h4.2 ⟨rfl,hm⟩;subst this;cases bq
   ·have dh:=run_append_nil (P:=P) w t ty e i z hu hi hz ⟨b,o,none⟩ m c news iN xI (by omega) (by omega) (by simp only [Nat.zero_add] at Pt;omega);rw [hr] at dh;cases dh;simp only [Value.ownBlock,Option.some.injEq] at bq;exact .inr (by omega)
  ·by_cases hroom:n+m<=cap
   ·have dh:=run_append_room (P:=P) w t ty e i hu hi g n cap cur hg ⟨b,o,none⟩ m c news iN xI (by simpa [lC] using h1) hroom
     (by rw [iN,eK,<-Nat.add_mul,cU];exact Nat.mul_le_mul_right _ hroom)
    rw [hr] at dh;cases dh;exact .inl bq
   ·have holds:∀ j u,xs[j]?=some u->w.cell? ((⟨g,0,none⟩:Addr).add j)=some u:=World.ownsRow.cells (g:=g) fc rfl;have dh:=run_append_grow (P:=P) w t ty e i z hu hi hz ⟨g,0,none⟩ n cap xs (by rw [cU];exact fc.1) holds ⟨b,o,none⟩ m c news iN xI (by omega) (by omega) (growslice_fits (by omega) Pt);rw [hr] at dh;cases dh;simp only [Value.ownBlock,Option.some.injEq] at bq;exact .inr (by omega)
 ·have A7:=fc.2
  rcases A7 with ⟨rfl,rfl⟩ | ⟨g,cap,cur,rfl,nC,hg,oH,wW,eK,Ba⟩
  ·exact .inl (gJ.mono fun k _ hk=>by cases hk)
  ·by_cases hroom:n+m<=cap
   ·have dh:=run_append_room (P:=P) w t ty e i hu hi g n cap cur hg ⟨b,o,none⟩ m c news iN xI (by simpa [lC] using h1) hroom
     (by rw [iN,eK,<-Nat.add_mul,cU];exact Nat.mul_le_mul_right _ hroom)
    rw [hr] at dh;cases dh;exact .inr rfl
   ·have holds:∀ j u,xs[j]?=some u->w.cell? ((⟨g,0,none⟩:Addr).add j)=some u:=World.ownsRow.cells (g:=g) fc rfl;have dh:=run_append_grow (P:=P) w t ty e i z hu hi hz ⟨g,0,none⟩ n cap xs (by rw [cU];exact fc.1) holds ⟨b,o,none⟩ m c news iN xI (by omega) (by omega) (growslice_fits (by omega) Pt);rw [hr] at dh;cases dh;exact .inl ⟨rfl,rfl,rfl,by simp,fun k hk _=>Below.heap_alloc _ _ _ (by simpa using hk)⟩
theorem WL.push {x s:Operand} {t e k gU:Nat} {z:List Value} [hT:n8 P t e k gU] [hZ:pd P t e k z] {base n:Nat} {xs vs:List Value} {v val:Value} {d1:Tmp} {Oq:TypeId} {Ga:String} {LJ:Array Edge}
  (hx:ev l x=val) (hs:∀ u,ev (put l (some d1) u) s=v) (hd:∀ u,ev (put l (some d1) u) (.tmp d1)=u) (hc:val.cells=vs.toArray) (hk:vs.length=k) (h1:lC vs=true)
  (fc:gB w base e k v n xs) (Uq:n+1<=9223372036854775807) (xE:(n+1) * gU<=140737488355328) (aal:k<=16777216) (AZ:base<=w.heap.size)
  (h:∀ u v' w',gB w' base e k v' (n+1) (xs++vs)->Ext (fun b=>v.ownBlock=some b) w w'->(∀ b,v'.ownBlock=some b->v.ownBlock=some b\/w.heap.size<=b)->(Ext gq w w'\/v'.ownBlock=v.ownBlock)->WL P ops Q rest (put (put l (some d1) u) d v') w') :
  WL P ops Q (⟨some d1,.buildSlice t 1 #[(0,x)],Oq,Ga,LJ,none⟩::⟨d,.call ⟨.builtin .append,#[s,.tmp d1],#[t,t]⟩,ty,pos,af,none⟩::rest) l w:=by
 have hkp:=hZ.pos
 have cU:val.cells.size=k:=by rw [hc];simpa using hk
 have bU:∀ (vs cs:List Value),vs.length=cs.length->gM cs 0 vs=vs:=by
  have gen:∀ (vs pre cs:List Value),vs.length=cs.length->gM (pre++cs) pre.length vs=pre++vs:=by
   intro vs
   induction vs with
   | nil=>intro pre cs hl;cases cs <;> simp_all [gM]
   | cons a r ih =>
    intro pre cs hl
    cases cs with
    | nil=>simp at hl
    | cons c cs =>
     have hu:eU (pre++c::cs) pre.length a=pre++a::cs:=by
      clear hl
      induction pre with
      | nil=>rfl
      | cons p pre ihp=>simp [eU,ihp]
     rw [gM,hu];have:=ih (pre++[a]) cs (by simpa using hl);simpa using this
  intro vs cs hl;exact gen vs [] cs hl
 have WH:pN (fun i=>some (i * k,k)) ((List.range (1 * k)).map fun j=>z.getD (j % k) undef) ([((0:Nat),x)].map fun y=>(y.1,ev l y.2))=some vs:=by
  simp only [List.map_cons,map_nil,pN,hx,cU];simp [hk,hc];exact bU vs _ (by simpa using hk)
 refine WL.Cn (n:=1) (parts:=[(0,x)]) (by omega) WH ?_;intro b2 w2 bO;have Ka:gB w2 base e k v n xs:=fc.ext bO.ext (fun _ _ h=>h);refine WL.app (base:=base) (v:=v) (n:=n) (xs:=xs) (news:=vs) (m:=1) (hs _) Ka (hd _) (by omega) (fun j u hj=>?_) h1 Uq xE (Nat.le_trans AZ bO.ext.size) ?_
 ·rw [Nat.zero_add];exact LQ bO.blk (by simpa using hj)
 ·intro v' w3 ho Nf hb ve;refine h _ v' w3 ho ((bO.ext.mono (fun _ _ h=>h.elim)).trans Nf) (fun b bq=>?_) (ve.imp (fun h5=>bO.ext.trans h5) id)
  rcases hb b bq with h4 | h4
  ·exact .inl h4
  ·exact .inr (Nat.le_trans bO.ext.size h4)
end
section
variable {P:Program} {ops:Array Oper} {S:Nat->Prop}
end
def rW:List Oper->Nat->Oper
 | [],_=>default
 | o::_,0=>o
 | _::r,n+1=>rW r n
theorem S3 (ol:List Oper) (i:Nat) (o:Oper) (h:ol.toArray[i]?=some o):rW ol i=o:=by
 have h':ol[i]?=some o:=by simpa using h
 clear h
 induction ol generalizing i with
 | nil=>simp at h'
 | cons x r ih =>
  cases i with
  | zero=>simpa [rW] using h'
  | succ i=>exact ih i (by simpa using h')
section
variable {P:Program} {ops:Array Oper} {S:Nat->Prop} {Q:lp} {l:List Value} {w:World} {r:List (Oper × Bool)} {d:Option Tmp} {op:Op} {ty:TypeId} {pos:String} {af:Array Edge}
end
def KX:IntKind->IntKind->Bool
 | .i8,.i8 | .i16,.i16 | .i32,.i32 | .i64,.i64 | .u8,.u8 | .u16,.u16 | .u32,.u32 | .u64,.u64=>true
 | _,_=>false
theorem Qo {a b:IntKind} (h:KX a b=true):a=b:=by cases a <;> cases b <;> first | rfl | cases h
def J0 (op:BinOp) (a b:Int):Option Value :=
 match op with
 | .eql=>some (.bool (a==b))
 | .neq=>some (.bool (a != b))
 | .lss=>some (.bool (decide (a < b)))
 | .leq=>some (.bool (decide (a<=b)))
 | .gtr=>some (.bool (decide (b < a)))
 | .geq=>some (.bool (decide (b<=a)))
 | _=>none
def JZ (op:BinOp):Value->Value->Option Value
 | .int k a,.int k' b=>match KX k k' with
  | true=>J0 op a b
  | false=>none
 | _,_=>none
def vX (c:Op) (x:Value):Option Value :=
 match c with
 | .nilCheck _=>match x with
  | .pointer (some a)=>some (.pointer (some a))
  | _=>none
 | .unOp .not _ _=>match x with
  | .bool b=>some (.bool (!b))
  | _=>none
 | .extract _ i=>match x with
  | .tuple vs=>vs[i]?
  | _=>none
 | _=>none
def go (ρ:Operand->Value) (o:Op):Option Value :=
 match o with
 | .move x=>some (ρ x)
 | .assign x=>some (ρ x)
 | .makeFunc fn f c=>some (.func fn (f.map ρ) (c.map ρ))
 | .binOp op _ x y _=>JZ op (ρ x) (ρ y)
 | .nilCheck x=>vX o (ρ x)
 | .unOp _ _ x=>vX o (ρ x)
 | .extract x _=>vX o (ρ x)
 | _=>none
section
variable {P:Program} {l:List Value} {w:World}
theorem SI {o:Op} {v:Value} (h:go (ev l) o=some v):ep P l w o v:=by
 unfold go at h;split at h
 ·cases h;exact R.mv
 ·cases h;exact R.tN
 ·cases h;exact R.Cm
 ·rename_i op t x y t';unfold JZ at h;split at h
  ·rename_i k a k' b hx hy;split at h
   ·rename_i hk;have:=Qo hk;subst this;unfold J0 at h
    split at h <;> first | (cases h;done) | skip
    ·cases h;exact R.eq hx hy
    ·cases h;exact R.ne hx hy
    ·cases h;exact R.lt hx hy
    ·cases h;exact R.le hx hy
    ·cases h;exact R.gt' hx hy
    ·cases h;exact R.ge hx hy
   ·cases h
  ·cases h
 ·unfold vX at h;simp only at h;split at h
  ·rename_i a hx;cases h;exact R.KH hx
  ·cases h
 ·rename_i op t x;unfold vX at h
  cases op <;> simp only at h <;> first | (cases h;done) | skip
  split at h
  ·rename_i b hx;cases h;exact R.not hx
  ·cases h
 ·unfold vX at h;simp only at h;split at h
  ·rename_i vs hx;exact R.extract hx h
  ·cases h
 ·cases h
theorem R.dM {x y:Operand} {t t':TypeId} {a b:Nat} (hx:ev l x=ii a) (hy:ev l y=ii b) (hb:a+b<=9223372036854775807):ep P l w (.binOp .add t x y t') (ii ((a+b:Nat):Int)):=R.add hx hy (by omega) (by omega)
theorem R.uw {x y:Operand} {t t':TypeId} {a:Nat} (hx:ev l x=ii a) (hy:ev l y=ii 1) (hb:a+1<=9223372036854775807):ep P l w (.binOp .add t x y t') (ii ((a+1:Nat):Int)):=R.add hx hy (by omega) (by omega)
theorem R.zB {c a b:Operand} {t:Bool} (hc:ev l c=.bool t) (ht:t=true):ep P l w (.pick c a b) (ev l a):=by
 subst ht;exact R.pick hc
theorem R.zA {c a b:Operand} {t:Bool} (hc:ev l c=.bool t) (ht:t=false):ep P l w (.pick c a b) (ev l b):=by
 subst ht;exact R.pick hc
end
section
variable {P:Program} {Q:lp} {l:List Value} {w:World} {ops:Array Oper} {rest:List Oper} {d:Option Tmp} {op:Op} {ty:TypeId} {pos:String} {af:Array Edge} {v:Value} {S:Nat->Prop} {r:List (Oper × Bool)}
end
def uu (ops:List Oper) (l:List Value):Option (Nat × Bool)->Bool
 | none=>true
 | some (j,b)=>match (rW ops j).dst with
  | some t=>match nth l t with
   | .bool c=>c==b
   | _=>false
  | none=>false
def jC {α:Type}:List α->Nat->Bool
 | [],_=>false
 | _::_,0=>true
 | _::r,n+1=>jC r n
theorem Be {α:Type}:∀ {l:List α} {n:Nat},jC l n=true->n < l.length
 | [],_,h=>by cases h
 | _::_,0,_=>by simp
 | _::r,n+1,h=>by have:=Be (l:=r) (n:=n) h;simp;omega
def Dm:Option (Nat × Bool)->List Oper->List Value->Bool
 | some (j,_),ops,l=>jC ops j&&(match (rW ops j).dst with
  | some t=>jC l t&&(match nth l t with | .bool _=>true | .tuple _=>true | _=>false)
  | none=>false)
 | none,_,_=>true
theorem I4 (ol:List Oper) (j:Nat) (h:j < ol.length):ol.toArray[j]?=some (rW ol j):=by
 obtain ⟨o,ho⟩:∃ o,ol.toArray[j]?=some o:=⟨ol[j],by simp [h]⟩;rw [ho,S3 ol j o ho]
theorem Vz (l:List Value) (t:Nat) (h:t < l.length):l[t]?=some (nth l t):=by
 induction l generalizing t with
 | nil=>simp at h
 | cons x l ih=>cases t with
  | zero=>rfl
  | succ t=>simpa [nth] using ih t (by simpa using h)
theorem vI {ops:Array Oper} {d:Option Tmp} {op:Op} {ty:TypeId} {pos:String} {af:Array Edge} {gd:Option (Nat × Bool)} {l:List Value} (hb:Dm gd ops.toList l=true) :
  Region.wanted ⟨d,op,ty,pos,af,gd⟩ (yielded ops (act l).tmps)=uu ops.toList l gd:=by
 cases gd with
 | none=>rfl
 | some x =>
  obtain ⟨j,b⟩:=x;simp only [Dm,Bool.and_eq_true] at hb;obtain ⟨h1,h2⟩:=hb;have hj:=I4 ops.toList j (Be h1);simp only [Array.toArray_toList] at hj;simp only [Region.wanted,uu,yielded,hj,Option.bind_some]
  cases hd:(rW ops.toList j).dst with
  | none=>rw [hd] at h2;cases h2
  | some t =>
   rw [hd] at h2;simp only [Bool.and_eq_true] at h2;have ht:=Vz l t (Be h2.1);simp only [Option.bind_some,act]
   have A9:l.toArray[t]?=some (nth l t):=by simpa using ht
   rw [A9]
   cases hv:nth l t <;> rw [hv] at h2 <;> simp_all
def gv (ops:List Oper) (l:List Value) (gd:Nat × Bool):Option Bool :=
 match (rW ops gd.1).dst with
 | some t=>match nth l t with
  | .bool c=>some c
  | _=>none
 | none=>none
theorem OG {ops:List Oper} {l:List Value} {gd:Nat × Bool} {c:Bool} (hv:gv ops l gd=some c) (hc:c=gd.2):uu ops l (some gd)=true:=by
 obtain ⟨j,b⟩:=gd;unfold gv at hv;unfold uu;simp only at hv hc |-;split at hv
 ·rename_i t ht;split at hv
  ·rename_i c' du;cases hv;simp [hc]
  ·cases hv
 ·cases hv
theorem OE {ops:List Oper} {l:List Value} {gd:Nat × Bool} {c:Bool} (hv:gv ops l gd=some c) (hc:c=!gd.2):uu ops l (some gd)=false:=by
 obtain ⟨j,b⟩:=gd;unfold gv at hv;unfold uu;simp only at hv hc |-;split at hv
 ·rename_i t ht;split at hv
  ·rename_i c' du;cases hv;cases b <;> simp_all
  ·cases hv
 ·cases hv
theorem OH {ops:List Oper} {l:List Value} {gd:Nat × Bool} (hv:gv ops l gd=none):uu ops l (some gd)=false:=by
 obtain ⟨j,b⟩:=gd;unfold gv at hv;unfold uu;simp only at hv |-;split at hv
 ·rename_i t ht;split at hv
  ·cases hv
  ·first | rfl | (split <;> simp_all)
 ·rfl
section
variable {P:Program} {Q:lp} {l:List Value} {w:World} {ops:Array Oper} {rest:List Oper} {d:Option Tmp} {op:Op} {ty:TypeId} {pos:String} {af:Array Edge} {v:Value} {S:Nat->Prop} {r:List (Oper × Bool)} {gd:Nat × Bool}
theorem GT {c:Bool} (hb:Dm (some gd) ops.toList l=true) (hv:gv ops.toList l gd=some c) (hc:c=gd.2) (h:WL P ops Q (⟨d,op,ty,pos,af,none⟩::rest) l w):WL P ops Q (⟨d,op,ty,pos,af,some gd⟩::rest) l w:=WL.gt ((vI hb).trans (OG hv hc)) h
theorem GF {c:Bool} (hb:Dm (some gd) ops.toList l=true) (hv:gv ops.toList l gd=some c) (hc:c=!gd.2) (h:WL P ops Q rest (put l d undef) w):WL P ops Q (⟨d,op,ty,pos,af,some gd⟩::rest) l w:=WL.gf ((vI hb).trans (OE hv hc)) h
theorem GU (hb:Dm (some gd) ops.toList l=true) (hv:gv ops.toList l gd=none) (h:WL P ops Q rest (put l d undef) w):WL P ops Q (⟨d,op,ty,pos,af,some gd⟩::rest) l w:=WL.gf ((vI hb).trans (OH hv)) h
end
def KM:Value->Bool
 | .agg _=>false
 | .tuple _=>false
 | _=>true
theorem wC {v:Value} (h:KM v=true):v.cells=#[v]/\v.oneCell'=true:=by
 cases v <;> first | exact ⟨rfl,rfl⟩ | cases h
end Go.Xw
namespace Go.Xg
open Go.RowKit Go.Xw
inductive GV where
 | v (x:Value)
 | U
 | agg (cs:List GV)
 | tup (cs:List GV)
 | sl (k:Nat) (rows:List (List GV))
 | box (cs:List GV) (o:Nat)
 | loc (i o:Nat)
 | vec (i n:Nat)
 | vp (i n k idx off:Nat)
 | arr (i o n:Nat)
 | fn (f:Fn) (first cap:List GV)
abbrev Fz:=Nat->Nat->Option GV
inductive Bk where
 | no
 | fix (b:Nat)
 | gr (h:Value) (m:Nat)
def Bk.blk:Bk->Option Nat
 | .no=>none
 | .fix b=>some b
 | .gr h _=>h.ownBlock
abbrev Bt:=Nat->Bk
def cm (K K':Fz):Prop:=∀ b o g,K b o=some g->K' b o=some g
def rS:Bk->Bk->Prop
 | .no,_=>True
 | .fix b,x=>x=.fix b
 | .gr h m,x=>∃ h' m',x=.gr h' m'/\m<=m'/\(m'=m->h'=h)
def cZ (β bA:Bt):Prop:=∀ i,rS (β i) (bA i)
theorem cm.refl (K:Fz):cm K K:=fun _ _ _ h=>h
theorem cm.trans {a b c:Fz} (h:cm a b) (k:cm b c):cm a c:=fun x y z hz=>k x y z (h x y z hz)
theorem rS.refl (x:Bk):rS x x:=by cases x with | no=>trivial | fix b=>rfl | gr h m=>exact ⟨h,m,rfl,Nat.le_refl _,fun _=>rfl⟩
theorem rS.trans {a b c:Bk} (h:rS a b) (k:rS b c):rS a c:=by
 cases a with
 | no=>trivial
 | fix x=>cases h;exact k
 | gr x m =>
  obtain ⟨x',m',rfl,h1,h2⟩:=h;obtain ⟨x2,m2,rfl,h3,h4⟩:=k
  exact ⟨x2,m2,rfl,Nat.le_trans h1 h3,fun he=>by
   have:m'=m:=by omega
   rw [h4 (by omega),h2 this]⟩
theorem cZ.refl (β:Bt):cZ β β:=fun i=>rS.refl _
theorem cZ.trans {a b c:Bt} (h:cZ a b) (k:cZ b c):cZ a c:=fun i=>(h i).trans (k i)
inductive Rel (K:Fz) (β:Bt):Value->GV->Prop
 | v (x:Value):Rel K β x (.v x)
 | U (x:Value):Rel K β x .U
 | agg (vs:List Value) (cs:List GV) (hl:vs.length=cs.length) (h:∀ (i:Nat) v g,vs[i]?=some v->cs[i]?=some g->Rel K β v g):Rel K β (.agg vs.toArray) (.agg cs)
 | tup (vs:List Value) (cs:List GV) (hl:vs.length=cs.length) (h:∀ (i:Nat) v g,vs[i]?=some v->cs[i]?=some g->Rel K β v g):Rel K β (.tuple vs.toArray) (.tup cs)
 | sl0 (a:Option Addr) (c k:Nat):Rel K β (.slice a 0 c) (.sl k [])
 | sl (b o c k:Nat) (rows:List (List GV)) (h:∀ (i:Nat) r,rows[i]?=some r->r.length=k/\∀ (j:Nat) g,r[j]?=some g->K b (o+i * k+j)=some g) (hc:rows.length<=c):Rel K β (.slice (some ⟨b,o,none⟩) rows.length c) (.sl k rows)
 | box (b o' o:Nat) (cs:List GV) (h:∀ (j:Nat) g,cs[j]?=some g->K b (o'+j)=some g):Rel K β (.pointer (some ⟨b,o'+o,none⟩)) (.box cs o)
 | loc (i o b:Nat) (h:β i=.fix b):Rel K β (.pointer (some ⟨b,o,none⟩)) (.loc i o)
 | vec (i n:Nat) (a:Option Addr) (c:Nat) (h:∃ h m,β i=.gr h m/\n<=m/\(m=n->.slice a n c=h)):Rel K β (.slice a n c) (.vec i n)
 | vp (i n k idx off:Nat) (x:Value) (h:∃ h m,β i=.gr h m/\n<=m/\(m=n->∃ b,h.ownBlock=some b/\x=.pointer (some ⟨b,idx * k+off,none⟩))):Rel K β x (.vp i n k idx off)
 | arr (i o n b c:Nat) (h:β i=.fix b):Rel K β (.slice (some ⟨b,o,none⟩) n c) (.arr i o n)
 | fn (f:Fn) (xs ys:List Value) (first cap:List GV) (hl:xs.length=first.length) (iN:ys.length=cap.length) (h:∀ (i:Nat) v g,xs[i]?=some v->first[i]?=some g->Rel K β v g)
   (h':∀ (i:Nat) v g,ys[i]?=some v->cap[i]?=some g->Rel K β v g):Rel K β (.func f xs.toArray ys.toArray) (.fn f first cap)
theorem Rel.mono {K K':Fz} {β bA:Bt} {x:Value} {g:GV} (h:Rel K β x g) (hk:cm K K') (hb:cZ β bA):Rel K' bA x g:=by
 induction h with
 | v x=>exact .v x
 | U x=>exact .U x
 | agg vs cs hl h ih=>exact .agg vs cs hl ih
 | tup vs cs hl h ih=>exact .tup vs cs hl ih
 | sl0 a c k=>exact .sl0 a c k
 | sl b o c k rows h hc=>exact .sl b o c k rows (fun i r hr=>⟨(h i r hr).1,fun j g hg=>hk _ _ _ ((h i r hr).2 j g hg)⟩) hc
 | box b o' o cs h=>exact .box b o' o cs fun j g hg=>hk _ _ _ (h j g hg)
 | loc i o b h=>exact .loc i o b (by have:=hb i;rw [h] at this;exact this)
 | vec i n a c h =>
  obtain ⟨h0,m,h1,h2,h3⟩:=h;have h4:=hb i;rw [h1] at h4;obtain ⟨h',m',h5,h6,h7⟩:=h4;exact .vec i n a c ⟨h',m',h5,by omega,fun he=>by rw [h7 (by omega)];exact h3 (by omega)⟩
 | vp i n k idx off x h =>
  obtain ⟨h0,m,h1,h2,h3⟩:=h;have h4:=hb i;rw [h1] at h4;obtain ⟨h',m',h5,h6,h7⟩:=h4;exact .vp i n k idx off x ⟨h',m',h5,by omega,fun he=>by rw [h7 (by omega)];exact h3 (by omega)⟩
 | arr i o n b c h=>exact .arr i o n b c (by have:=hb i;rw [h] at this;exact this)
 | fn f xs ys first cap hl iN h h' ih ih'=>exact .fn f xs ys first cap hl iN ih ih'
def GV.pc:GV->Bool
 | .v _=>true
 | .sl _ _=>true
 | .box _ _=>true
 | _=>false
theorem Rel.pc {K:Fz} {β bA:Bt} {x:Value} {g:GV} (h:Rel K β x g) (hp:g.pc=true):Rel K bA x g:=by
 cases h <;> first | (cases hp;done) | skip
 ·exact .v _
 ·exact .sl0 _ _ _
 ·rename_i h hc;exact .sl _ _ _ _ _ h hc
 ·rename_i h;exact .box _ _ _ _ h
def GV.one:GV->Bool
 | .v x=>KM x
 | .U=>false
 | .agg _=>false
 | .tup _=>false
 | .vp _ _ _ _ _=>false
 | _=>true
theorem Rel.one {K:Fz} {β:Bt} {x:Value} {g:GV} (h:Rel K β x g) (ho:g.one=true):KM x=true:=by
 cases h <;> first | exact ho | rfl | (cases ho;done)
abbrev ba (K:Fz) (β:Bt) (vs:List Value) (gs:List GV):Prop:=vs.length=gs.length/\∀ (i:Nat) v g,vs[i]?=some v->gs[i]?=some g->Rel K β v g
theorem ba.mono {K K':Fz} {β bA:Bt} {vs:List Value} {gs:List GV} (h:ba K β vs gs) (hk:cm K K') (hb:cZ β bA):ba K' bA vs gs:=⟨h.1,fun i v g h1 h2=>(h.2 i v g h1 h2).mono hk hb⟩
theorem ba.nil {K:Fz} {β:Bt}:ba K β [] []:=⟨rfl,fun i v g h=>by simp at h⟩
theorem ba.cons {K:Fz} {β:Bt} {v:Value} {g:GV} {vs:List Value} {gs:List GV} (h:Rel K β v g) (hs:ba K β vs gs):ba K β (v::vs) (g::gs):=by
 refine ⟨by simp [hs.1],fun i x y h1 h2=>?_⟩
 cases i with
 | zero=>cases h1;cases h2;exact h
 | succ i=>exact hs.2 i x y h1 h2
theorem ba.nN {K:Fz} {β:Bt} {v:Value} {g:GV} {vs:List Value} {gs:List GV} (h:ba K β (v::vs) (g::gs)):Rel K β v g/\ba K β vs gs :=
 ⟨h.2 0 v g rfl rfl,by simpa using h.1,fun i x y h1 h2=>h.2 (i+1) x y h1 h2⟩
theorem ba.app {K:Fz} {β:Bt} {vs us:List Value} {gs hs:List GV} (h:ba K β vs gs) (k:ba K β us hs):ba K β (vs++us) (gs++hs):=by
 induction vs generalizing gs with
 | nil =>
  have:gs=[]:=by have:=h.1;simp at this;exact eq_nil_of_length_eq_zero this.symm
  subst this;exact k
 | cons v vs ih =>
  cases gs with
  | nil=>have:=h.1;simp at this
  | cons g gs=>obtain ⟨h1,h2⟩:=h.nN;exact .cons h1 (ih h2)
theorem ba.at {K:Fz} {β:Bt} {vs:List Value} {gs:List GV} (h:ba K β vs gs) {i:Nat} {g:GV} (hg:gs[i]?=some g):∃ v,vs[i]?=some v/\Rel K β v g:=by
 have hi:i < vs.length:=by rw [h.1];exact (List.getElem?_eq_some_iff.1 hg).1
 exact ⟨vs[i],by simp [hi],h.2 i _ g (by simp [hi]) hg⟩
theorem ba.take {K:Fz} {β:Bt} {vs:List Value} {gs:List GV} (h:ba K β vs gs) (n:Nat):ba K β (vs.take n) (gs.take n):=by
 refine ⟨by simp [h.1],fun i x y h1 h2=>?_⟩;rw [getElem?_take] at h1 h2;split at h1
 ·rename_i hi;rw [if_pos hi] at h2;exact h.2 i x y h1 h2
 ·cases h1
theorem ba.drop {K:Fz} {β:Bt} {vs:List Value} {gs:List GV} (h:ba K β vs gs) (n:Nat):ba K β (vs.drop n) (gs.drop n):=by
 refine ⟨by simp [h.1],fun i x y h1 h2=>?_⟩;rw [getElem?_drop] at h1 h2;exact h.2 _ x y h1 h2
def cH:List GV->Nat->GV
 | [],_=>.U
 | g::_,0=>g
 | _::l,n+1=>cH l n
def bs:List GV->Nat->GV->List GV
 | [],_,_=>[]
 | _::l,0,g=>g::l
 | x::l,n+1,g=>x::bs l n g
def aY (l:List GV):Operand->GV
 | .tmp t=>cH l t
 | .const v=>.v v
 | .global g=>.v (.pointer (some ⟨g,0,none⟩))
 | .func f=>.v (.func (.func f) #[] #[])
def br (l:List GV) (d:Option Tmp) (g:GV):List GV:=match d with | some d=>bs l d g | none=>l
inductive FR (K:Fz) (β:Bt):List GV->List Value->Prop
 | nil:FR K β [] []
 | cons {g:GV} {v:Value} {gs:List GV} {vs:List Value} (h:Rel K β v g) (t:FR K β gs vs):FR K β (g::gs) (v::vs)
theorem FR.mono {K K':Fz} {β bA:Bt} {gs:List GV} {vs:List Value} (h:FR K β gs vs) (hk:cm K K') (hb:cZ β bA):FR K' bA gs vs:=by
 induction h with
 | nil=>exact .nil
 | cons h t ih=>exact .cons (h.mono hk hb) ih
theorem FR.nth {K:Fz} {β:Bt} {gs:List GV} {vs:List Value} (h:FR K β gs vs) (t:Nat):Rel K β (nth vs t) (cH gs t):=by
 induction h generalizing t with
 | nil=>exact .U _
 | cons h _ ih=>cases t with | zero=>exact h | succ t=>exact ih t
theorem FR.ev {K:Fz} {β:Bt} {gs:List GV} {vs:List Value} (h:FR K β gs vs) (x:Operand):Rel K β (ev vs x) (aY gs x):=by
 cases x with
 | tmp t=>exact h.nth t
 | const v=>exact .v _
 | global g=>exact .v _
 | func f=>exact .v _
theorem FR.eU {K:Fz} {β:Bt} {gs:List GV} {vs:List Value} (h:FR K β gs vs) (t:Nat) {v:Value} {g:GV} (hv:Rel K β v g):FR K β (bs gs t g) (eU vs t v):=by
 induction h generalizing t with
 | nil=>exact .nil
 | cons h ht ih=>cases t with | zero=>exact .cons hv ht | succ t=>exact .cons h (ih t)
theorem FR.put {K:Fz} {β:Bt} {gs:List GV} {vs:List Value} (h:FR K β gs vs) (d:Option Tmp) {v:Value} {g:GV} (hv:Rel K β v g):FR K β (br gs d g) (put vs d v):=by
 cases d with | none=>exact h | some d=>exact h.eU d hv
theorem FR.args {K:Fz} {β:Bt} {gs:List GV} {vs:List Value} (h:FR K β gs vs) (xs:List Operand):ba K β (xs.map (Xw.ev vs)) (xs.map (aY gs)):=by
 induction xs with
 | nil=>exact .nil
 | cons x xs ih=>exact .cons (h.ev x) ih
inductive Ob where
 | gone
 | box (E:TypeId) (cs:List GV)
 | vec (E:TypeId) (k fz:Nat) (rows:List (List GV))
 | vech (E:TypeId) (k:Nat) (rows:List (List GV)) (x:Value)
 | lost
def ji (K:Fz) (w:World):Prop:=∀ b o g,K b o=some g->g.pc=true/\∃ v,fF w.heap b o=some v/\Rel K (fun _=>.no) v g
def fA (k:Nat) (rows:List (List GV)):Prop:=∀ r∈rows,r.length=k/\∀ g∈r,g.pc=true
def kg (K:Fz) (β:Bt) (w:World) (i:Nat):Ob->Prop
 | .gone=>β i=.no
 | .box E cs=>∃ b vs,β i=.fix b/\w.heap[b]?=some (.cells vs.toArray E (0,0))/\ba K β vs cs/\∀ o,K b o=none
 | .vec E k fz rows=>∃ h xs,β i=.gr h rows.length/\gB w 0 E k h rows.length xs/\ba K β xs rows.flatten/\fA k rows /\
   (∀ b,h.ownBlock=some b->(∀ o,fz * k<=o->K b o=none)/\∀ o g,o < fz * k->rows.flatten[o]?=some g->K b o=some g)/\fz<=rows.length
 | .vech E k rows x=>∃ xs,β i=.gr x rows.length/\gB w 0 E k x rows.length xs/\ba K β xs rows.flatten/\fA k rows/\∀ b,x.ownBlock=some b->∀ o,K b o=none
 | .lost=>∀ b,(β i).blk=some b->b < w.heap.size
def vu:List Int:=(List.range 20).map fun i=>((10 ^ i:Nat):Int)
def vB:List Int:=(List.range 256).map fun i=>if i=9\/i=10\/i=11\/i=12\/i=13\/i=32 then 1 else 0
def xd (m:Int):Fz:=fun b o =>
 if b=1 then (match o with | 0=>some (.v (.int .i64 m)) | _=>none)
 else if b=3 then vu[o]?.map fun z=>.v (.int .u64 z)
 else if b=0 then vB[o]?.map fun z=>.v (.int .u8 z)
 else none
def sJ (w:World) (b n:Nat):Prop:=∃ cs E z,w.heap[b]?=some (.cells cs E z)/\cs.size=n
theorem sJ.lt {w:World} {b n:Nat} (h:sJ w b n):b < w.heap.size:=by obtain ⟨cs,E,z,h,_⟩:=h;exact rK h
structure gE (K:Fz) (β:Bt) (w:World):Prop where
 le:∃ m,cm (xd m) K
 pow:sJ w 3 20
 spc:sJ w 0 256
 free:∀ i b,(β i).blk=some b->b≠3/\b≠0
theorem gE.step {S:Nat->Prop} {K K':Fz} {β bA:Bt} {w w':World} (h:gE K β w) (hx:Ext S w w') (hS:∀ b,S b->∃ i,(β i).blk=some b) (hk:cm K K') (qy:∀ i b,(bA i).blk=some b->(∃ j,(β j).blk=some b)\/w.heap.size<=b):gE K' bA w':=by
 obtain ⟨⟨m,h1⟩,h2,h3,h4⟩:=h
 have key:∀ {b n:Nat},sJ w b n->¬ S b->sJ w' b n:=fun ⟨cs,E,z,a,e⟩ hn=>⟨cs,E,z,hx.blk a hn,e⟩
 refine ⟨⟨m,h1.trans hk⟩,key h2 (fun hs=>?_),key h3 (fun hs=>?_),fun i b hb=>?_⟩
 ·obtain ⟨i,hi⟩:=hS _ hs;exact (h4 i _ hi).1 rfl
 ·obtain ⟨i,hi⟩:=hS _ hs;exact (h4 i _ hi).2 rfl
 ·rcases qy i b hb with ⟨j,hj⟩ | hs
  ·exact h4 j b hj
  ·have:=h2.lt;have:=h3.lt;exact ⟨by omega,by omega⟩
structure Bs where
 w0:World
 foot:Nat->Prop
 K0:Fz
 β0:Bt
 m:Nat
structure Inv (B:Bs) (K:Fz) (β:Bt) (Γ:List Ob) (w:World):Prop where
 ext:Ext B.foot B.w0 w
 kle:cm B.K0 K
 ble:cZ B.β0 β
 loc:∀ i,B.m<=i->B.β0 i=.no
 fz:ji K w
 ob:∀ i x,Γ[i]?=some x->kg K β w i x
 out:∀ i,Γ.length<=i->β i=.no
 dis:∀ i j b,(β i).blk=some b->(β j).blk=some b->i=j
 own:∀ i b,(β i).blk=some b->B.foot b\/B.w0.heap.size<=b
 kn:∀ b o g,K b o=some g->B.K0 b o=some g\/B.foot b\/B.w0.heap.size<=b
 tab:gE K β w
section
variable {B:Bs} {K:Fz} {β:Bt} {Γ:List Ob} {w:World}
theorem kg.lt {i:Nat} {x:Ob} (h:kg K β w i x) {b:Nat} (hb:(β i).blk=some b):b < w.heap.size:=by
 cases x with
 | gone=>simp only [kg] at h;rw [h] at hb;cases hb
 | box E cs =>
  obtain ⟨b',vs,h1,h2,_⟩:=h;rw [h1] at hb;cases hb;exact rK h2
 | vec E k fz rows =>
  obtain ⟨h',xs,h1,h2,_⟩:=h;rw [h1] at hb;exact (h2.lt hb).2
 | vech E k rows x =>
  obtain ⟨xs,h1,h2,_⟩:=h;rw [h1] at hb;exact (h2.lt hb).2
 | lost=>exact h b hb
theorem Inv.lt (h:Inv B K β Γ w) {i b:Nat} (hb:(β i).blk=some b):b < w.heap.size:=by
 by_cases hi:i < Γ.length
 ·exact (h.ob i Γ[i] (by simp [hi])).lt hb
 ·rw [h.out i (by omega)] at hb;cases hb
theorem ji.lt (h:ji K w) {b o:Nat} {g:GV} (hg:K b o=some g):b < w.heap.size:=by
 obtain ⟨_,v,hv,_⟩:=h b o g hg;exact EG hv
def blocks (β:Bt):Nat->Prop:=fun b=>∃ i,(β i).blk=some b
def cur (K:Fz) (β:Bt) (Γ:List Ob) (w:World):Bs:=⟨w,blocks β,K,β,Γ.length⟩
theorem Inv.here (h:Inv B K β Γ w):Inv (cur K β Γ w) K β Γ w :=
 ⟨Ext.refl w,cm.refl K,cZ.refl β,h.out,h.fz,h.ob,h.out,h.dis,fun i b hb=>.inl ⟨i,hb⟩,fun _ _ _ h=>.inl h,h.tab⟩
theorem Inv.NZ {K':Fz} {bA:Bt} {aK Ym:List Ob} {w':World} (h:Inv B K β Γ w) (k:Inv (cur K β Ym w) K' bA aK w'):Inv B K' bA aK w' :=
 ⟨h.ext.step k.ext (fun j hj=>by obtain ⟨i,hi⟩:=hj;exact (h.own i j hi).symm),h.kle.trans k.kle,h.ble.trans k.ble,h.loc,k.fz,k.ob,k.out,k.dis,
  fun i b hb=>by
   rcases k.own i b hb with h1 | h1
   ·obtain ⟨j,hj⟩:=h1;exact h.own j b hj
   ·exact .inr (Nat.le_trans h.ext.size h1),
  fun b o g hg=>by
   rcases k.kn b o g hg with h1 | ⟨j,hj⟩ | h1
   ·exact h.kn b o g h1
   ·exact .inr (h.own j b hj)
   ·exact .inr (.inr (Nat.le_trans h.ext.size h1)),k.tab⟩
theorem kg.ext {S:Nat->Prop} {K':Fz} {bA:Bt} {w':World} {i:Nat} {x:Ob} (h:kg K β w i x) (hx:Ext S w w') (hs:∀ b,(β i).blk=some b->¬ S b) (hk:cm K K') (hb:cZ β bA)
  (he:bA i=β i) (hn:∀ b o,(β i).blk=some b->K b o=none->K' b o=none):kg K' bA w' i x:=by
 cases x with
 | gone=>simp only [kg] at h |-;rw [he,h]
 | box E cs =>
  obtain ⟨b,vs,h1,h2,h3,h4⟩:=h
  have en:(β i).blk=some b:=by rw [h1];rfl
  exact ⟨b,vs,he.trans h1,hx.blk h2 (hs b en),h3.mono hk hb,fun o=>hn b o en (h4 o)⟩
 | vec E k fz rows =>
  obtain ⟨h',xs,h1,h2,h3,h4,h5,h6⟩:=h
  have en:∀ b,h'.ownBlock=some b->(β i).blk=some b:=fun b hb=>by rw [h1];exact hb
  exact ⟨h',xs,he.trans h1,h2.ext hx (fun b bq=>hs b (en b bq)),h3.mono hk hb,h4,fun b bq=>⟨fun o ho=>hn b o (en b bq) ((h5 b bq).1 o ho),fun o g ho hg=>hk _ _ _ ((h5 b bq).2 o g ho hg)⟩,h6⟩
 | vech E k rows x =>
  obtain ⟨xs,h1,h2,h3,h4,h5⟩:=h
  have en:∀ b,x.ownBlock=some b->(β i).blk=some b:=fun b hb=>by rw [h1];exact hb
  exact ⟨xs,he.trans h1,h2.ext hx (fun b bq=>hs b (en b bq)),h3.mono hk hb,h4,fun b bq o=>hn b o (en b bq) (h5 b bq o)⟩
 | lost=>exact fun b bq=>Nat.lt_of_lt_of_le (h b (by rw [<-he];exact bq)) hx.size
theorem ji.ext {S:Nat->Prop} {w':World} (h:ji K w) (hx:Ext S w w') (hs:∀ b o g,K b o=some g->¬ S b):ji K w':=fun b o g hg=>by
 obtain ⟨h1,v,hv,hr⟩:=h b o g hg;exact ⟨h1,v,hx.c hv (hs b o g hg),hr⟩
theorem Inv.same {w':World} (h:Inv B K β Γ w) (hx:Ext gq w w'):Inv B K β Γ w' :=
 ⟨h.ext.step hx (fun j hj=>hj.elim),h.kle,h.ble,h.loc,h.fz.ext hx (fun _ _ _ _ h=>h),fun i x hi=>(h.ob i x hi).ext hx (fun _ _ h=>h) (cm.refl K) (cZ.refl β) rfl (fun _ _ _ h=>h),h.out,h.dis,h.own,h.kn,h.tab.step hx (fun _ h=>h.elim) (cm.refl K) (fun i b h=>.inl ⟨i,h⟩)⟩
def fj (p:Nat->Bool) (β:Bt):Bt:=fun i=>match p i with
 | true=>β i
 | false=>.no
theorem iv {p:Nat->Bool} {β:Bt} {i:Nat} (h:p i=true):fj p β i=β i:=by simp [fj,h]
theorem sB {p:Nat->Bool} {β:Bt} {i:Nat} (h:p i=false):fj p β i=.no:=by simp [fj,h]
end
section
variable {B:Bs} {K:Fz} {β:Bt} {Γ:List Ob} {w:World}
def fa (β:Bt) (i:Nat) (x:Bk):Bt:=fun j=>if j=i then x else β j
theorem bo {i:Nat} {x:Bk}:fa β i x i=x:=by simp [fa]
theorem bE {i j:Nat} {x:Bk} (h:j≠i):fa β i x j=β j:=by simp [fa,h]
theorem lT {i j b:Nat} {x:Bk} (h:(fa β i x j).blk=some b):x.blk=some b\/(β j).blk=some b:=by
 by_cases hj:j=i
 ·subst hj;rw [bo] at h;exact .inl h
 ·rw [bE hj] at h;exact .inr h
theorem gO {i:Nat} {x:Bk} (h:rS (β i) x):cZ β (fa β i x):=fun j=>by
 by_cases hj:j=i
 ·subst hj;rw [bo];exact h
 ·rw [bE hj];exact rS.refl _
theorem ba.self {vs:List Value}:ba K β vs (vs.map .v):=⟨by simp,fun i v g h1 h2=>by
 rw [getElem?_map,h1] at h2;cases h2;exact .v _⟩
theorem Inv.add {w':World} {b:Nat} {vs:List Value} {cs:List GV} {E:TypeId} (h:Inv B K β Γ w) (hn:uL w w' b (.cells vs.toArray E)) (hr:ba K β vs cs) :
  Inv B K (fa β Γ.length (.fix b)) (Γ++[.box E cs]) w':=by
 have b9:β Γ.length=.no:=h.out _ (Nat.le_refl _);have hle:cZ β (fa β Γ.length (.fix b)):=gO (by rw [b9];trivial)
 have ak:∀ i b',(β i).blk=some b'->b'≠b:=fun i b' bq=>by have:=h.lt bq;have:=hn.fresh;omega
 have hK:∀ o,K b o=none:=fun o=>by
  cases hk:K b o with
  | none=>rfl
  | some g=>have:=h.fz.lt hk;have:=hn.fresh;omega
 refine ⟨h.ext.step hn.ext (fun j hj=>hj.elim),h.kle,h.ble.trans hle,h.loc,h.fz.ext hn.ext (fun _ _ _ _ h=>h),fun i x hi=>?_,fun i hi=>?_,fun i j b' hi hj=>?_,fun i b' hi=>?_,h.kn,h.tab.step hn.ext (fun _ h=>h.elim) (cm.refl K) (fun i b2 hi=>by rcases lT hi with h1 | h1;(· cases h1;exact .inr (by have:=hn.fresh;omega));exact .inl ⟨i,h1⟩)⟩
 ·by_cases r7:i < Γ.length
  ·rw [getElem?_append_left r7] at hi
   have bP:i≠Γ.length:=by omega
   exact (h.ob i x hi).ext hn.ext (fun _ _ h=>h) (cm.refl K) hle (bE bP) (fun _ _ _ h=>h)
  ·have:i=Γ.length:=by have:=(List.getElem?_eq_some_iff.1 hi).1;simp at this;omega
   subst this;simp at hi;subst hi;exact ⟨b,vs,bo,hn.blk,hr.mono (cm.refl K) hle,hK⟩
 ·simp at hi;rw [bE (by omega)];exact h.out i (by omega)
 ·by_cases h1:i=Γ.length <;> by_cases h2:j=Γ.length
  ·omega
  ·subst h1;rw [bo] at hi;rw [bE h2] at hj;cases hi;exact absurd rfl (ak j _ hj)
  ·subst h2;rw [bo] at hj;rw [bE h1] at hi;cases hj;exact absurd rfl (ak i _ hi)
  ·rw [bE h1] at hi;rw [bE h2] at hj;exact h.dis i j b' hi hj
 ·by_cases h1:i=Γ.length
  ·subst h1;rw [bo] at hi;cases hi;exact .inr (by have:=hn.fresh;have:=h.ext.size;omega)
  ·rw [bE h1] at hi;exact h.own i b' hi
theorem Inv.Ew {w':World} {E k:Nat} {x:Value} {xs:List Value} {rows:List (List GV)} (h:Inv B K β Γ w) (hx:Ext gq w w') (ho:gB w' 0 E k x rows.length xs) (hf:∀ b,x.ownBlock=some b->w.heap.size<=b)
  (hr:ba K β xs rows.flatten) (hk:fA k rows):Inv B K (fa β Γ.length (.gr x rows.length)) (Γ++[.vec E k 0 rows]) w':=by
 have b9:β Γ.length=.no:=h.out _ (Nat.le_refl _);have hle:cZ β (fa β Γ.length (.gr x rows.length)):=gO (by rw [b9];trivial)
 have ak:∀ i b',(β i).blk=some b'->x.ownBlock≠some b':=fun i b' bq he=>by have:=h.lt bq;have:=hf b' he;omega
 have hK:∀ b,x.ownBlock=some b->∀ o,K b o=none:=fun b hb o=>by
  cases hk:K b o with
  | none=>rfl
  | some g=>have:=h.fz.lt hk;have:=hf b hb;omega
 refine ⟨h.ext.step hx (fun j hj=>hj.elim),h.kle,h.ble.trans hle,h.loc,h.fz.ext hx (fun _ _ _ _ h=>h),fun i y hi=>?_,fun i hi=>?_,fun i j b' hi hj=>?_,fun i b' hi=>?_,h.kn,h.tab.step hx (fun _ h=>h.elim) (cm.refl K) (fun i b2 hi=>by rcases lT hi with h1 | h1;(· exact .inr (hf b2 h1));exact .inl ⟨i,h1⟩)⟩
 ·by_cases r7:i < Γ.length
  ·rw [getElem?_append_left r7] at hi
   have bP:i≠Γ.length:=by omega
   exact (h.ob i y hi).ext hx (fun _ _ h=>h) (cm.refl K) hle (bE bP) (fun _ _ _ h=>h)
  ·have:i=Γ.length:=by have:=(List.getElem?_eq_some_iff.1 hi).1;simp at this;omega
   subst this;simp at hi;subst hi;exact ⟨x,xs,bo,ho,hr.mono (cm.refl K) hle,hk,fun b hb=>⟨fun o _=>hK b hb o,fun o g ho _=>by omega⟩,Nat.zero_le _⟩
 ·simp at hi;rw [bE (by omega)];exact h.out i (by omega)
 ·by_cases h1:i=Γ.length <;> by_cases h2:j=Γ.length
  ·omega
  ·subst h1;rw [bo] at hi;rw [bE h2] at hj;exact absurd hi (ak j _ hj)
  ·subst h2;rw [bo] at hj;rw [bE h1] at hi;exact absurd hj (ak i _ hi)
  ·rw [bE h1] at hi;rw [bE h2] at hj;exact h.dis i j b' hi hj
 ·by_cases h1:i=Γ.length
  ·subst h1;rw [bo] at hi;exact .inr (Nat.le_trans h.ext.size (hf b' hi))
  ·rw [bE h1] at hi;exact h.own i b' hi
def kO (K:Fz) (b:Nat) (cs:List GV):Fz:=fun b' o=>if b'=b then cs[o]? else K b' o
theorem uN {b o:Nat} {cs:List GV} {g:GV} (h:cs[o]?=some g):kO K b cs b o=some g:=by simp [kO,h]
theorem Inv.tS {w':World} {b:Nat} {vs:List Value} {cs:List GV} {E:TypeId} (h:Inv B K β Γ w) (hn:uL w w' b (.cells vs.toArray E)) (hr:ba K β vs cs) (hp:∀ g∈cs,g.pc=true) :
  cm K (kO K b cs)/\Inv B (kO K b cs) β Γ w':=by
 have Uv:∀ o,K b o=none:=fun o=>by
  cases hk:K b o with
  | none=>rfl
  | some g=>have:=h.fz.lt hk;have:=hn.fresh;omega
 have hle:cm K (kO K b cs):=fun b' o g hg=>by
  by_cases hb:b'=b
  ·subst hb;rw [Uv] at hg;cases hg
  ·simp [kO,hb,hg]
 refine ⟨hle,h.ext.step hn.ext (fun j hj=>hj.elim),h.kle.trans hle,h.ble,h.loc,fun b' o g hg=>?_,fun i x hi=>?_,h.out,h.dis,h.own,fun b' o g hg=>?_,h.tab.step hn.ext (fun _ h=>h.elim) hle (fun i b2 h=>.inl ⟨i,h⟩)⟩
 ·by_cases hb:b'=b
  ·subst hb;simp [kO] at hg;obtain ⟨v,hv,eV⟩:=hr.at hg;have xM:=hp g (mem_of_getElem? hg);exact ⟨xM,v,vO hn.blk (by simpa using hv),(eV.mono hle (cZ.refl β)).pc xM⟩
  ·have lr:K b' o=some g:=by simpa [kO,hb] using hg
   obtain ⟨h1,v,h2,h3⟩:=h.fz b' o g lr;exact ⟨h1,v,hn.ext.c h2 (fun h=>h),h3.mono hle (cZ.refl _)⟩
 ·refine (h.ob i x hi).ext hn.ext (fun _ _ h=>h) hle (cZ.refl β) rfl (fun b' o hb hk=>?_)
  have:b'≠b:=by have:=h.lt hb;have:=hn.fresh;omega
  simp [kO,this,hk]
 ·by_cases hb:b'=b
  ·exact .inr (.inr (by have:=hn.fresh;have:=h.ext.size;omega))
  ·exact h.kn b' o g (by simpa [kO,hb] using hg)
theorem Inv.store {w':World} {i b:Nat} {E:TypeId} {cs y9:List GV} {V6:List Value} (h:Inv B K β Γ w) (hi:Γ[i]?=some (.box E cs)) (hb:β i=.fix b) (hs:tL w w' b V6.toArray E)
  (hr:ba K β V6 y9):Inv B K β (Γ.set i (.box E y9)) w':=by
 obtain ⟨b0,vs,h1,h2,h3,h4⟩:=h.ob i _ hi;rw [hb] at h1;cases h1
 have en:(β i).blk=some b:=by rw [hb];rfl
 refine ⟨h.ext.step hs.ext (fun j hj=>?_),h.kle,h.ble,h.loc,h.fz.ext hs.ext (fun b' o g hg he=>?_),fun j x hj=>?_,fun j hj=>h.out j (by simpa using hj),h.dis,h.own,h.kn,h.tab.step hs.ext (fun j hj=>⟨i,by subst hj;exact en⟩) (cm.refl K) (fun i b2 h=>.inl ⟨i,h⟩)⟩
 ·subst hj;exact (h.own i _ en).symm
 ·subst he;rw [h4] at hg;cases hg
 ·rw [getElem?_set] at hj;split at hj
  ·rename_i eR;split at hj
   ·cases hj;subst eR
    exact ⟨b,V6,hb,hs.blk,hr,h4⟩
   ·cases hj
  ·rename_i eR;refine (h.ob j x hj).ext hs.ext (fun b' bq he=>?_) (cm.refl K) (cZ.refl β) rfl (fun _ _ _ h=>h);subst he;exact eR (h.dis i j _ en bq)
def AP (K:Fz) (x:Value) (n:Nat) (fl:List GV):Fz:=fun b o=>if x.ownBlock=some b/\o < n then fl[o]? else K b o
theorem yz {x:Value} {n b o:Nat} {fl:List GV} (h1:x.ownBlock=some b) (h2:o < n):AP K x n fl b o=fl[o]?:=by unfold AP;rw [if_pos ⟨h1,h2⟩]
theorem vY {x:Value} {n b o:Nat} {fl:List GV} (h:¬ (x.ownBlock=some b/\o < n)):AP K x n fl b o=K b o:=by unfold AP;rw [if_neg h]
theorem AQ {x:Value} {n b o:Nat} {fl:List GV} {g:GV} (h:AP K x n fl b o=some g):(x.ownBlock=some b/\o < n/\fl[o]?=some g)\/(¬ (x.ownBlock=some b/\o < n)/\K b o=some g):=by
 by_cases hc:x.ownBlock=some b/\o < n
 ·rw [yz hc.1 hc.2] at h;exact .inl ⟨hc.1,hc.2,h⟩
 ·rw [vY hc] at h;exact .inr ⟨hc,h⟩
theorem Inv.grow {w':World} {i:Nat} {E k fz:Nat} {rows news:List (List GV)} {h0 x:Value} {xs ns:List Value} (h:Inv B K β Γ w) (hi:Γ[i]?=some (.vec E k fz rows)) (hb:β i=.gr h0 rows.length)
  (px:gB w 0 E k h0 rows.length xs/\ba K β xs rows.flatten) (ho:gB w' 0 E k x (rows.length+news.length) (xs++ns)) (hx:Ext (fun b=>h0.ownBlock=some b) w w') (hf:∀ b,x.ownBlock=some b->h0.ownBlock=some b\/w.heap.size<=b)
  (hr:ba K β ns news.flatten) (hk:fA k news) (bP:news≠[]) (lg:∀ b,h0.ownBlock=some b->∀ o v,o < fz * k->fF w.heap b o=some v->fF w'.heap b o=some v) :
  ∃ K',cm K K'/\cZ β (fa β i (.gr x (rows++news).length))/\Inv B K' (fa β i (.gr x (rows++news).length)) (Γ.set i (.vec E k fz (rows++news))) w':=by
 obtain ⟨sU,xs',h1,h2,h3,h4,h5,h6⟩:=h.ob i _ hi;rw [hb] at h1;cases h1;clear h2 h3
 have hlen:news.length≠0:=fun h=>bP (eq_nil_of_length_eq_zero h)
 have hle:cZ β (fa β i (.gr x (rows++news).length)):=gO (by rw [hb];exact ⟨x,_,rfl,by simp,fun he=>by rw [List.length_append] at he;omega⟩)
 have xB:∀ b,h0.ownBlock=some b->(β i).blk=some b:=fun b bq=>by rw [hb];exact bq
 have J3:rows.flatten.length=rows.length * k:=by rw [<-px.2.1];exact px.1.1
 have aaj:fz * k<=rows.flatten.length:=by rw [J3];exact Nat.mul_le_mul_right k h6
 have Da:cm K (AP K x (fz * k) rows.flatten):=fun b o g hg=>by
  by_cases hc:x.ownBlock=some b/\o < fz * k
  ·rw [yz hc.1 hc.2]
   rcases hf b hc.1 with h7 | h7
   ·have Rw:o < rows.flatten.length:=by omega
    have:=(h5 b h7).2 o rows.flatten[o] hc.2 (by simp [Rw]);rw [this] at hg;cases hg;simp [Rw]
   ·have:=h.fz.lt hg;omega
  ·rw [vY hc];exact hg
 refine ⟨AP K x (fz * k) rows.flatten,Da,hle,h.ext.step hx (fun j hj=>(h.own i j (xB j hj)).symm),h.kle.trans Da,h.ble.trans hle,h.loc,fun b o g hg=>?_,fun j y hj=>?_,fun j hj=>?_,fun j j' b hj lP=>?_,fun j b hj=>?_,fun b o g hg=>?_,h.tab.step hx (fun j hj=>⟨i,xB j hj⟩) Da (fun j b2 hi=>by rcases lT hi with h1 | h1;(· exact (hf b2 h1).imp (fun h2=>⟨i,xB b2 h2⟩) id);exact .inl ⟨j,h1⟩)⟩
 ·rcases AQ hg with ⟨bq,zn,hg⟩ | ⟨hc,hg⟩
  ·have xM:g.pc=true:=by
    obtain ⟨r,fY,dh⟩:=List.mem_flatten.1 (mem_of_getElem? hg);exact (h4 r fY).2 g dh
   obtain ⟨v,hv,eV⟩:=px.2.at hg;obtain ⟨b2,c,rG,_,_,jK⟩:=ho.cells.2 (by intro h0;have:xs=[]:=(List.append_eq_nil_iff.1 h0).1;rw [this] at hv;simp at hv)
   have eJ:b2=b:=by rw [rG] at bq;cases bq;rfl
   subst eJ;have ak:o < xs.length:=(List.getElem?_eq_some_iff.1 hv).1;refine ⟨xM,v,?_,(eV.mono Da hle).pc xM⟩;rw [<-ff];exact jK o v (by rw [getElem?_append_left ak];exact hv)
  ·obtain ⟨hp,v,hv,eV⟩:=h.fz b o g hg;refine ⟨hp,v,?_,eV.mono Da (cZ.refl _)⟩
   by_cases h7:h0.ownBlock=some b
   ·by_cases h8:o < fz * k
    ·exact lg b h7 o v h8 hv
    ·rw [(h5 b h7).1 o (by omega)] at hg;cases hg
   ·exact hx.c hv h7
 ·rw [getElem?_set] at hj;split at hj
  ·rename_i eR;split at hj
   ·cases hj;subst eR
    refine ⟨x,xs++ns,bo,by simpa using ho,?_,?_,fun b bq=>⟨fun o zn=>?_,fun o g zn hg=>?_⟩,by simp;omega⟩
    ·rw [List.flatten_append];exact (px.2.mono Da hle).app (hr.mono Da hle)
    ·intro r M9
     rcases List.mem_append.1 M9 with h7 | h7
     ·exact h4 r h7
     ·exact hk r h7
    ·rw [vY (by omega)]
     rcases hf b bq with h7 | h7
     ·exact (h5 b h7).1 o zn
     ·cases ly:K b o with
      | none=>rfl
      | some g=>have:=h.fz.lt ly;omega
    ·rw [yz bq zn];rw [List.flatten_append,getElem?_append_left (by omega)] at hg;exact hg
   ·cases hj
  ·rename_i eR;refine (h.ob j y hj).ext hx (fun b bq he=>?_) Da hle (bE (fun he=>eR he.symm)) (fun b o bq ly=>?_)
   ·exact eR (h.dis i j b (xB b he) bq)
   ·rw [vY];exact ly;rintro ⟨h7,_⟩
    rcases hf b h7 with h8 | h8
    ·exact eR (h.dis i j b (xB b h8) bq)
    ·have:=h.lt bq;omega
 ·have lP:Γ.length<=j:=by simpa using hj
  have:i < Γ.length:=(List.getElem?_eq_some_iff.1 hi).1;rw [bE (by omega)];exact h.out j lP
 ·have key:∀ j b,j≠i->(β j).blk=some b->x.ownBlock≠some b:=fun j b Fp bq he=>by
   rcases hf b he with h7 | h7
   ·exact Fp (h.dis j i b bq (xB b h7))
   ·have:=h.lt bq;omega
  by_cases h1:j=i <;> by_cases h2:j'=i
  ·omega
  ·subst h1;rw [bo] at hj;rw [bE h2] at lP;exact absurd hj (key j' b h2 lP)
  ·subst h2;rw [bo] at lP;rw [bE h1] at hj;exact absurd lP (key j b h1 hj)
  ·rw [bE h1] at hj;rw [bE h2] at lP;exact h.dis j j' b hj lP
 ·by_cases h1:j=i
  ·subst h1;rw [bo] at hj
   rcases hf b hj with h7 | h7
   ·exact h.own j b (xB b h7)
   ·exact .inr (Nat.le_trans h.ext.size h7)
  ·rw [bE h1] at hj;exact h.own j b hj
 ·rcases AQ hg with ⟨bq,_,_⟩ | ⟨_,hg⟩
  ·rcases hf b bq with h7 | h7
   ·exact .inr (h.own i b (xB b h7))
   ·exact .inr (.inr (Nat.le_trans h.ext.size h7))
  ·exact h.kn b o g hg
theorem Inv.jx {i E k fz:Nat} {rows:List (List GV)} (h:Inv B K β Γ w) (hi:Γ[i]?=some (.vec E k fz rows)) :
  ∃ K',cm K K'/\(∀ x b,β i=.gr x rows.length->x.ownBlock=some b->∀ (o:Nat) g,rows.flatten[o]?=some g->K' b o=some g)/\Inv B K' β (Γ.set i (.vec E k rows.length rows)) w:=by
 obtain ⟨x,xs,h1,h2,h3,h4,h5,h6⟩:=h.ob i _ hi
 have J3:rows.flatten.length=rows.length * k:=by rw [<-h3.1];exact h2.1
 have en:∀ b,x.ownBlock=some b->(β i).blk=some b:=fun b hb=>by rw [h1];exact hb
 have hle:cm K (AP K x (rows.length * k) rows.flatten):=fun b o g hg=>by
  by_cases hc:x.ownBlock=some b/\o < rows.length * k
  ·rw [yz hc.1 hc.2]
   have ak:o < rows.flatten.length:=by omega
   by_cases ho:o < fz * k
   ·have:=(h5 b hc.1).2 o rows.flatten[o] ho (by simp [ak]);rw [this] at hg;cases hg;simp [ak]
   ·rw [(h5 b hc.1).1 o (by omega)] at hg;cases hg
  ·rw [vY hc];exact hg
 refine ⟨AP K x (rows.length * k) rows.flatten,hle,fun x' b ID hb o g hg=>?_,h.ext,h.kle.trans hle,h.ble,h.loc,fun b o g hg=>?_,fun j y hj=>?_,fun j hj=>h.out j (by simpa using hj),h.dis,h.own,fun b o g hg=>?_,h.tab.step (S:=gq) (Ext.refl w) (fun _ h=>h.elim) hle (fun i b2 h=>.inl ⟨i,h⟩)⟩
 ·rw [h1] at ID;cases ID;rw [yz hb (by rw [<-J3];exact (List.getElem?_eq_some_iff.1 hg).1)];exact hg
 ·rcases AQ hg with ⟨bq,zn,hg⟩ | ⟨hc,hg⟩
  ·have xM:g.pc=true:=by
    obtain ⟨r,fY,dh⟩:=List.mem_flatten.1 (mem_of_getElem? hg);exact (h4 r fY).2 g dh
   obtain ⟨v,hv,eV⟩:=h3.at hg;obtain ⟨b2,c,rG,_,_,jK⟩:=h2.cells.2 (by intro h0;rw [h0] at hv;simp at hv)
   have eJ:b2=b:=by rw [rG] at bq;cases bq;rfl
   subst eJ;exact ⟨xM,v,by rw [<-ff];exact jK o v hv,(eV.mono hle (cZ.refl β)).pc xM⟩
  ·obtain ⟨h7,v,h8,h9⟩:=h.fz b o g hg;exact ⟨h7,v,h8,h9.mono hle (cZ.refl _)⟩
 ·rw [getElem?_set] at hj;split at hj
  ·rename_i eR;split at hj
   ·cases hj;subst eR
    refine ⟨x,xs,h1,h2,h3.mono hle (cZ.refl β),h4,fun b hb=>⟨fun o ho=>?_,fun o g ho hg=>?_⟩,Nat.le_refl _⟩
    ·rw [vY (by omega)];exact (h5 b hb).1 o (Nat.le_trans (Nat.mul_le_mul_right k h6) ho)
    ·rw [yz hb ho];exact hg
   ·cases hj
  ·rename_i eR;refine (h.ob j y hj).ext (Ext.refl w) (fun _ _ h=>h) hle (cZ.refl β) rfl (fun b o bq ly=>?_) (S:=gq);rw [vY];exact ly;rintro ⟨h7,_⟩;exact eR (h.dis i j b (en b h7) bq)
 ·rcases AQ hg with ⟨bq,_,_⟩ | ⟨_,hg⟩
  ·exact .inr (h.own i b (en b bq))
  ·exact h.kn b o g hg
end
mutual
def dz (f:Nat->Nat):GV->GV
 | .v x=>.v x
 | .U=>.U
 | .agg cs=>.agg (lF f cs)
 | .tup cs=>.tup (lF f cs)
 | .sl k rows=>.sl k rows
 | .box cs o=>.box cs o
 | .loc i o=>.loc (f i) o
 | .vec i n=>.vec (f i) n
 | .vp i n k idx off=>.vp (f i) n k idx off
 | .arr i o n=>.arr (f i) o n
 | .fn g a c=>.fn g (lF f a) (lF f c)
def lF (f:Nat->Nat):List GV->List GV
 | []=>[]
 | g::gs=>dz f g::lF f gs
end
theorem jT (f:Nat->Nat) (gs:List GV):lF f gs=gs.map (dz f):=by
 induction gs with
 | nil=>rfl
 | cons g gs ih=>simp [lF,ih]
theorem Rel.BD {K:Fz} {β:Bt} {f:Nat->Nat} {x:Value} {g:GV} (h:Rel K (fun j=>β (f j)) x g):Rel K β x (dz f g):=by
 induction h with
 | v x=>exact .v x
 | U x=>exact .U x
 | agg vs cs hl h ih =>
  rw [dz,jT]
  refine .agg vs _ (by simpa using hl) fun i v g h1 h2=>?_
  rw [getElem?_map] at h2
  cases hc:cs[i]? with
  | none=>rw [hc] at h2;cases h2
  | some c=>rw [hc] at h2;cases h2;exact ih i v c h1 hc
 | tup vs cs hl h ih =>
  rw [dz,jT]
  refine .tup vs _ (by simpa using hl) fun i v g h1 h2=>?_
  rw [getElem?_map] at h2
  cases hc:cs[i]? with
  | none=>rw [hc] at h2;cases h2
  | some c=>rw [hc] at h2;cases h2;exact ih i v c h1 hc
 | sl0 a c k=>exact .sl0 a c k
 | sl b o c k rows h hc=>exact .sl b o c k rows h hc
 | box b o' o cs h=>exact .box b o' o cs h
 | loc i o b h=>exact .loc _ o b h
 | vec i n a c h=>exact .vec _ n a c h
 | vp i n k idx off x h=>exact .vp _ n k idx off x h
 | arr i o n b c h=>exact .arr _ o n b c h
 | fn g xs ys first cap hl iN h h' ih ih' =>
  rw [dz,jT,jT];refine .fn g xs ys _ _ (by simpa using hl) (by simpa using iN) (fun i v g h1 h2=>?_) (fun i v g h1 h2=>?_)
  ·rw [getElem?_map] at h2
   cases hc:first[i]? with
   | none=>rw [hc] at h2;cases h2
   | some c=>rw [hc] at h2;cases h2;exact ih i v c h1 hc
  ·rw [getElem?_map] at h2
   cases hc:cap[i]? with
   | none=>rw [hc] at h2;cases h2
   | some c=>rw [hc] at h2;cases h2;exact ih' i v c h1 hc
theorem Rel.Bp {K:Fz} {β:Bt} {f:Nat->Nat} {x:Value} {g:GV} (h:Rel K β x (dz f g)):Rel K (fun j=>β (f j)) x g:=by
 generalize he:dz f g=g' at h
 induction h generalizing g with
 | v x =>
  cases g <;> simp only [dz] at he <;> first | (cases he;done) | skip
  cases he;exact .v x
 | U x =>
  cases g <;> simp only [dz] at he <;> first | (cases he;done) | skip
  exact .U x
 | agg vs cs hl h ih =>
  cases g <;> simp only [dz] at he <;> first | (cases he;done) | skip
  rename_i ds;rw [jT] at he;cases he
  exact .agg vs ds (by simpa using hl) fun i v g h1 h2=>ih i v (dz f g) h1 (by rw [getElem?_map,h2];rfl) rfl
 | tup vs cs hl h ih =>
  cases g <;> simp only [dz] at he <;> first | (cases he;done) | skip
  rename_i ds;rw [jT] at he;cases he
  exact .tup vs ds (by simpa using hl) fun i v g h1 h2=>ih i v (dz f g) h1 (by rw [getElem?_map,h2];rfl) rfl
 | sl0 a c k =>
  cases g <;> simp only [dz] at he <;> first | (cases he;done) | skip
  cases he;exact .sl0 a c _
 | sl b o c k rows h hc =>
  cases g <;> simp only [dz] at he <;> first | (cases he;done) | skip
  cases he;exact .sl b o c k rows h hc
 | box b o' o cs h =>
  cases g <;> simp only [dz] at he <;> first | (cases he;done) | skip
  cases he;exact .box b o' o cs h
 | loc i o b h =>
  cases g <;> simp only [dz] at he <;> first | (cases he;done) | skip
  cases he;exact .loc _ o b h
 | vec i n a c h =>
  cases g <;> simp only [dz] at he <;> first | (cases he;done) | skip
  cases he;exact .vec _ n a c h
 | vp i n k idx off x h =>
  cases g <;> simp only [dz] at he <;> first | (cases he;done) | skip
  cases he;exact .vp _ n k idx off x h
 | arr i o n b c h =>
  cases g <;> simp only [dz] at he <;> first | (cases he;done) | skip
  cases he;exact .arr _ o n b c h
 | fn g' xs ys first cap hl iN h h' ih ih' =>
  cases g <;> simp only [dz] at he <;> first | (cases he;done) | skip
  rename_i f' ds es;rw [jT,jT] at he;cases he;exact .fn _ xs ys ds es (by simpa using hl) (by simpa using iN) (fun i v g h1 h2=>ih i v (dz f g) h1 (by rw [getElem?_map,h2];rfl) rfl)
   (fun i v g h1 h2=>ih' i v (dz f g) h1 (by rw [getElem?_map,h2];rfl) rfl)
mutual
def GV.ok (p:Nat->Bool):GV->Bool
 | .loc i _=>p i
 | .vec i _=>p i
 | .vp i _ _ _ _=>p i
 | .arr i _ _=>p i
 | .agg cs=>DC p cs
 | .tup cs=>DC p cs
 | .fn _ a c=>DC p a&&DC p c
 | .v _=>true
 | .U=>true
 | .sl _ _=>true
 | .box _ _=>true
def DC (p:Nat->Bool):List GV->Bool
 | []=>true
 | g::gs=>GV.ok p g&&DC p gs
end
def below (n:Nat):Nat->Bool:=fun i=>Nat.blt i n
def other (n:Nat):Nat->Bool:=fun i=>!Nat.beq i n
abbrev GV.lt (n:Nat) (g:GV):Bool:=g.ok (below n)
theorem vq {p:Nat->Bool} {gs:List GV} (h:DC p gs=true) {g:GV} (hg:g∈gs):g.ok p=true:=by
 induction gs with
 | nil=>cases hg
 | cons x gs ih =>
  simp only [DC,Bool.and_eq_true] at h
  rcases List.mem_cons.1 hg with rfl | hg
  ·exact h.1
  ·exact ih h.2 hg
theorem Rel.res {K:Fz} {β:Bt} {p:Nat->Bool} {x:Value} {g:GV} (h:Rel K β x g) (hl:g.ok p=true):Rel K (fj p β) x g:=by
 induction h with
 | v x=>exact .v x
 | U x=>exact .U x
 | agg vs cs pQ h ih=>simp only [GV.ok] at hl;exact .agg vs cs pQ fun i v g h1 h2=>ih i v g h1 h2 (vq hl (mem_of_getElem? h2))
 | tup vs cs pQ h ih=>simp only [GV.ok] at hl;exact .tup vs cs pQ fun i v g h1 h2=>ih i v g h1 h2 (vq hl (mem_of_getElem? h2))
 | sl0 a c k=>exact .sl0 a c k
 | sl b o c k rows h hc=>exact .sl b o c k rows h hc
 | box b o' o cs h=>exact .box b o' o cs h
 | loc i o b h=>simp only [GV.ok] at hl;exact .loc _ o b (by rw [iv hl,h])
 | vec i m a c h=>simp only [GV.ok] at hl;exact .vec _ m a c (by rw [iv hl];exact h)
 | vp i m k idx off x h=>simp only [GV.ok] at hl;exact .vp _ m k idx off x (by rw [iv hl];exact h)
 | arr i o m b c h=>simp only [GV.ok] at hl;exact .arr _ o m b c (by rw [iv hl,h])
 | fn g' xs ys first cap pQ iN h h' ih ih' =>
  simp only [GV.ok,Bool.and_eq_true] at hl
  exact .fn _ xs ys first cap pQ iN (fun i v g h1 h2=>ih i v g h1 h2 (vq hl.1 (mem_of_getElem? h2))) (fun i v g h1 h2=>ih' i v g h1 h2 (vq hl.2 (mem_of_getElem? h2)))
def Ob.ok (p:Nat->Bool):Ob->Bool
 | .box _ cs=>DC p cs
 | _=>true
def Ob.dz (f:Nat->Nat):Ob->Ob
 | .box E cs=>.box E (lF f cs)
 | x=>x
def DB (p:Nat->Bool):List Ob->Bool
 | []=>true
 | x::r=>Ob.ok p x&&DB p r
abbrev zz (n:Nat) (Γ:List Ob):Bool:=DB (below n) Γ
theorem I6 {p:Nat->Bool} {gs:List Ob} (h:DB p gs=true) {g:Ob} (hg:g∈gs):g.ok p=true:=by
 induction gs with
 | nil=>cases hg
 | cons x gs ih =>
  simp only [DB,Bool.and_eq_true] at h
  rcases List.mem_cons.1 hg with rfl | hg
  ·exact h.1
  ·exact ih h.2 hg
def KS (p:Nat->Bool):List GV->List GV
 | []=>[]
 | g::gs=>(match GV.ok p g with | true=>g | false=>.U)::KS p gs
abbrev TX (n:Nat) (fr:List GV):List GV:=KS (below n) fr
theorem FR.res {K:Fz} {β:Bt} {p:Nat->Bool} {fr:List GV} {l:List Value} (h:FR K β fr l):FR K (fj p β) (KS p fr) l:=by
 induction h with
 | nil=>exact .nil
 | cons h t ih =>
  rw [KS];split
  ·rename_i hl;exact .cons (h.res hl) ih
  ·exact .cons (.U _) ih
theorem kg.res {K:Fz} {β:Bt} {w:World} {p:Nat->Bool} {i:Nat} {x:Ob} (h:kg K β w i x) (hi:p i=true) (hx:x.ok p=true):kg K (fj p β) w i x:=by
 cases x with
 | gone=>simp only [kg] at h |-;rw [iv hi,h]
 | box E cs =>
  obtain ⟨b,vs,h1,h2,h3,h4⟩:=h;exact ⟨b,vs,by rw [iv hi,h1],h2,⟨h3.1,fun i v g h5 h6=>(h3.2 i v g h5 h6).res (vq hx (mem_of_getElem? h6))⟩,h4⟩
 | vec E k fz rows =>
  obtain ⟨h0,xs,h1,h2,h3,h4,h5⟩:=h;refine ⟨h0,xs,by rw [iv hi,h1],h2,⟨h3.1,fun i v g h6 h7=>(h3.2 i v g h6 h7).pc ?_⟩,h4,h5⟩;obtain ⟨r,fY,dh⟩:=List.mem_flatten.1 (mem_of_getElem? h7);exact (h4 r fY).2 g dh
 | vech E k rows x =>
  obtain ⟨xs,h1,h2,h3,h4,h5⟩:=h;refine ⟨xs,by rw [iv hi,h1],h2,⟨h3.1,fun i v g h6 h7=>(h3.2 i v g h6 h7).pc ?_⟩,h4,h5⟩;obtain ⟨r,fY,dh⟩:=List.mem_flatten.1 (mem_of_getElem? h7);exact (h4 r fY).2 g dh
 | lost=>exact fun b hb=>h b (by rw [iv hi] at hb;exact hb)
section
variable {B:Bs} {K:Fz} {β:Bt} {Γ:List Ob} {w:World}
theorem yl {n i:Nat} (h:i < n):below n i=true:=by simpa [below] using h
theorem yk {n i:Nat} (h:n<=i):below n i=false:=by
 cases hb:below n i with
 | false=>rfl
 | true=>simp [below] at hb;omega
theorem Inv.cut {n:Nat} (h:Inv B K β Γ w) (hm:B.m<=n) (hl:zz n (Γ.take n)=true):Inv B K (fj (below n) β) (Γ.take n) w:=by
 have dk:∀ i b,(fj (below n) β i).blk=some b->(β i).blk=some b:=fun i b hi=>by
  simp only [fj] at hi;split at hi
  ·exact hi
  ·cases hi
 refine ⟨h.ext,h.kle,fun i=>?_,h.loc,h.fz,fun i x hi=>?_,fun i hi=>?_,fun i j b hi hj=>h.dis i j b (dk i b hi) (dk j b hj),fun i b hi=>h.own i b (dk i b hi),h.kn,h.tab.step (S:=gq) (Ext.refl w) (fun _ h=>h.elim) (cm.refl K) (fun i b2 h2=>.inl ⟨i,dk i b2 h2⟩)⟩
 ·by_cases fP:i < n
  ·rw [iv (yl fP)];exact h.ble i
  ·rw [h.loc i (by omega)];trivial
 ·have ak:=I6 hl (mem_of_getElem? hi);rw [getElem?_take] at hi;split at hi
  ·rename_i fP;exact (h.ob i x hi).res (yl fP) ak
  ·cases hi
 ·by_cases fP:i < n
  ·rw [iv (yl fP)];exact h.out i (by simp at hi;omega)
  ·exact sB (yk (by omega))
theorem I8 {i:Nat}:other i i=false:=by simp [other]
theorem vr {i j:Nat} (h:j≠i):other i j=true:=by
 cases hb:Nat.beq j i with
 | false=>simp [other,hb]
 | true=>exact absurd (Nat.eq_of_beq_eq_true hb) h
theorem Inv.freeze {i:Nat} {E:TypeId} {cs:List GV} (h:Inv B K β Γ w) (hi:Γ[i]?=some (.box E cs)) (hp:∀ g∈cs,g.pc=true) (b9:DB (other i) (Γ.set i .gone)=true) (hm:B.m<=i) :
  ∃ K',cm K K'/\(∀ b,β i=.fix b->∀ (j:Nat) g,cs[j]?=some g->K' b j=some g)/\Inv B K' (fj (other i) β) (Γ.set i .gone) w:=by
 obtain ⟨b,vs,h1,h2,h3,h4⟩:=h.ob i _ hi
 have en:(β i).blk=some b:=by rw [h1];rfl
 have hle:cm K (kO K b cs):=fun b' o g hg=>by
  by_cases hb:b'=b
  ·subst hb;rw [h4] at hg;cases hg
  ·simp [kO,hb,hg]
 have dk:∀ j b',(fj (other i) β j).blk=some b'->j≠i/\(β j).blk=some b':=fun j b' hj=>by
  by_cases og:j=i
  ·subst og;rw [sB I8] at hj;cases hj
  ·rw [iv (vr og)] at hj;exact ⟨og,hj⟩
 refine ⟨kO K b cs,hle,fun b' bq j g hg=>?_,h.ext,h.kle.trans hle,fun j=>?_,h.loc,fun b' o g hg=>?_,fun j x hj=>?_,fun j hj=>?_,fun j j' b' hj lP=>?_,fun j b' hj=>?_,fun b' o g hg=>?_,h.tab.step (S:=gq) (Ext.refl w) (fun _ h=>h.elim) hle (fun i b2 h2=>.inl ⟨i,(dk i b2 h2).2⟩)⟩
 ·rw [h1] at bq;cases bq;exact uN hg
 ·by_cases og:j=i
  ·subst og;rw [h.loc j hm];trivial
  ·rw [iv (vr og)];exact h.ble j
 ·by_cases hb:b'=b
  ·subst hb;simp [kO] at hg;obtain ⟨v,hv,eV⟩:=h3.at hg;have xM:=hp g (mem_of_getElem? hg);exact ⟨xM,v,vO h2 (by simpa using hv),(eV.mono hle (cZ.refl β)).pc xM⟩
  ·have lr:K b' o=some g:=by simpa [kO,hb] using hg
   obtain ⟨h5,v,h6,h7⟩:=h.fz b' o g lr;exact ⟨h5,v,h6,h7.mono hle (cZ.refl _)⟩
 ·have eG:=I6 b9 (mem_of_getElem? hj);rw [getElem?_set] at hj;split at hj
  ·rename_i eR;split at hj
   ·cases hj;subst eR;exact sB I8
   ·cases hj
  ·rename_i eR;refine kg.res ?_ (vr (fun he=>eR he.symm)) eG;refine (h.ob j x hj).ext (Ext.refl w) (fun _ _ h=>h) hle (cZ.refl β) rfl (fun b' o bq hk=>?_) (S:=gq)
   have:b'≠b:=fun he=>by subst he;exact eR (h.dis i j _ en bq)
   simp [kO,this,hk]
 ·have:i < Γ.length:=(List.getElem?_eq_some_iff.1 hi).1
  have lP:Γ.length<=j:=by simpa using hj
  rw [iv (vr (by omega))];exact h.out j lP
 ·exact h.dis j j' b' (dk j b' hj).2 (dk j' b' lP).2
 ·exact h.own j b' (dk j b' hj).2
 ·by_cases hb:b'=b
  ·subst hb;exact .inr (h.own i _ en)
  ·exact h.kn b' o g (by simpa [kO,hb] using hg)
end
abbrev dD:=Exit->List GV->List Ob->Prop
def gl (B:Bs) (Q:dD):lp:=fun e l w=>∃ K β fr Γ,Inv B K β Γ w/\FR K β fr l/\Q e fr Γ
def GW (P:Program) (m:Nat) (c:Code) (Q:dD) (fr:List GV) (Γ:List Ob):Prop :=
 ∀ B K β w l,B.m=m->Inv B K β Γ w->FR K β fr l->W P c (gl B Q) l w
def GL (P:Program) (m:Nat) (ops:Array Oper) (Q:dD) (rest:List Oper) (fr:List GV) (Γ:List Ob):Prop :=
 ∀ B K β w l,B.m=m->Inv B K β Γ w->FR K β fr l->WL P ops (gl B Q) rest l w
def aV (next:List GV->List Ob->Prop) (Q:dD):dD
 | .normal,fr,Γ=>next fr Γ
 | e,fr,Γ=>Q e fr Γ
def aZ (id:Nat) (Q:dD):dD
 | .exit Bd,fr,Γ=>if Bd=id then Q .normal fr Γ else Q (.exit Bd) fr Γ
 | e,fr,Γ=>Q e fr Γ
def Wk (m:Nat) (fr:List GV) (Γ:List Ob) (b8:List GV) (aK:List Ob):Prop :=
 ∀ B K β w l,B.m=m->Inv B K β Γ w->FR K β fr l->∃ K' bA,Inv B K' bA aK w/\FR K' bA b8 l
section
variable {P:Program} {m:Nat} {Q:dD} {fr:List GV} {Γ:List Ob} {ops:Array Oper} {rest:List Oper}
theorem Wk.trans {b8 My:List GV} {aK DV:List Ob} (h:Wk m fr Γ b8 aK) (k:Wk m b8 aK My DV):Wk m fr Γ My DV:=fun B K β w l hm hI hF=>by
 obtain ⟨K',bA,bg,u6⟩:=h B K β w l hm hI hF;exact k B K' bA w l hm bg u6
theorem GW.wk {c:Code} {b8:List GV} {aK:List Ob} (h:Wk m fr Γ b8 aK) (k:GW P m c Q b8 aK):GW P m c Q fr Γ:=fun B K β w l hm hI hF=>by
 obtain ⟨K',bA,bg,u6⟩:=h B K β w l hm hI hF;exact k B K' bA w l hm bg u6
theorem GL.wk {b8:List GV} {aK:List Ob} (h:Wk m fr Γ b8 aK) (k:GL P m ops Q rest b8 aK):GL P m ops Q rest fr Γ:=fun B K β w l hm hI hF=>by
 obtain ⟨K',bA,bg,u6⟩:=h B K β w l hm hI hF;exact k B K' bA w l hm bg u6
theorem Wk.cut {n:Nat} (hm:m<=n) (hl:zz n (Γ.take n)=true):Wk m fr Γ (TX n fr) (Γ.take n):=fun B K β w l hB hI hF =>
 ⟨K,fj (below n) β,hI.cut (by omega) hl,hF.res⟩
inductive sK:List GV->List GV->Prop
 | nil:sK [] []
 | U {f:GV} {fs gs:List GV} (h:sK fs gs):sK (f::fs) (.U::gs)
 | eq {f g:GV} {fs gs:List GV} (he:f=g) (h:sK fs gs):sK (f::fs) (g::gs)
theorem FR.ZS {K:Fz} {β:Bt} {l:List Value} {fr b8:List GV} (h:sK fr b8) (k:FR K β fr l):FR K β b8 l:=by
 induction h generalizing l with
 | nil=>exact k
 | U h ih=>cases k with | cons k1 k2=>exact .cons (.U _) (ih k2)
 | eq he h ih=>subst he;cases k with | cons k1 k2=>exact .cons k1 (ih k2)
theorem Wk.aC {b8:List GV} (h:sK fr b8):Wk m fr Γ b8 Γ:=fun B K β w l _ hI hF=>⟨K,β,hI,hF.ZS h⟩
theorem GW.seq {x y:Code} (h:GW P m x (aV (GW P m y Q) Q) fr Γ):GW P m (.seq x y) Q fr Γ:=fun B K β w l hm hI hF=>by
 refine W.seq (W.mono (h B K β w l hm hI hF) ?_);rintro e l w ⟨K,β,fr,Γ,hI,hF,hq⟩
 cases e with
 | normal=>exact hq B K β w l hm hI hF
 | _=>exact ⟨K,β,fr,Γ,hI,hF,hq⟩
theorem GW.skip (h:Q .normal fr Γ):GW P m .skip Q fr Γ:=fun B K β w l hm hI hF=>W.skip ⟨K,β,fr,Γ,hI,hF,h⟩
theorem GW.exit {n:Nat} (h:Q (.exit n) fr Γ):GW P m (.exit n) Q fr Γ:=fun B K β w l hm hI hF=>W.exit ⟨K,β,fr,Γ,hI,hF,h⟩
theorem GW.ret (h:Q .ret fr Γ):GW P m .ret Q fr Γ:=fun B K β w l hm hI hF=>W.ret ⟨K,β,fr,Γ,hI,hF,h⟩
theorem GW.block {id:Nat} {c:Code} (h:GW P m c (aZ id Q) fr Γ):GW P m (.block id c) Q fr Γ:=fun B K β w l hm hI hF=>by
 refine W.block (W.mono (h B K β w l hm hI hF) ?_);rintro e l w ⟨K,β,fr,Γ,hI,hF,hq⟩
 cases e with
 | exit Bd =>
  simp only [aZ] at hq;simp only [Vk];split <;> rename_i hh
  ·rw [if_pos hh] at hq;exact ⟨K,β,fr,Γ,hI,hF,hq⟩
  ·rw [if_neg hh] at hq;exact ⟨K,β,fr,Γ,hI,hF,hq⟩
 | _=>exact ⟨K,β,fr,Γ,hI,hF,hq⟩
theorem Rel.eD {K:Fz} {β:Bt} {x a:Value} (h:Rel K β x (.v a)):x=a:=by cases h;rfl
theorem FR.gV {K:Fz} {β:Bt} {l:List Value} {x:Operand} {a:Value} (h:FR K β fr l) (hx:aY fr x=.v a):Xw.ev l x=a:=Rel.eD (by rw [<-hx];exact h.ev x)
theorem GW.cond {c:Operand} {x y:Code} {t:Bool} (hc:aY fr c=.v (.bool t)) (ht:t=true->GW P m x Q fr Γ) (hf:t=false->GW P m y Q fr Γ):GW P m (.cond c x y) Q fr Γ:=fun B K β w l hm hI hF =>
 W.cond (hF.gV hc) (fun h=>ht h B K β w l hm hI hF) (fun h=>hf h B K β w l hm hI hF)
theorem Lz {c:Operand} {x y:Code} {t:Bool} (hc:aY fr c=.v (.bool t)) (ht:t=true) (h:GW P m x Q fr Γ):GW P m (.cond c x y) Q fr Γ:=GW.cond hc (fun _=>h) (fun h2=>by rw [ht] at h2;cases h2)
theorem Ly {c:Operand} {x y:Code} {t:Bool} (hc:aY fr c=.v (.bool t)) (ht:t=false) (h:GW P m y Q fr Γ):GW P m (.cond c x y) Q fr Γ:=GW.cond hc (fun h2=>by rw [ht] at h2;cases h2) (fun _=>h)
theorem GW.mono {c:Code} {Q':dD} (h:GW P m c Q fr Γ) (hq:∀ e fr Γ,Q e fr Γ->Q' e fr Γ):GW P m c Q' fr Γ:=fun B K β w l hm hI hF =>
 W.mono (h B K β w l hm hI hF) fun e l w ⟨K,β,fr,Γ,hI,hF,q⟩=>⟨K,β,fr,Γ,hI,hF,hq _ _ _ q⟩
def y5 (m:Nat) (K:List GV->List Ob->Prop) (fr:List GV) (Γ:List Ob):Prop:=∃ b8 aK,Wk m fr Γ b8 aK/\K b8 aK
theorem GW.loop {c:Code} {α:Type} (μ:α->Nat) (I:α->List GV->List Ob->Prop) (x:α) (h0:y5 m (I x) fr Γ)
  (round:∀ x fr Γ,I x fr Γ->GW P m c (aV (fun b8 aK=>∃ y,y5 m (I y) b8 aK/\μ y < μ x) Q) fr Γ):GW P m (.loop c) Q fr Γ:=fun B K β w l hm hI hF=>by
 obtain ⟨b8,aK,hw,h0⟩:=h0;obtain ⟨K',bA,bg,u6⟩:=hw B K β w l hm hI hF;refine W.loop μ (fun x l w=>∃ K β fr Γ,Inv B K β Γ w/\FR K β fr l/\I x fr Γ) x ⟨K',bA,b8,aK,bg,u6,h0⟩ ?_;rintro x l w ⟨K,β,fr,Γ,hI,hF,hi⟩;refine W.mono (round x fr Γ hi B K β w l hm hI hF) ?_;rintro e l w ⟨K,β,fr,Γ,hI,hF,hq⟩
 cases e with
 | normal =>
  obtain ⟨y,⟨b8,aK,hw,hy⟩,ak⟩:=hq;obtain ⟨K',bA,bg,u6⟩:=hw B K β w l hm hI hF;exact ⟨y,⟨K',bA,b8,aK,bg,u6,hy⟩,ak⟩
 | _=>exact ⟨K,β,fr,Γ,hI,hF,hq⟩
theorem GW.region {id:Nat} {ol:List Oper} (h:GL P m ol.toArray Q ol fr Γ):GW P m (.region id ol.toArray false) Q fr Γ:=fun B K β w l hm hI hF=>W.region (h B K β w l hm hI hF)
theorem GL.nil (h:Q .normal fr Γ):GL P m ops Q [] fr Γ:=fun B K β w l hm hI hF=>WL.nil ⟨K,β,fr,Γ,hI,hF,h⟩
end
section
variable {next:List GV->List Ob->Prop} {Q:dD} {fr:List GV} {Γ:List Ob} {id Bd:Nat}
theorem bb (h:next fr Γ):aV next Q .normal fr Γ:=h
theorem EZ (h:Q (.exit id) fr Γ):aV next Q (.exit id) fr Γ:=h
theorem mw (h:Q .ret fr Γ):aV next Q .ret fr Γ:=h
theorem gH (h:Q .normal fr Γ):aZ id Q .normal fr Γ:=h
theorem mu (h:Q .ret fr Γ):aZ id Q .ret fr Γ:=h
theorem Is (h:Q .normal fr Γ):aZ id Q (.exit id) fr Γ:=by simpa [aZ] using h
end
def GC (P:Program) (f:FuncId) (gs:List GV) (Γ:List Ob) (R:GV->List Ob->Prop):Prop :=
 ∀ B K β w vs,B.m=Γ.length->Inv B K β Γ w->ba K β vs gs->mi P f vs w fun v w'=>∃ K' bA g aK,Inv B K' bA aK w'/\Rel K' bA v g/\R g aK
abbrev GF (P:Program) (f:FuncId) (gs:List GV) (Γ:List Ob) (g:GV) (aK:List Ob):Prop:=GC P f gs Γ fun x Δ=>x=g/\Δ=aK
theorem GC.mono {P:Program} {f:FuncId} {gs:List GV} {Γ:List Ob} {R R':GV->List Ob->Prop} (h:GC P f gs Γ R) (hr:∀ g Γ,R g Γ->R' g Γ):GC P f gs Γ R':=fun B K β w vs hm hI hF =>
 (h B K β w vs hm hI hF).mono fun v w' ⟨K',bA,g,aK,h1,h2,h3⟩=>⟨K',bA,g,aK,h1,h2,hr _ _ h3⟩
def EY:Nat->List GV
 | 0=>[]
 | n+1=>.v undef::EY n
def xu:List GV->Nat->List GV
 | [],n=>EY n
 | a::r,n=>a::xu r (n - 1)
theorem FR.Gd {K:Fz} {β:Bt} (n:Nat):FR K β (EY n) (Gd n):=by
 induction n with
 | zero=>exact .nil
 | succ n ih=>exact .cons (.v _) ih
theorem FR.frame {K:Fz} {β:Bt} {vs:List Value} {gs:List GV} (h:ba K β vs gs) (n:Nat):FR K β (xu gs n) (frame vs n):=by
 induction gs generalizing vs n with
 | nil =>
  have:vs=[]:=eq_nil_of_length_eq_zero h.1;subst this;exact FR.Gd n
 | cons g gs ih =>
  cases vs with
  | nil=>have:=h.1;simp at this
  | cons v vs=>obtain ⟨h1,h2⟩:=h.nN;exact .cons h1 (ih h2 _)
def sT (P:Program) (fn:Func) (m:Nat) (R:GV->List Ob->Prop):dD:=fun e fr Γ =>
 (e=.normal\/e=.ret)/\∀ B K β w l,B.m=m->Inv B K β Γ w->FR K β fr l->∃ v K' bA g aK,(results fn l.toArray).run P w=.ok v w/\Inv B K' bA aK w/\Rel K' bA v g/\R g aK
theorem GC.enter {P:Program} {f:FuncId} {fn:Func} {c:Code} {gs:List GV} {Γ:List Ob} {R:GV->List Ob->Prop} {n:Nat} {fr:List GV}
  (hf:P.funcs[f]?=some fn) (hn:fn.ntmps=n) (hb:fn.body=some c) (hl:xu gs n=fr) (h:GW P Γ.length c (sT P fn Γ.length R) fr Γ):GC P f gs Γ R:=fun B K β w vs hm hI hF=>by
 subst hl;refine mi.enter hf hn hb rfl (W.mono (h B K β w _ hm hI (FR.frame hF n)) ?_);rintro e l w ⟨K,β,fr,Γ,hI,hF,he,hq⟩;obtain ⟨v,K',bA,g,aK,h1,h2,h3,h4⟩:=hq B K β w l hm hI hF
 rcases he with rfl | rfl
 ·exact ⟨v,h1,K',bA,g,aK,h2,h3,h4⟩
 ·exact ⟨v,h1,K',bA,g,aK,h2,h3,h4⟩
section
variable {P:Program} {fn:Func} {m:Nat} {R:GV->List Ob->Prop} {fr:List GV} {Γ:List Ob} {e:Exit}
theorem Ui {n:Nat} (hr:fn.results=#[]) (he:e=.normal\/e=.ret) (hm:m<=n) (hl:zz n (Γ.take n)=true) (h:R (.tup []) (Γ.take n)):sT P fn m R e fr Γ :=
 ⟨he,fun B K β w l hB hI hF=>⟨.tuple #[],K,fj (below n) β,.tup [],Γ.take n,by rw [results_none hr],hI.cut (by omega) hl,.tup [] [] rfl (fun i v g h=>by simp at h),h⟩⟩
theorem rV {n:Nat} {t:Tmp} {g:GV} (hr:fn.results=#[.tmp t]) (he:e=.normal\/e=.ret) (hg:cH fr t=g) (hm:m<=n) (hl:zz n (Γ.take n)=true) (jr:g.lt n=true) (h:R g (Γ.take n)):sT P fn m R e fr Γ :=
 ⟨he,fun B K β w l hB hI hF=>⟨nth l t,K,fj (below n) β,g,Γ.take n,by rw [results_tmp hr,jR],hI.cut (by omega) hl,by rw [<-hg] at jr |-;exact (hF.nth t).res jr,h⟩⟩
theorem Uj {n:Nat} {t u:Tmp} {g g':GV} (hr:fn.results=#[.tmp t,.tmp u]) (he:e=.normal\/e=.ret) (hg:cH fr t=g) (lr:cH fr u=g') (hm:m<=n) (hl:zz n (Γ.take n)=true) (jr:(GV.tup [g,g']).lt n=true) (h:R (.tup [g,g']) (Γ.take n)):sT P fn m R e fr Γ :=
 ⟨he,fun B K β w l hB hI hF=>⟨.tuple #[nth l t,nth l u],K,fj (below n) β,.tup [g,g'],Γ.take n,by rw [results_tmp2 hr,jR,jR],hI.cut (by omega) hl,by
  refine Rel.res ?_ jr;subst hg lr;have hc:ba K β [nth l t,nth l u] [cH fr t,cH fr u]:=.cons (hF.nth t) (.cons (hF.nth u) .nil)
  exact .tup [nth l t,nth l u] _ hc.1 hc.2,h⟩⟩
theorem Uk {n:Nat} {t u s:Tmp} {g g' g2:GV} (hr:fn.results=#[.tmp t,.tmp u,.tmp s]) (he:e=.normal\/e=.ret) (hg:cH fr t=g) (lr:cH fr u=g') (fM:cH fr s=g2) (hm:m<=n) (hl:zz n (Γ.take n)=true) (jr:(GV.tup [g,g',g2]).lt n=true)
  (h:R (.tup [g,g',g2]) (Γ.take n)):sT P fn m R e fr Γ :=
 ⟨he,fun B K β w l hB hI hF=>⟨.tuple #[nth l t,nth l u,nth l s],K,fj (below n) β,.tup [g,g',g2],Γ.take n,by
   rw [<-jR l t,<-jR l u,<-jR l s];simp [results,hr],hI.cut (by omega) hl,by
  refine Rel.res ?_ jr;subst hg lr fM;have hc:ba K β [nth l t,nth l u,nth l s] [cH fr t,cH fr u,cH fr s]:=.cons (hF.nth t) (.cons (hF.nth u) (.cons (hF.nth s) .nil))
  exact .tup [nth l t,nth l u,nth l s] _ hc.1 hc.2,h⟩⟩
theorem Ul {n:Nat} {t:Tmp} {T:TypeId} {k:Nat} [hT:Ty P T true k] {i:Nat} {E:TypeId} {cs:List GV} (hr:fn.results=#[.cell t T]) (he:e=.normal\/e=.ret) (hg:cH fr t=.loc i 0) (bz:Γ[i]?=some (.box E cs)) (hk:cs.length=k)
  (hm:m<=n) (hl:zz n (Γ.take n)=true) (jr:(GV.agg cs).lt n=true) (h:R (.agg cs) (Γ.take n)):sT P fn m R e fr Γ :=
 ⟨he,fun B K β w l hB hI hF=>by
  obtain ⟨b,vs,h1,h2,h3,h4⟩:=hI.ob i _ bz
  have hp:nth l t=.pointer (some ⟨b,0,none⟩):=by
   have:=hF.nth t;rw [hg] at this;generalize nth l t=v at this
   cases this with
   | loc _ _ b' bq=>rw [h1] at bq;cases bq;rfl
  have lf:l.toArray.getD t undef=.pointer (some ⟨b,0,none⟩):=by rw [jR,hp]
  have Fk:=nH (P:=P) (w:=w) (t:=T) (b:=b) (o:=0) (vs:=vs) (k:=k) (by rw [h3.1,hk]) (fun j v hj=>by
   rw [Nat.zero_add,cell_of_row w b j _ E (0,0) h2];simpa using hj)
  have zZ:l[t]?.getD undef=.pointer (some ⟨b,0,none⟩):=by simpa using lf
  exact ⟨.agg vs.toArray,K,fj (below n) β,.agg cs,Γ.take n,by simp [results,hr,zZ,asAddr,Fk],hI.cut (by omega) hl,Rel.res (.agg vs cs h3.1 h3.2) jr,h⟩⟩
end
def YG (P:Program) (op:Op) (fr:List GV) (Γ:List Ob) (g:GV):Prop :=
 ∀ B K β w l,Inv B K β Γ w->FR K β fr l->∃ v,ep P l w op v/\Rel K β v g
section
variable {P:Program} {m:Nat} {Q:dD} {fr:List GV} {Γ:List Ob} {ops:Array Oper} {rest:List Oper} {d:Option Tmp} {op:Op} {ty:TypeId} {pos:String} {af:Array Edge}
theorem GL.q {g:GV} (hy:YG P op fr Γ g) (h:GL P m ops Q rest (br fr d g) Γ):GL P m ops Q (⟨d,op,ty,pos,af,none⟩::rest) fr Γ:=fun B K β w l hm hI hF=>by
 obtain ⟨v,hr,hv⟩:=hy B K β w l hI hF;exact WL.v hr (h B K β w _ hm hI (hF.put d hv))
theorem rp {b8:List GV} {aK:List Ob} (h1:fr=b8) (h2:Γ=aK) (h:GL P m ops Q rest b8 aK):GL P m ops Q rest fr Γ:=by subst h1;subst h2;exact h
theorem GN {b8:List GV} (h1:fr=b8) (h:GL P m ops Q rest b8 Γ):GL P m ops Q rest fr Γ:=by subst h1;exact h
theorem YG.v1 {x:Operand} {a v:Value} (hx:aY fr x=.v a) (h:∀ l w,ev l x=a->ep P l w op v):YG P op fr Γ (.v v):=fun B K β w l hI hF=>⟨v,h l w (hF.gV hx),.v v⟩
theorem YG.v2 {x y:Operand} {a b v:Value} (hx:aY fr x=.v a) (hy:aY fr y=.v b) (h:∀ l w,ev l x=a->ev l y=b->ep P l w op v):YG P op fr Γ (.v v):=fun B K β w l hI hF=>⟨v,h l w (hF.gV hx) (hF.gV hy),.v v⟩
theorem YG.mv {x:Operand}:YG P (.move x) fr Γ (aY fr x):=fun B K β w l hI hF=>⟨_,R.mv,hF.ev x⟩
theorem YG.tN {x:Operand}:YG P (.assign x) fr Γ (aY fr x):=fun B K β w l hI hF=>⟨_,R.tN,hF.ev x⟩
theorem YG.Cm {fn:Fn} {first cap:List Operand}:YG P (.makeFunc fn first.toArray cap.toArray) fr Γ (.fn fn (first.map (aY fr)) (cap.map (aY fr))):=fun B K β w l hI hF =>
 ⟨_,R.Cm,by
  have h1:=hF.args first
  have h2:=hF.args cap
  simpa using Rel.fn fn _ _ _ _ h1.1 h2.1 h1.2 h2.2⟩
def B8:GV->Value
 | .v x=>x
 | _=>.nilFunc
def Un (ρ:Operand->Value) (op:Op):Option Value :=
 match op with
 | .binOp _ _ _ _ _=>go ρ op
 | .unOp _ _ _=>go ρ op
 | _=>none
theorem SL {K:Fz} {β:Bt} {x:Value} {g:GV} (h:Rel K β x g):B8 g=x\/B8 g=.nilFunc:=by
 cases h <;> first | exact .inl rfl | exact .inr rfl
theorem YG.go {v:Value} (h:Un (fun x=>B8 (aY fr x)) op=some v):YG P op fr Γ (.v v):=fun B K β w l hI hF=>by
 refine ⟨v,SI ?_,.v v⟩
 have key:∀ x,B8 (aY fr x)=ev l x\/B8 (aY fr x)=.nilFunc:=fun x=>SL (hF.ev x)
 unfold Un at h;split at h
 ·rename_i o t x y t';simp only [Xw.go] at h |-
  rcases key x with hx | hx <;> rcases key y with hy | hy <;> rw [hx,hy] at h
  ·exact h
  ·cases hv:ev l x <;> rw [hv] at h <;> cases h
  ·cases h
  ·cases h
 ·rename_i o t x;simp only [Xw.go,vX] at h |-
  rcases key x with hx | hx <;> rw [hx] at h
  ·exact h
  ·cases o <;> simp only at h <;> cases h
 ·cases h
theorem YG.zB {c a b:Operand} {t:Bool} (hc:aY fr c=.v (.bool t)) (ht:t=true):YG P (.pick c a b) fr Γ (aY fr a):=fun B K β w l hI hF=>⟨_,R.zB (hF.gV hc) ht,hF.ev a⟩
theorem YG.zA {c a b:Operand} {t:Bool} (hc:aY fr c=.v (.bool t)) (ht:t=false):YG P (.pick c a b) fr Γ (aY fr b):=fun B K β w l hI hF=>⟨_,R.zA (hF.gV hc) ht,hF.ev b⟩
theorem YG.ZL {x:Operand} {i o:Nat} (hx:aY fr x=.loc i o):YG P (.nilCheck x) fr Γ (.loc i o):=fun B K β w l hI hF=>by
 have h:=hF.ev x;rw [hx] at h;generalize hv:ev l x=v at h
 cases h with | loc _ _ b hb=>exact ⟨_,R.KH hv,.loc i o b hb⟩
theorem YG.ZK {x:Operand} {cs:List GV} {o:Nat} (hx:aY fr x=.box cs o):YG P (.nilCheck x) fr Γ (.box cs o):=fun B K β w l hI hF=>by
 have h:=hF.ev x;rw [hx] at h;generalize hv:ev l x=v at h
 cases h with | box b o' _ _ hb=>exact ⟨_,R.KH hv,.box b o' o cs hb⟩
theorem YG.P1 {x:Operand} {t:TypeId} [hT:pH P t] {s:ah} (hx:aY fr x=.v (sv s)):YG P (.call ⟨.builtin .len,#[x],#[t]⟩) fr Γ (.v (ii s.length)):=YG.v1 hx fun l w h=>R.P1 h
theorem YG.WX {x:Operand} {t e:TypeId} {k:Nat} [hT:mj P t e k] {k':Nat} {rows:List (List GV)} (hx:aY fr x=.sl k' rows):YG P (.call ⟨.builtin .len,#[x],#[t]⟩) fr Γ (.v (ii rows.length)):=fun B K β w l hI hF=>by
 have h:=hF.ev x;rw [hx] at h;generalize hv:ev l x=v at h
 cases h with
 | sl0 a c=>exact ⟨_,R.Kw hv,.v _⟩
 | sl b o c _ _ h _=>exact ⟨_,R.Kw hv,.v _⟩
theorem YG.ZH {x:Operand} {t e:TypeId} {k:Nat} [hT:mj P t e k] {i n:Nat} (hx:aY fr x=.vec i n):YG P (.call ⟨.builtin .len,#[x],#[t]⟩) fr Γ (.v (ii n)):=fun B K β w l hI hF=>by
 have h:=hF.ev x;rw [hx] at h;generalize hv:ev l x=v at h
 cases h with | vec _ _ a c h=>exact ⟨_,R.Kw hv,.v _⟩
theorem YG.ZG {x:Operand} {t e:TypeId} {k:Nat} [hT:mj P t e k] {a:Option Addr} {n c:Nat} (hx:aY fr x=.v (.slice a n c)):YG P (.call ⟨.builtin .len,#[x],#[t]⟩) fr Γ (.v (ii n)):=YG.v1 hx fun l w h=>R.Kw h
theorem YG.AL {x y:Operand} {t t':TypeId} {a b:ah} (hx:aY fr x=.v (sv a)) (hy:aY fr y=.v (sv b)):YG P (.binOp .eql t x y t') fr Γ (.v (.bool (a==b))):=YG.v2 hx hy fun l w h k=>R.AL h k
theorem YG.Bm {x y:Operand} {t t':TypeId} {a b:ah} (hx:aY fr x=.v (sv a)) (hy:aY fr y=.v (sv b)):YG P (.binOp .neq t x y t') fr Γ (.v (.bool (!(a==b)))):=YG.v2 hx hy fun l w h k=>R.Bm h k
theorem YG.qK {x y:Operand} {t:TypeId} [hT:pH P t] {s:ah} {k:IntKind} {i:Nat} {c:UInt8} (hx:aY fr x=.v (sv s)) (hy:aY fr y=.v (.int k i)) (hc:s[i]?=some c):YG P (.index t x y) fr Γ (.v (.int .u8 c.toNat)):=YG.v2 hx hy fun l w h k=>R.qK h k hc
theorem YG.add {x y:Operand} {t t':TypeId} {a b:Int} (hx:aY fr x=.v (ii a)) (hy:aY fr y=.v (ii b)) (hb : -9223372036854775808<=a+b/\a+b<=9223372036854775807):YG P (.binOp .add t x y t') fr Γ (.v (ii (a+b))):=YG.v2 hx hy fun l w h k=>R.add h k hb.1 hb.2
theorem YG.dM {x y:Operand} {t t':TypeId} {a b:Nat} (hx:aY fr x=.v (ii a)) (hy:aY fr y=.v (ii b)) (hb:a+b<=9223372036854775807):YG P (.binOp .add t x y t') fr Γ (.v (ii ((a+b:Nat):Int))):=YG.v2 hx hy fun l w h k=>R.dM h k hb
theorem YG.uw {x y:Operand} {t t':TypeId} {a:Nat} (hx:aY fr x=.v (ii a)) (hy:aY fr y=.v (ii 1)) (hb:a+1<=9223372036854775807):YG P (.binOp .add t x y t') fr Γ (.v (ii ((a+1:Nat):Int))):=YG.v2 hx hy fun l w h k=>R.uw h k hb
theorem YG.sub {x y:Operand} {t t':TypeId} {a b:Int} (hx:aY fr x=.v (ii a)) (hy:aY fr y=.v (ii b)) (hb : -9223372036854775808<=a - b/\a - b<=9223372036854775807):YG P (.binOp .sub t x y t') fr Γ (.v (ii (a - b))):=YG.v2 hx hy fun l w h k=>R.sub h k hb.1 hb.2
theorem YG.mul {x y:Operand} {t t':TypeId} {a b:Int} (hx:aY fr x=.v (ii a)) (hy:aY fr y=.v (ii b)) (hb : -9223372036854775808<=a * b/\a * b<=9223372036854775807):YG P (.binOp .mul t x y t') fr Γ (.v (ii (a * b))):=YG.v2 hx hy fun l w h k=>R.mul h k hb.1 hb.2
theorem YG.cat {x y:Operand} {t t':TypeId} {a b:ah} (hx:aY fr x=.v (sv a)) (hy:aY fr y=.v (sv b)) (hb:a.length+b.length<=9223372036854775807):YG P (.binOp .add t x y t') fr Γ (.v (sv (a++b))):=YG.v2 hx hy fun l w h k=>R.cat h k hb
theorem YG.Av {x:Operand} {t:TypeId} [hT:pH P t] {s:ah} {lo hi:Operand} {k k':IntKind} {i j:Nat} (hx:aY fr x=.v (sv s)) (fX:aY fr lo=.v (.int k i)) (oe:aY fr hi=.v (.int k' j)) (hb:i<=j/\j<=s.length):YG P (.slice t x (some lo) (some hi) none) fr Γ (.v (sv ((s.take j).drop i))) :=
 fun B K β w l hI hF=>⟨_,R.Qx (hF.gV hx) ⟨k,hF.gV fX⟩ ⟨k',hF.gV oe⟩ hb.1 hb.2,.v _⟩
theorem YG.Au {x:Operand} {t:TypeId} [hT:pH P t] {s:ah} {lo:Operand} {k:IntKind} {i:Nat} (hx:aY fr x=.v (sv s)) (fX:aY fr lo=.v (.int k i)) (hb:i<=s.length):YG P (.slice t x (some lo) none none) fr Γ (.v (sv (s.drop i))) :=
 fun B K β w l hI hF=>⟨_,by
  have:=R.Qx (P:=P) (w:=w) (l:=l) (t:=t) (lo:=some lo) (hi:=none) (i:=i) (j:=s.length) (hF.gV hx) ⟨k,hF.gV fX⟩ rfl hb (Nat.le_refl _);rw [List.take_length] at this
  exact this,.v _⟩
theorem YG.Aq {x:Operand} {t:TypeId} [hT:pH P t] {s:ah} {hi:Operand} {k:IntKind} {j:Nat} (hx:aY fr x=.v (sv s)) (oe:aY fr hi=.v (.int k j)) (hb:j<=s.length):YG P (.slice t x none (some hi) none) fr Γ (.v (sv (s.take j))) :=
 fun B K β w l hI hF=>⟨_,R.Qx (P:=P) (w:=w) (l:=l) (t:=t) (lo:=none) (hi:=some hi) (i:=0) (j:=j) (hF.gV hx) rfl ⟨k,hF.gV oe⟩ (Nat.zero_le _) hb,.v _⟩
theorem YG.ext {x:Operand} {i:Nat} {cs:List GV} {g:GV} (hx:aY fr x=.tup cs) (hg:cs[i]?=some g):YG P (.extract x i) fr Γ g:=fun B K β w l hI hF=>by
 have h:=hF.ev x;rw [hx] at h;generalize hv:ev l x=v at h
 cases h with
 | tup vs _ hl h =>
  have hi:i < vs.length:=by rw [hl];exact (List.getElem?_eq_some_iff.1 hg).1
  exact ⟨vs[i],R.extract hv (by simp [hi]),h i _ g (by simp [hi]) hg⟩
theorem YG.sj {x y:Operand} {t e:TypeId} {k:Nat} [hT:mj P t e k] {rows:List (List GV)} {kk:IntKind} {i:Nat} {r:List GV} (hx:aY fr x=.sl k rows) (hy:aY fr y=.v (.int kk i)) (hr:rows[i]?=some r):YG P (.indexAddr t x y) fr Γ (.box r 0):=fun B K β w l hI hF=>by
 have h:=hF.ev x;rw [hx] at h;have hi:=(List.getElem?_eq_some_iff.1 hr).1;generalize hv:ev l x=v at h
 cases h with
 | sl0 a c=>simp at hi
 | sl b o c _ _ h _=>exact ⟨_,R.uD hv (hF.gV hy) hi,.box b (o+i * k) 0 r (h i r hr).2⟩
theorem YG.Ud {x:Operand} {s:TypeId} {f off k:Nat} {agg:Bool} [hT:dr P s f off k agg] {i o:Nat} (hx:aY fr x=.loc i o):YG P (.fieldAddr s x f) fr Γ (.loc i (o+off)):=fun B K β w l hI hF=>by
 have h:=hF.ev x;rw [hx] at h;generalize hv:ev l x=v at h
 cases h with | loc _ _ b hb=>exact ⟨_,R.Ph hv,.loc i _ b hb⟩
theorem YG.Uc {x:Operand} {s:TypeId} {f off k:Nat} {agg:Bool} [hT:dr P s f off k agg] {cs:List GV} {o:Nat} (hx:aY fr x=.box cs o):YG P (.fieldAddr s x f) fr Γ (.box cs (o+off)):=fun B K β w l hI hF=>by
 have h:=hF.ev x;rw [hx] at h;generalize hv:ev l x=v at h
 cases h with | box b o' _ _ hb=>exact ⟨_,R.Ph hv,by rw [Nat.add_assoc];exact .box b o' _ cs hb⟩
theorem YG.Du {x:Operand} {t:TypeId} [hT:Ty P t false 1] {i o:Nat} {E:TypeId} {cs:List GV} {g:GV} (hx:aY fr x=.loc i o) (bz:Γ[i]?=some (.box E cs)) (hg:cs[o]?=some g):YG P (.load t x) fr Γ g:=fun B K β w l hI hF=>by
 have h:=hF.ev x;rw [hx] at h;generalize hv:ev l x=v at h
 cases h with
 | loc _ _ b hb =>
  obtain ⟨b',vs,h1,h2,h3,h4⟩:=hI.ob i _ bz;rw [hb] at h1;cases h1;obtain ⟨u,hu,hr⟩:=h3.at hg;exact ⟨u,R.ld hv (vO h2 (by simpa using hu)),hr⟩
theorem YG.Dt {x:Operand} {t:TypeId} [hT:Ty P t false 1] {cs:List GV} {o:Nat} {g:GV} (hx:aY fr x=.box cs o) (hg:cs[o]?=some g):YG P (.load t x) fr Γ g:=fun B K β w l hI hF=>by
 have h:=hF.ev x;rw [hx] at h;generalize hv:ev l x=v at h
 cases h with
 | box b o' _ _ hb =>
  obtain ⟨hp,u,hu,hr⟩:=hI.fz _ _ _ (hb o g hg);exact ⟨u,R.ld hv hu,hr.pc hp⟩
theorem tz {k:Nat} {rows:List (List GV)} (hk:fA k rows) {i j:Nat} {r:List GV} {g:GV} (hr:rows[i]?=some r) (hg:r[j]?=some g):rows.flatten[i * k+j]?=some g:=by
 induction rows generalizing i with
 | nil=>simp at hr
 | cons a rows ih =>
  have ha:a.length=k:=(hk a (mem_cons_self)).1
  cases i with
  | zero =>
   cases hr;have hj:=(List.getElem?_eq_some_iff.1 hg).1;rw [Nat.zero_mul,Nat.zero_add,flatten_cons,getElem?_append_left hj];exact hg
  | succ i =>
   rw [flatten_cons,List.getElem?_append_right (by rw [ha,Nat.succ_mul];omega),ha];rw [show (i+1) * k+j - k=i * k+j by rw [Nat.succ_mul];omega];exact ih (fun r hr=>hk r (mem_cons_of_mem _ hr)) (by simpa using hr)
theorem YG.xX {x:Operand} {t:TypeId} {k:Nat} [hT:Ty P t true k] {i o:Nat} {E:TypeId} {cs gs:List GV} (hx:aY fr x=.loc i o) (bz:Γ[i]?=some (.box E cs)) (hg:(cs.drop o).take k=gs) (hk:gs.length=k):YG P (.load t x) fr Γ (.agg gs):=fun B K β w l hI hF=>by
 have h:=hF.ev x;rw [hx] at h;generalize hv:ev l x=v at h
 cases h with
 | loc _ _ b hb =>
  obtain ⟨b',vs,h1,h2,h3,h4⟩:=hI.ob i _ bz;rw [hb] at h1;cases h1;have h5:=(h3.drop o).take k;rw [hg] at h5;refine ⟨.agg ((vs.drop o).take k).toArray,R.Yh hv (by rw [h5.1,hk]) (fun j v hj=>?_),.agg _ _ h5.1 h5.2⟩;rw [getElem?_take] at hj;split at hj
  ·rw [getElem?_drop] at hj;exact vO h2 (by simpa using hj)
  ·cases hj
theorem vR {K:Fz} {β:Bt} {H:Array Obj} {b:Nat}:∀ (gs:List GV) (o:Nat),(∀ (j:Nat) g,gs[j]?=some g->∃ v,fF H b (o+j)=some v/\Rel K β v g)->∃ vs:List Value,ba K β vs gs/\∀ (j:Nat) v,vs[j]?=some v->fF H b (o+j)=some v
 | [],o,_=>⟨[],.nil,fun j v h=>by simp at h⟩
 | g::gs,o,h=>by
  obtain ⟨v,hv,hr⟩:=h 0 g rfl;obtain ⟨vs,h1,h2⟩:=vR gs (o+1) (fun j g' hg=>by rw [show o+1+j=o+(j+1) by omega];exact h (j+1) g' hg);refine ⟨v::vs,.cons hr h1,fun j u hj=>?_⟩
  cases j with
  | zero=>cases hj;exact hv
  | succ j=>rw [show o+(j+1)=o+1+j by omega];exact h2 j u hj
theorem YG.xV {x:Operand} {t:TypeId} {k:Nat} [hT:Ty P t true k] {cs gs:List GV} {o:Nat} (hx:aY fr x=.box cs o) (hg:(cs.drop o).take k=gs) (hk:gs.length=k):YG P (.load t x) fr Γ (.agg gs):=fun B K β w l hI hF=>by
 have h:=hF.ev x;rw [hx] at h;generalize hv:ev l x=v at h
 cases h with
 | box b o' _ _ hb =>
  obtain ⟨vs,h1,h2⟩:=vR (K:=K) (β:=β) (H:=w.heap) (b:=b) gs (o'+o) (fun j g hj=>by
   have lP:cs[o+j]?=some g:=by
    rw [<-hg,getElem?_take] at hj;split at hj
    ·rw [getElem?_drop] at hj;exact hj
    ·cases hj
   obtain ⟨hp,u,hu,hr⟩:=hI.fz _ _ _ (hb (o+j) g lP)
   exact ⟨u,by rw [Nat.add_assoc];exact hu,hr.pc hp⟩)
  exact ⟨.agg vs.toArray,R.Yh hv (by rw [h1.1,hk]) h2,.agg _ _ h1.1 h1.2⟩
def mr:GV->Option (List GV)
 | .v x=>match KM x with
  | true=>some [.v x]
  | false=>none
 | .agg cs=>some cs
 | .U=>none
 | .tup _=>none
 | .vp _ _ _ _ _=>none
 | .sl k rows=>some [.sl k rows]
 | .box cs o=>some [.box cs o]
 | .loc i o=>some [.loc i o]
 | .vec i n=>some [.vec i n]
 | .arr i o n=>some [.arr i o n]
 | .fn f a c=>some [.fn f a c]
def nW:List GV->Nat->List GV->List GV
 | cs,_,[]=>cs
 | cs,o,v::r=>nW (bs cs o v) (o+1) r
def yy (pl:Nat->Option (Nat × Nat)):List GV->List (Nat × GV)->Option (List GV)
 | cs,[]=>some cs
 | cs,(i,g)::r=>match pl i with
  | none=>none
  | some (o,k)=>match mr g with
   | none=>none
   | some gs=>if gs.length≠k || decide (o+gs.length > cs.length) then none else yy pl (nW cs o gs) r
theorem Rel.cells {K:Fz} {β:Bt} {x:Value} {g:GV} {gs:List GV} (h:Rel K β x g) (hg:mr g=some gs):∃ vs:List Value,x.cells=vs.toArray/\ba K β vs gs:=by
 have one:∀ {x:Value} {g:GV},Rel K β x g->x.cells=#[x]->∃ vs:List Value,x.cells=vs.toArray/\ba K β vs [g]:=fun hr hc=>⟨[_],hc,.cons hr .nil⟩
 cases h with
 | v x =>
  simp only [mr] at hg;split at hg
  ·rename_i ho;cases hg;exact one (.v _) (wC ho).1
  ·cases hg
 | U x=>cases hg
 | agg vs cs hl h=>cases hg;exact ⟨vs,rfl,hl,h⟩
 | tup vs cs hl h=>cases hg
 | sl0 a c k=>cases hg;exact one (.sl0 a c k) rfl
 | sl b o c k rows h hc=>cases hg;exact one (.sl b o c k rows h hc) rfl
 | box b o' o cs h=>cases hg;exact one (.box b o' o cs h) rfl
 | loc i o b h=>cases hg;exact one (.loc i o b h) rfl
 | vec i n a c h=>cases hg;exact one (.vec i n a c h) rfl
 | vp i n k idx off x h=>cases hg
 | arr i o n b c h=>cases hg;exact one (.arr i o n b c h) rfl
 | fn f xs ys first cap hl iN h h'=>cases hg;exact one (.fn f xs ys first cap hl iN h h') rfl
def ma:List GV->Bool
 | []=>true
 | g::gs=>g.one&&ma gs
def rM:List GV->Bool
 | []=>true
 | g::gs=>g.pc&&rM gs
theorem mP {gs:List GV} (h:rM gs=true):∀ g∈gs,g.pc=true:=by
 induction gs with
 | nil=>intro g hg;cases hg
 | cons x gs ih =>
  simp only [rM,Bool.and_eq_true] at h;intro g hg
  rcases List.mem_cons.1 hg with rfl | hg
  ·exact h.1
  ·exact ih h.2 g hg
theorem ba.lC {K:Fz} {β:Bt} {vs:List Value} {gs:List GV} (h:ba K β vs gs) (ho:ma gs=true):lC vs=true:=by
 induction gs generalizing vs with
 | nil=>have:vs=[]:=eq_nil_of_length_eq_zero h.1;subst this;rfl
 | cons g gs ih =>
  cases vs with
  | nil=>have:=h.1;simp at this
  | cons v vs =>
   simp only [ma,Bool.and_eq_true] at ho;obtain ⟨h1,h2⟩:=h.nN;have h3:=(wC (h1.one ho.1)).2;have h4:=ih h2 ho.2;simp only [Xw.lC,all_cons,Bool.and_eq_true] at h4 |-;exact ⟨h3,h4⟩
end
theorem ba.gM {K:Fz} {β:Bt} {us:List Value} {hs:List GV} (k:ba K β us hs):∀ {vs:List Value} {gs:List GV} (o:Nat),ba K β vs gs->ba K β (gM vs o us) (nW gs o hs):=by
 have hu:∀ {vs:List Value} {gs:List GV} (o:Nat) {v:Value} {g:GV},Rel K β v g->ba K β vs gs->ba K β (eU vs o v) (bs gs o g):=by
  intro vs
  induction vs with
  | nil =>
   intro gs o v g hv h;have:gs=[]:=eq_nil_of_length_eq_zero h.1.symm;subst this;exact .nil
  | cons x vs ih =>
   intro gs o v g hv h
   cases gs with
   | nil=>have:=h.1;simp at this
   | cons y gs =>
    obtain ⟨h1,h2⟩:=h.nN
    cases o with
    | zero=>exact .cons hv h2
    | succ o=>exact .cons h1 (ih o hv h2)
 induction us generalizing hs with
 | nil =>
  intro vs gs o h;have:hs=[]:=eq_nil_of_length_eq_zero k.1.symm;subst this;exact h
 | cons u us ih =>
  intro vs gs o h
  cases hs with
  | nil=>have:=k.1;simp at this
  | cons g hs =>
   obtain ⟨h1,h2⟩:=k.nN;exact ih h2 (o+1) (hu o h1 h)
theorem vW {K:Fz} {β:Bt} {pl:Nat->Option (Nat × Nat)} {l:List Value} {fr:List GV} (hF:FR K β fr l):∀ (parts:List (Nat × Operand)) (vs:List Value) (gs cs:List GV),ba K β vs gs ->
  yy pl gs (parts.map fun x=>(x.1,aY fr x.2))=some cs->∃ us,pN pl vs (parts.map fun x=>(x.1,ev l x.2))=some us/\ba K β us cs
 | [],vs,gs,cs,h,hf=>by cases hf;exact ⟨vs,rfl,h⟩
 | (i,x)::r,vs,gs,cs,h,hf=>by
  simp only [List.map_cons,yy] at hf;simp only [List.map_cons,pN]
  cases hp:pl i with
  | none=>rw [hp] at hf;cases hf
  | some y =>
   obtain ⟨o,k⟩:=y;rw [hp] at hf;simp only at hf |-
   cases hg:mr (aY fr x) with
   | none=>rw [hg] at hf;cases hf
   | some hs =>
    rw [hg] at hf;simp only at hf;obtain ⟨us,kc,kD⟩:=(hF.ev x).cells hg
    have cU:(ev l x).cells.size=hs.length:=by rw [kc];simpa using kD.1
    rw [cU,h.1];split at hf
    ·cases hf
    ·rename_i hc;rw [if_neg hc]
     have jB:(ev l x).cells.toList=us:=by rw [kc]
     rw [jB];exact vW hF r _ _ cs (kD.gM o h) hf
section
variable {P:Program} {m:Nat} {Q:dD} {fr:List GV} {Γ:List Ob} {ops:Array Oper} {rest:List Oper} {d:Option Tmp} {op:Op} {ty:TypeId} {pos:String} {af:Array Edge}
def lU (z:List Value):List GV:=z.map .v
theorem YG.build {t:TypeId} {pl:List (Nat × Nat)} {z:List Value} [hT:tK P t pl z] {parts:List (Nat × Operand)} {cs:List GV} (hf:yy (fun i=>pl[i]?) (lU z) (parts.map fun x=>(x.1,aY fr x.2))=some cs) :
  YG P (.build t parts.toArray) fr Γ (.agg cs):=fun B K β w l hI hF=>by
 obtain ⟨us,h1,h2⟩:=vW hF parts z _ cs ba.self hf;exact ⟨_,R.build h1,.agg us cs h2.1 h2.2⟩
theorem mA {K:Fz} {β:Bt} {l:List Value} {t:Nat} (h:FR K β fr l) (ht:jC fr t=true):jC l t=true:=by
 induction h generalizing t with
 | nil=>cases ht
 | cons _ _ ih=>cases t with | zero=>rfl | succ t=>exact ih ht
theorem sA {l:List Value} {t:Nat} (h:jC l t=true) (u:Value):nth (eU l t u) t=u:=by
 induction l generalizing t with
 | nil=>cases h
 | cons x l ih=>cases t with | zero=>rfl | succ t=>exact ih h
theorem nY {l:List Value} {t t':Nat} (h:t'≠t) (u:Value):nth (eU l t u) t'=nth l t':=by
 induction l generalizing t t' with
 | nil=>rfl
 | cons x l ih=>cases t with
  | zero=>cases t' with | zero=>exact absurd rfl h | succ t'=>rfl
  | succ t=>cases t' with | zero=>rfl | succ t'=>exact ih (fun e=>h (by rw [e]))
theorem GL.alloc {t:TypeId} {z:Value} {cs:List GV} [hT:qk P t z] (hz:lU z.cells.toList=cs) (h:GL P m ops Q rest (br fr d (.loc Γ.length 0)) (Γ++[.box t cs])):GL P m ops Q (⟨d,.alloc t,ty,pos,af,none⟩::rest) fr Γ:=fun B K β w l hm hI hF=>by
 refine WL.alloc (z:=z) fun b w' hn=>?_
 have bg:=hI.add (vs:=z.cells.toList) (cs:=cs) (E:=t) (by simpa using hn) (by rw [<-hz];exact ba.self);exact h B K _ w' _ hm bg ((hF.mono (cm.refl K) (gO (by rw [hI.out _ (Nat.le_refl _)];trivial))).put d (.loc _ 0 b bo))
theorem GL.box {t:TypeId} {x:Operand} {cs:List GV} (hx:mr (aY fr x)=some cs) (h:GL P m ops Q rest (br fr d (.loc Γ.length 0)) (Γ++[.box t cs])):GL P m ops Q (⟨d,.box t x,ty,pos,af,none⟩::rest) fr Γ:=fun B K β w l hm hI hF=>by
 obtain ⟨vs,h1,h2⟩:=(hF.ev x).cells hx
 refine WL.box rfl fun b w' hn=>?_
 rw [h1] at hn;have bg:=hI.add hn h2;exact h B K _ w' _ hm bg ((hF.mono (cm.refl K) (gO (by rw [hI.out _ (Nat.le_refl _)];trivial))).put d (.loc _ 0 b bo))
def oset:List Ob->Nat->Ob->List Ob
 | [],_,_=>[]
 | _::l,0,x=>x::l
 | y::l,n+1,x=>y::oset l n x
theorem bd (l:List Ob) (i:Nat) (x:Ob):oset l i x=l.set i x:=by
 induction l generalizing i with
 | nil=>rfl
 | cons y l ih=>cases i with | zero=>rfl | succ i=>simp [oset,ih]
theorem um:∀ (us:List Value) (vs:List Value) (o:Nat),uG vs.toArray o us=(gM vs o us).toArray
 | [],vs,o=>rfl
 | u::us,vs,o=>by rw [uG,gM,yf];exact um us _ _
theorem GL.st {x y:Operand} {t:TypeId} {agg:Bool} {k:Nat} [hT:Ty P t agg k] {i o:Nat} {E:TypeId} {cs gs:List GV} (hx:aY fr x=.loc i o) (bz:Γ[i]?=some (.box E cs)) (hy:mr (aY fr y)=some gs) (hk:gs.length=k) (h1:ma gs=true)
  (hl:Nat.ble (o+k) cs.length=true) (h:GL P m ops Q rest (br fr d (.v undef)) (oset Γ i (.box E (nW cs o gs)))):GL P m ops Q (⟨d,.store t x y,ty,pos,af,none⟩::rest) fr Γ:=fun B K β w l hm hI hF=>by
 have hr:=hF.ev x;rw [hx] at hr;generalize hv:ev l x=v at hr
 cases hr with
 | loc _ _ b hb =>
  obtain ⟨b',vs,h2,h3,h4,h5⟩:=hI.ob i _ bz;rw [hb] at h2;cases h2;obtain ⟨us,kc,kD⟩:=(hF.ev y).cells hy
  have iN:o+k<=cs.length:=by simpa using hl
  refine WL.st (t:=t) hv rfl h3 (by rw [kc];simpa [hk] using kD.1) (by rw [size_toArray,h4.1];exact iN) (by rw [kc];simpa using kD.lC h1) fun w' hs=>?_
  rw [kc,List.toList_toArray,um] at hs;have bg:=hI.store bz hb hs (kD.gM o h4);rw [<-bd] at bg;exact h B K β w' _ hm bg (hF.put d (.v _))
def chunk:Nat->Nat->List GV->List (List GV)
 | 0,_,_=>[]
 | n+1,k,gs=>gs.take k::chunk n k (gs.drop k)
theorem vS {k:Nat}:∀ (n:Nat) (gs:List GV),gs.length=n * k->(chunk n k gs).flatten=gs/\(chunk n k gs).length=n/\∀ r∈chunk n k gs,r.length=k/\∀ g∈r,g∈gs
 | 0,gs,h=>by
  have:gs=[]:=eq_nil_of_length_eq_zero (by simpa using h);subst this;exact ⟨rfl,rfl,fun r hr=>by cases hr⟩
 | n+1,gs,h=>by
  have hk:k<=gs.length:=by rw [h,Nat.succ_mul];omega
  obtain ⟨h1,h2,h3⟩:=vS (k:=k) n (gs.drop k) (by rw [List.length_drop,h,Nat.succ_mul];omega);refine ⟨by rw [chunk,flatten_cons,h1,List.take_append_drop],by rw [chunk,length_cons,h2],fun r hr=>?_⟩;rw [chunk] at hr
  rcases List.mem_cons.1 hr with rfl | hr
  ·exact ⟨by simp [hk],fun g hg=>List.mem_of_mem_take hg⟩
  ·obtain ⟨h4,h5⟩:=h3 r hr;exact ⟨h4,fun g hg=>List.mem_of_mem_drop (h5 g hg)⟩
def zs:Nat->List Value->List GV
 | 0,_=>[]
 | n+1,z=>lU z++zs n z
theorem G3 {K:Fz} {β:Bt} {n k:Nat} {z:List Value} (hz:z.length=k) (hk:0 < k):ba K β ((List.range (n * k)).map fun j=>z.getD (j % k) undef) (zs n z):=by
 induction n with
 | zero=>simpa [zs] using ba.nil
 | succ n ih =>
  have he:(List.range ((n+1) * k)).map (fun j=>z.getD (j % k) undef)=(List.range k).map (fun j=>z.getD (j % k) undef)++(List.range (n * k)).map fun j=>z.getD (j % k) undef:=by
   rw [Nat.succ_mul,Nat.add_comm,List.range_add,List.map_append,List.map_map]
   congr 1
   apply List.map_congr_left;intro j _;simp
  rw [he,zs];refine ba.app ?_ ih
  have:(List.range k).map (fun j=>z.getD (j % k) undef)=z:=by
   apply List.ext_getElem
   ·simp [hz]
   ·intro j h1 h2;simp at h1;simp [Nat.mod_eq_of_lt h1,List.getElem?_eq_getElem h2]
  rw [this];exact ba.self
theorem GL.Yi {t e:TypeId} {k:Nat} {z:List Value} [hT:pd P t e k z] {n:Nat} {parts:List (Nat × Operand)} {cs:List GV} (hn:Nat.ble (n * k) 16777216=true) (hf:yy (fun i=>some (i * k,k)) (zs n z) (parts.map fun x=>(x.1,aY fr x.2))=some cs)
  (hl:Nat.beq cs.length (n * k)=true) (hp:rM cs=true) (h:GL P m ops Q rest (br fr d (.sl k (chunk n k cs))) Γ):GL P m ops Q (⟨d,.buildSlice t n parts.toArray,ty,pos,af,none⟩::rest) fr Γ:=fun B K β w l hm hI hF=>by
 obtain ⟨us,h1,h2⟩:=vW hF parts _ _ cs (G3 (n:=n) hT.zl hT.pos) hf
 have iN:cs.length=n * k:=by simpa using hl
 refine WL.Cn (by simpa using hn) h1 fun b w' r9=>?_
 obtain ⟨hle,bg⟩:=hI.tS r9 h2 (mP hp);obtain ⟨c1,c2,c3⟩:=vS n cs iN;refine h B _ β w' _ hm bg ((hF.mono hle (cZ.refl β)).put d ?_)
 have lh:fA k (chunk n k cs):=fun r hr=>⟨(c3 r hr).1,fun g hg=>mP hp g ((c3 r hr).2 g hg)⟩
 have:=Rel.sl (K:=kO K b cs) (β:=β) b 0 n k (chunk n k cs) (fun i r hr=>⟨(lh r (mem_of_getElem? hr)).1,fun j g hg=>by
  rw [Nat.zero_add];exact uN (by have:=tz lh hr hg;rw [c1] at this;exact this)⟩) (by rw [c2];exact Nat.le_refl _)
 rw [c2] at this;exact this
theorem GL.RM {t e:TypeId} {k:Nat} {z:List Value} [hT:pd P t e k z] {n:Nat} {parts:List (Nat × Operand)} {cs:List GV} (hn:Nat.ble (n * k) 16777216=true) (hf:yy (fun i=>some (i * k,k)) (zs n z) (parts.map fun x=>(x.1,aY fr x.2))=some cs)
  (hl:Nat.beq cs.length (n * k)=true) (hp:rM cs=true) (h:GL P m ops Q rest (br fr d (.vec Γ.length n)) (Γ++[.vec e k 0 (chunk n k cs)])):GL P m ops Q (⟨d,.buildSlice t n parts.toArray,ty,pos,af,none⟩::rest) fr Γ:=fun B K β w l hm hI hF=>by
 obtain ⟨us,h1,h2⟩:=vW hF parts _ _ cs (G3 (n:=n) hT.zl hT.pos) hf
 have iN:cs.length=n * k:=by simpa using hl
 have A5:n * k<=16777216:=by simpa using hn
 have bO:n<=16777216:=Nat.le_trans (Nat.le_mul_of_pos_right n hT.pos) A5
 refine WL.Cn A5 h1 fun b w' r9=>?_
 obtain ⟨c1,c2,c3⟩:=vS n cs iN
 have lh:fA k (chunk n k cs):=fun r hr=>⟨(c3 r hr).1,fun g hg=>mP hp g ((c3 r hr).2 g hg)⟩
 have how:=gB.VA r9 (n:=n) (k:=k) (by rw [h2.1,iN]) (by simp only [maxLen];omega);have bg:=hI.Ew (x:=.slice (some ⟨b,0,none⟩) n n) (xs:=us) (rows:=chunk n k cs) r9.ext (by rw [c2];exact how.base (Nat.zero_le _)) (fun b' bq=>by cases bq;rw [r9.fresh];exact Nat.le_refl _) (by rw [c1];exact h2) lh;refine h B K _ w' _ hm bg ((hF.mono (cm.refl K) (gO (by rw [hI.out _ (Nat.le_refl _)];trivial))).put d ?_);exact .vec _ n _ n ⟨_,_,bo,by rw [c2];exact Nat.le_refl _,fun _=>rfl⟩
def Qp (x:Operand) (t:Tmp):Bool :=
 match x with
 | .tmp t'=>!Nat.beq t' t
 | _=>true
theorem T8 {l:List Value} {x:Operand} {t:Tmp} (h:Qp x t=true) (u:Value):ev (put l (some t) u) x=ev l x:=by
 cases x with
 | tmp t'=>exact nY (fun e=>by subst e;simp [Qp] at h) u
 | _=>rfl
theorem GL.push {x s:Operand} {t e k gU:Nat} {z:List Value} [hT:n8 P t e k gU] [hZ:pd P t e k z] {d1:Tmp} {Oq:TypeId} {Ga:String} {LJ:Array Edge} {i n fz:Nat} {rows:List (List GV)} {gs:List GV}
  (hx:mr (aY fr x)=some gs) (hk:Nat.beq gs.length k=true) (h1:ma gs=true) (hp:rM gs=true) (hs:aY fr s=.vec i n) (U2:Qp s d1=true) (hd:jC fr d1=true) (bz:Γ[i]?=some (.vec e k fz rows)) (hn:rows.length=n)
  (hb:(n+1<=9223372036854775807/\(n+1) * gU<=140737488355328)/\k<=16777216)
  (h:GL P m ops Q rest (br (br fr (some d1) .U) d (.vec i (n+1))) (oset Γ i (.vec e k fz (rows++[gs])))) :
  GL P m ops Q (⟨some d1,.buildSlice t 1 #[(0,x)],Oq,Ga,LJ,none⟩::⟨d,.call ⟨.builtin .append,#[s,.tmp d1],#[t,t]⟩,ty,pos,af,none⟩::rest) fr Γ:=fun B K β w l hm hI hF=>by
 subst hn;obtain ⟨us,kc,kD⟩:=(hF.ev x).cells hx;obtain ⟨h0,xs,o1,o2,o3,o4,o5,o6⟩:=hI.ob i _ bz;have td:=hF.ev s;rw [hs] at td
 have qx:ev l s=h0:=by
  generalize hv:ev l s=v at td
  cases td with
  | vec _ _ a c hh =>
   obtain ⟨h',m',e1,e2,e3⟩:=hh;rw [o1] at e1;cases e1;exact e3 rfl
 have MV:=mA hF hd
 have ly:gs.length=k:=by simpa using hk
 refine WL.push (base:=0) (v:=h0) (vs:=us) (val:=ev l x) (xs:=xs) (n:=rows.length) rfl (fun u=>by rw [T8 U2];exact qx) (fun u=>sA MV u) kc (by rw [kD.1,ly]) (kD.lC h1) o2 hb.1.1 hb.1.2 hb.2 (Nat.zero_le _) ?_;intro u v' w' how gJ tV ve
 obtain ⟨K',hK,qy,bg⟩:=hI.grow bz o1 ⟨o2,o3⟩ (news:=[gs]) (ns:=us) how gJ tV (by simpa using kD) (fun r hr=>by simp at hr;subst hr;exact ⟨ly,mP hp⟩) (by simp) (fun b bq o v ho hv=>by
  rcases ve with h7 | h7
  ·exact h7.c hv (fun h=>h)
  ·have fX:o < xs.length:=by rw [o2.1];exact Nat.lt_of_lt_of_le ho (Nat.mul_le_mul_right k o6)
   obtain ⟨b2,c2,pk,_,_,jK⟩:=o2.cells.2 (by intro h0;rw [h0] at fX;simp at fX)
   have eJ:b2=b:=by rw [pk] at bq;cases bq;rfl
   subst eJ;have Dk:=jK o xs[o] (by simp [fX]);rw [ff,hv] at Dk;cases Dk;obtain ⟨b3,c3,MX,_,_,MT⟩:=how.cells.2 (by intro h0;have:xs=[]:=(List.append_eq_nil_iff.1 h0).1;rw [this] at fX;simp at fX)
   have xA:b3=b2:=by rw [MX,bq] at h7;cases h7;rfl
   subst xA
   rw [<-ff];exact MT o _ (by rw [getElem?_append_left fX];simp [fX]))
 rw [<-bd] at bg;refine h B K' _ w' _ hm bg (((hF.mono hK qy).put (some d1) (.U u)).put d ?_);obtain ⟨a,c,rfl⟩:=how.shape;exact .vec i _ a c ⟨_,_,bo,by simp,fun _=>rfl⟩
theorem Wk.Cr {t:Nat} {a:Option Addr} {c:Nat} (E k:Nat) (ht:cH fr t=.v (.slice none 0 0)):Wk m fr Γ (bs fr t (.vec Γ.length 0)) (Γ++[.vec E k 0 []]):=fun B K β w l hm hI hF=>by
 have b9:β Γ.length=.no:=hI.out _ (Nat.le_refl _);have bg:=hI.Ew (w':=w) (E:=E) (k:=k) (x:=.slice none 0 0) (xs:=[]) (rows:=[]) (Ext.refl w) (gB.nil w 0 E k) (fun b hb=>by cases hb) ba.nil (fun r hr=>by cases hr);refine ⟨K,_,bg,?_⟩;have u6:=hF.mono (cm.refl K) (gO (i:=Γ.length) (x:=.gr (.slice none 0 0) ([]:List (List GV)).length) (by rw [b9];trivial));have hv:nth l t=.slice none 0 0:=Rel.eD (by rw [<-ht];exact hF.nth t)
 have hu:∀ (l:List Value) (t:Nat) (v:Value),nth l t=v->(∃ a n c,v=.slice a n c)->eU l t v=l:=by
  intro l
  induction l with
  | nil=>intro t v _ _;rfl
  | cons x l ih =>
   intro t v h1 h2
   cases t with
   | zero=>simp only [nth] at h1;subst h1;rfl
   | succ t=>simp only [nth] at h1;simp only [eU];rw [ih t v h1 h2]
 have:=u6.eU t (v:=.slice none 0 0) (g:=.vec Γ.length 0) (.vec _ 0 none 0 ⟨_,_,bo,Nat.le_refl _,fun _=>rfl⟩);rw [hu l t _ hv ⟨_,_,_,rfl⟩] at this;exact this
theorem Az {l:List Value} {t:Nat} (h:jC l t=true):eU l t (nth l t)=l:=by
 induction l generalizing t with
 | nil=>cases h
 | cons x l ih=>cases t with | zero=>rfl | succ t=>simp only [eU,nth];rw [ih h]
theorem Wk.jx {t i n E k fz:Nat} {rows:List (List GV)} (ht:cH fr t=.vec i n) (fP:jC fr t=true) (bz:Γ[i]?=some (.vec E k fz rows)) (hn:rows.length=n):Wk m fr Γ (bs fr t (.sl k rows)) (oset Γ i (.vec E k n rows)):=fun B K β w l hm hI hF=>by
 subst hn;obtain ⟨h0,xs,o1,o2,o3,o4,o5,o6⟩:=hI.ob i _ bz;obtain ⟨K',hK,Dc,bg⟩:=hI.jx bz;rw [<-bd] at bg;refine ⟨K',β,bg,?_⟩;have hr:=hF.nth t;rw [ht] at hr
 have eV:Rel K' β (nth l t) (.sl k rows):=by
  generalize nth l t=v at hr
  cases hr with
  | vec _ _ a c hh =>
   obtain ⟨h',m',e1,e2,e3⟩:=hh;rw [o1] at e1;cases e1;have e4:=e3 rfl
   rcases o2.2 with ⟨e5,e6⟩ | ⟨g,cap,cu,e5,_,_,oH,_⟩
   ·have:rows=[]:=eq_nil_of_length_eq_zero e6;subst this;exact .sl0 _ _ _
   ·rw [e5] at e4;cases e4;refine .sl g 0 _ k rows (fun j r hr=>⟨(o4 r (mem_of_getElem? hr)).1,fun q g' lr=>?_⟩) oH;rw [Nat.zero_add];exact Dc _ g o1 (by rw [e5];rfl) _ g' (tz o4 hr lr)
 have:=(hF.mono hK (cZ.refl β)).eU t eV;rw [Az (mA hF fP)] at this;exact this
def nz (i:Nat) (cs:List GV):GV->GV
 | .loc j o=>match Nat.beq j i with
  | true=>.box cs o
  | false=>.loc j o
 | g=>match g.ok (other i) with
  | true=>g
  | false=>.U
theorem Rel.frz {K K':Fz} {β:Bt} {i b:Nat} {cs:List GV} {x:Value} {g:GV} (h:Rel K β x g) (hk:cm K K') (hb:β i=.fix b) (hc:∀ (j:Nat) g,cs[j]?=some g->K' b j=some g):Rel K' (fj (other i) β) x (nz i cs g):=by
 have gen:∀ {g:GV},Rel K β x g->Rel K' (fj (other i) β) x (match g.ok (other i) with | true=>g | false=>.U):=by
  intro g h;split
  ·rename_i ho;exact (h.mono hk (cZ.refl β)).res ho
  ·exact .U _
 cases g with
 | loc j o =>
  simp only [nz];split
  ·rename_i hj
   have hj:j=i:=by simpa using hj
   subst hj
   cases h with
   | loc _ _ b' bq =>
    rw [hb] at bq;cases bq;have:=Rel.box (K:=K') (β:=fj (other j) β) b 0 o cs (fun q g hg=>by rw [Nat.zero_add];exact hc q g hg);rw [Nat.zero_add] at this;exact this
  ·rename_i hj
   have hj:j≠i:=by intro e;subst e;simp at hj
   exact (h.mono hk (cZ.refl β)).res (vr hj)
 | _=>exact gen h
def ou (i:Nat) (cs:List GV):List GV->List GV
 | []=>[]
 | g::gs=>nz i cs g::ou i cs gs
theorem Wk.freeze {i:Nat} {E:TypeId} {cs:List GV} (bz:Γ[i]?=some (.box E cs)) (hp:rM cs=true) (b9:DB (other i) (oset Γ i .gone)=true) (hm:m<=i):Wk m fr Γ (ou i cs fr) (oset Γ i .gone):=fun B K β w l hB hI hF=>by
 rw [bd] at b9 |-;obtain ⟨b,vs,h1,h2,h3,h4⟩:=hI.ob i _ bz;obtain ⟨K',hK,Dc,bg⟩:=hI.freeze bz (mP hp) b9 (by omega);refine ⟨K',_,bg,?_⟩;clear hI bg b9 bz
 induction hF with
 | nil=>exact .nil
 | cons h t ih=>exact .cons (h.frz hK h1 (Dc b h1)) ih
end
def bV:List Nat->Nat->Nat->Nat
 | [],n,j=>n+j
 | i::_,_,0=>i
 | _::r,n,j+1=>bV r n j
def dS:List Ob->List Nat->List Ob->List Ob
 | Γ,[],xs=>Γ++xs
 | Γ,_::_,[]=>Γ
 | Γ,i::r,x::xs=>dS (oset Γ i x) r xs
def gL:List Nat->Nat->Bool
 | [],_=>true
 | i::r,n=>Nat.blt i n&&!(r.contains i)&&gL r n
theorem Cz {aO:List Nat} {n j:Nat} (h:aO.length<=j):bV aO n j=n+(j - aO.length):=by
 induction aO generalizing j with
 | nil=>simp [bV]
 | cons i r ih =>
  cases j with
  | zero=>simp at h
  | succ j=>rw [bV,ih (by simpa using h)];simp
theorem Ti {aO:List Nat} {n j:Nat} (h:j < aO.length):∃ i∈aO,bV aO n j=i:=by
 induction aO generalizing j with
 | nil=>simp at h
 | cons i r ih =>
  cases j with
  | zero=>exact ⟨i,by simp,rfl⟩
  | succ j=>obtain ⟨x,h1,h2⟩:=ih (j:=j) (by simpa using h);exact ⟨x,by simp [h1],h2⟩
theorem F5 {aO:List Nat} {n:Nat} (h:gL aO n=true):∀ i∈aO,i < n:=by
 induction aO with
 | nil=>intro i hi;cases hi
 | cons x r ih =>
  simp only [gL,Bool.and_eq_true] at h;intro i hi
  rcases List.mem_cons.1 hi with rfl | hi
  ·simpa using h.1.1
  ·exact ih h.2 i hi
theorem Am {aO:List Nat} {n:Nat} (h:gL aO n=true):∀ {j j':Nat},bV aO n j=bV aO n j'->j=j':=by
 induction aO with
 | nil=>intro j j' he;simp only [bV] at he;omega
 | cons x r ih =>
  have ak:=F5 h;simp only [gL,Bool.and_eq_true,Bool.not_eq_true'] at h
  have hx:∀ j,bV r n j≠x:=fun j he=>by
   by_cases hj:j < r.length
   ·obtain ⟨i,hi,h2⟩:=Ti (n:=n) hj;rw [he] at h2;subst h2;have:=h.1.2;rw [List.contains_iff_mem.2 hi] at this;cases this
   ·have:=Cz (n:=n) (Nat.le_of_not_lt hj);have:=ak x (by simp);omega
  intro j j' he
  cases j with
  | zero=>cases j' with
   | zero=>rfl
   | succ j'=>exact absurd he.symm (hx j')
  | succ j=>cases j' with
   | zero=>exact absurd he (hx j)
   | succ j'=>rw [ih h.2 he]
theorem HE {aO:List Nat} {n:Nat}:∀ {Γ xs:List Ob},Γ.length=n->gL aO n=true->aO.length<=xs.length ->
  (∀ j,(dS Γ aO xs)[bV aO n j]?=xs[j]?)/\(∀ i,(∀ j,bV aO n j≠i)->(dS Γ aO xs)[i]?=Γ[i]?)/\(dS Γ aO xs).length=n+(xs.length - aO.length):=by
 induction aO with
 | nil =>
  intro Γ xs hn _ _;refine ⟨fun j=>?_,fun i hi=>?_,by simp [dS,hn]⟩
  ·simp only [dS,bV];rw [List.getElem?_append_right (by omega)];congr 1;omega
  ·simp only [dS,bV] at hi |-
   by_cases ak:i < n
   ·rw [getElem?_append_left (by omega)]
   ·exact absurd (by omega) (hi (i - n))
 | cons x r ih =>
  intro Γ xs hn eG hl;have Fj:=@Am (x::r) n eG;have ak:=F5 eG x (by simp)
  cases xs with
  | nil=>simp at hl
  | cons y ys =>
   simp only [gL,Bool.and_eq_true,Bool.not_eq_true'] at eG;obtain ⟨h1,h2,h3⟩:=ih (Γ:=oset Γ x y) (xs:=ys) (by rw [bd];simpa using hn) eG.2 (by simpa using hl)
   have hx:∀ j,bV r n j≠x:=fun j he=>by
    have:=@Fj (j+1) 0 he;omega
   refine ⟨fun j=>?_,fun i hi=>?_,by simp only [dS,h3,length_cons];omega⟩
   ·cases j with
    | zero =>
     simp only [dS,bV];rw [h2 x hx,bd,getElem?_set];simp [hn,ak]
    | succ j=>simp only [dS,bV];exact h1 j
   ·simp only [dS];rw [h2 i (fun j=>hi (j+1)),bd,getElem?_set];rw [if_neg (by intro e;exact hi 0 e)]
theorem kg.Bp {K:Fz} {β:Bt} {w:World} {f:Nat->Nat} {j:Nat} {x:Ob} (h:kg K β w (f j) (x.dz f)):kg K (fun j=>β (f j)) w j x:=by
 cases x with
 | gone=>exact h
 | box E cs =>
  obtain ⟨b,vs,h1,h2,h3,h4⟩:=h;rw [jT] at h3;exact ⟨b,vs,h1,h2,⟨by simpa using h3.1,fun i v g h5 h6=>(h3.2 i v (dz f g) h5 (by rw [getElem?_map,h6];rfl)).Bp⟩,h4⟩
 | vec E k fz rows =>
  obtain ⟨h0,xs,h1,h2,h3,h4,h5⟩:=h;refine ⟨h0,xs,h1,h2,⟨h3.1,fun i v g h6 h7=>(h3.2 i v g h6 h7).pc ?_⟩,h4,h5⟩;obtain ⟨r,fY,dh⟩:=List.mem_flatten.1 (mem_of_getElem? h7);exact (h4 r fY).2 g dh
 | vech E k rows x =>
  obtain ⟨xs,h1,h2,h3,h4,h5⟩:=h;refine ⟨xs,h1,h2,⟨h3.1,fun i v g h6 h7=>(h3.2 i v g h6 h7).pc ?_⟩,h4,h5⟩;obtain ⟨r,fY,dh⟩:=List.mem_flatten.1 (mem_of_getElem? h7);exact (h4 r fY).2 g dh
 | lost=>exact h
theorem kg.BD {K:Fz} {β:Bt} {w:World} {f:Nat->Nat} {j:Nat} {x:Ob} (h:kg K (fun j=>β (f j)) w j x):kg K β w (f j) (x.dz f):=by
 cases x with
 | gone=>exact h
 | box E cs =>
  obtain ⟨b,vs,h1,h2,h3,h4⟩:=h;refine ⟨b,vs,h1,h2,?_,h4⟩;rw [jT];refine ⟨by simpa using h3.1,fun i v g h5 h6=>?_⟩;rw [getElem?_map] at h6
  cases hc:cs[i]? with
  | none=>rw [hc] at h6;cases h6
  | some c=>rw [hc] at h6;cases h6;exact (h3.2 i v c h5 hc).BD
 | vec E k fz rows =>
  obtain ⟨h0,xs,h1,h2,h3,h4,h5⟩:=h;refine ⟨h0,xs,h1,h2,⟨h3.1,fun i v g h6 h7=>(h3.2 i v g h6 h7).pc ?_⟩,h4,h5⟩;obtain ⟨r,fY,dh⟩:=List.mem_flatten.1 (mem_of_getElem? h7);exact (h4 r fY).2 g dh
 | vech E k rows x =>
  obtain ⟨xs,h1,h2,h3,h4,h5⟩:=h;refine ⟨xs,h1,h2,⟨h3.1,fun i v g h6 h7=>(h3.2 i v g h6 h7).pc ?_⟩,h4,h5⟩;obtain ⟨r,fY,dh⟩:=List.mem_flatten.1 (mem_of_getElem? h7);exact (h4 r fY).2 g dh
 | lost=>exact h
section
variable {K:Fz} {β:Bt} {Γ:List Ob} {w:World} {B:Bs}
theorem Inv.enter {aO:List Nat} {gQ:List Ob} (h:Inv B K β Γ w) (eG:gL aO Γ.length=true) (hl:gQ.length=aO.length) (bz:∀ j x,gQ[j]?=some x->Γ[bV aO Γ.length j]?=some (x.dz (bV aO Γ.length))) :
  Inv (cur K (fun j=>β (bV aO Γ.length j)) gQ w) K (fun j=>β (bV aO Γ.length j)) gQ w:=by
 have b9:∀ i,gQ.length<=i->β (bV aO Γ.length i)=.no:=fun i hi=>by
  rw [Cz (by omega)];exact h.out _ (by omega)
 exact ⟨Ext.refl w,cm.refl K,cZ.refl _,b9,h.fz,fun i x hi=>(h.ob _ _ (bz i x hi)).Bp,b9,fun i j b hi hj=>Am eG (h.dis _ _ b hi hj),fun i b hb=>.inl ⟨i,hb⟩,fun _ _ _ h=>.inl h,h.tab.step (S:=gq) (Ext.refl w) (fun _ h=>h.elim) (cm.refl K) (fun i b2 h2=>.inl ⟨_,h2⟩)⟩
theorem Inv.leave {aO:List Nat} {gQ ra:List Ob} {K':Fz} {AD:Bt} {w':World} (h:Inv B K β Γ w) (eG:gL aO Γ.length=true) (hl:gQ.length=aO.length) (iN:aO.length<=ra.length)
  (hI:Inv (cur K (fun j=>β (bV aO Γ.length j)) gQ w) K' AD ra w') :
  ∃ bA,cm K K'/\cZ β bA/\(∀ j,bA (bV aO Γ.length j)=AD j)/\Inv B K' bA (dS Γ aO (ra.map (Ob.dz (bV aO Γ.length)))) w':=by
 obtain ⟨s1,s2,s3⟩:=HE (aO:=aO) (n:=Γ.length) (Γ:=Γ) (xs:=ra.map (Ob.dz (bV aO Γ.length))) rfl eG (by simpa using iN);rw [List.length_map] at s3;generalize hf:bV aO Γ.length=f at *
 have Fj:∀ {j j'},f j=f j'->j=j':=by subst hf;exact Am eG
 have lx:∀ j,aO.length<=j->f j=Γ.length+(j - aO.length):=fun j hj=>by subst hf;exact Cz hj
 have Y7:∀ i,Γ.length<=i->f (aO.length+(i - Γ.length))=i:=fun i hi=>by rw [lx _ (by omega)];omega
 have ⟨bA,hβ1,hβ2⟩:∃ bA:Bt,(∀ j,bA (f j)=AD j)/\∀ i,(∀ j,f j≠i)->bA i=β i:=by
  classical
  refine ⟨fun i=>if h:∃ j,f j=i then AD (Classical.choose h) else β i,fun j=>?_,fun i hi=>?_⟩
  ·have hex:∃ j',f j'=f j:=⟨j,rfl⟩;simp only;rw [dif_pos hex,Fj (Classical.choose_spec hex)]
  ·simp only;rw [dif_neg (fun ⟨j,hj⟩=>hi j hj)]
 have Ur:cZ β bA:=fun i=>by
  by_cases hi:∃ j,f j=i
  ·obtain ⟨j,rfl⟩:=hi;rw [hβ1];exact hI.ble j
  ·rw [hβ2 i (fun j hj=>hi ⟨j,hj⟩)];exact rS.refl _
 have J4:∀ b,blocks (fun j=>β (f j)) b->blocks β b:=fun b ⟨j,hj⟩=>⟨f j,hj⟩
 have fc:∀ i b,(bA i).blk=some b->blocks β b\/w.heap.size<=b:=fun i b hb=>by
  by_cases hi:∃ j,f j=i
  ·obtain ⟨j,rfl⟩:=hi;rw [hβ1] at hb;exact (hI.own j b hb).imp (J4 b) id
  ·rw [hβ2 i (fun j hj=>hi ⟨j,hj⟩)] at hb;exact .inl ⟨i,hb⟩
 have rB:∀ i b,(∀ j,f j≠i)->(β i).blk=some b->¬ blocks (fun j=>β (f j)) b:=fun i b hi hb ⟨j,hj⟩=>hi j (h.dis _ _ b hj hb)
 refine ⟨bA,hI.kle,Ur,hβ1,h.NZ (Ym:=Γ) ?_⟩;refine ⟨hI.ext.mono (fun k _ hk=>J4 k hk),hI.kle,Ur,h.out,hI.fz,fun i x hi=>?_,fun i hi=>?_,fun i i' b hi oE=>?_,fc,fun b o g hg=>?_,⟨hI.tab.le,hI.tab.pow,hI.tab.spc,fun i b hb=>(fc i b hb).elim (fun ⟨j,hj⟩=>h.tab.free j b hj) (fun hs=>⟨by have:=h.tab.pow.lt;have hs:w.heap.size<=b:=hs;omega,by have:=h.tab.spc.lt;have hs:w.heap.size<=b:=hs;omega⟩)⟩⟩
 ·by_cases hj:∃ j,f j=i
  ·obtain ⟨j,rfl⟩:=hj;rw [s1 j,getElem?_map] at hi
   cases hc:ra[j]? with
   | none=>rw [hc] at hi;cases hi
   | some c =>
    rw [hc] at hi;cases hi;refine kg.BD ?_;have:=hI.ob j c hc;rw [show (fun j=>bA (f j))=AD from funext hβ1];exact this
  ·have lP:∀ j,f j≠i:=fun j h=>hj ⟨j,h⟩
   rw [s2 i lP] at hi;refine (h.ob i x hi).ext hI.ext (fun b hb=>rB i b lP hb) hI.kle Ur (hβ2 i lP) (fun b o hb hk=>?_)
   cases ly:K' b o with
   | none=>rfl
   | some g =>
    rcases hI.kn b o g ly with h7 | h7 | h7
    ·have h7:K b o=some g:=h7;rw [hk] at h7;cases h7
    ·exact absurd h7 (rB i b lP hb)
    ·have:=h.lt hb;have h7:w.heap.size<=b:=h7;omega
 ·rw [s3] at hi;have h1:=Y7 i (by omega);rw [<-h1,hβ1];exact hI.out _ (by omega)
 ·by_cases h1:∃ j,f j=i <;> by_cases h2:∃ j,f j=i'
  ·obtain ⟨j,rfl⟩:=h1;obtain ⟨j',rfl⟩:=h2;rw [hβ1] at hi oE;rw [hI.dis j j' b hi oE]
  ·obtain ⟨j,rfl⟩:=h1
   have qo:∀ j,f j≠i':=fun j h=>h2 ⟨j,h⟩
   rw [hβ1] at hi;rw [hβ2 i' qo] at oE
   rcases hI.own j b hi with h7 | h7
   ·exact absurd h7 (rB i' b qo oE)
   ·have:=h.lt oE;have h7:w.heap.size<=b:=h7;omega
  ·obtain ⟨j,rfl⟩:=h2
   have cI:∀ j,f j≠i:=fun j h=>h1 ⟨j,h⟩
   rw [hβ1] at oE;rw [hβ2 i cI] at hi
   rcases hI.own j b oE with h7 | h7
   ·exact absurd h7 (rB i b cI hi)
   ·have:=h.lt hi;have h7:w.heap.size<=b:=h7;omega
  ·rw [hβ2 i (fun j h=>h1 ⟨j,h⟩)] at hi;rw [hβ2 i' (fun j h=>h2 ⟨j,h⟩)] at oE;exact h.dis i i' b hi oE
 ·rcases hI.kn b o g hg with h7 | h7 | h7
  ·exact .inl h7
  ·exact .inr (.inl (J4 b h7))
  ·exact .inr (.inr h7)
end
section
variable {P:Program} {m:Nat} {Q:dD} {fr:List GV} {Γ:List Ob} {ops:Array Oper} {rest:List Oper} {d:Option Tmp} {op:Op} {ty:TypeId} {pos:String} {af:Array Edge}
def seen (f:Nat->Nat) (Γ:List Ob):List Nat->List Ob->Prop
 | [],[]=>True
 | i::r,x::xs=>Γ[i]?=some (x.dz f)/\seen f Γ r xs
 | _,_=>False
theorem DM {f:Nat->Nat} {Γ:List Ob} {n:Nat}:∀ {aO:List Nat} {gQ:List Ob},seen f Γ aO gQ->gQ.length=aO.length/\∀ j x,gQ[j]?=some x->Γ[bV aO n j]?=some (x.dz f)
 | [],[],_=>⟨rfl,fun j x h=>by simp at h⟩
 | i::r,y::ys,h=>by
  obtain ⟨h1,h2⟩:=h;obtain ⟨h3,h4⟩:=DM (n:=n) h2;refine ⟨by simp [h3],fun j x hx=>?_⟩
  cases j with
  | zero=>cases hx;exact h1
  | succ j=>exact h4 j x hx
 | [],_::_,h=>h.elim
 | _::_,[],h=>h.elim
theorem GL.calls {f:FuncId} {aO:List Nat} {gs:List GV} {gQ:List Ob} {R:GV->List Ob->Prop} {vs:List Value->List Value} (hr:∀ K β w l,FR K β fr l->ba K β (vs l) (lF (bV aO Γ.length) gs)/\(execOp (ev l) ⟨d,op,ty,pos,af,none⟩).run P w=.ok (.enter f (vs l).toArray) w)
  (eG:gL aO Γ.length=true) (bz:seen (bV aO Γ.length) Γ aO gQ) (hc:GC P f gs gQ R)
  (h:∀ g aK,R g aK->aO.length<=aK.length/\GL P m ops Q rest (br fr d (dz (bV aO Γ.length) g)) (dS Γ aO (aK.map (Ob.dz (bV aO Γ.length))))) :
  GL P m ops Q (⟨d,op,ty,pos,af,none⟩::rest) fr Γ:=fun B K β w l hm hI hF=>by
 obtain ⟨hl,hs⟩:=DM (n:=Γ.length) bz;obtain ⟨ha,hr⟩:=hr K β w l hF;have hIc:=hI.enter eG hl hs
 have AY:ba K (fun j=>β (bV aO Γ.length j)) (vs l) gs:=by
  rw [jT] at ha;exact ⟨by simpa using ha.1,fun i v g h5 h6=>(ha.2 i v (dz _ g) h5 (by rw [getElem?_map,h6];rfl)).Bp⟩
 refine WL.calls hr (hc _ K _ w _ rfl hIc AY) ?_;rintro v w' ⟨K',AD,g,aK,bg,eV,hR⟩;obtain ⟨iN,h⟩:=h g aK hR;obtain ⟨bA,hK,hB,qy,pj⟩:=hI.leave eG hl iN bg;refine h B K' bA w' _ hm pj ((hF.mono hK hB).put d (Rel.BD ?_));rw [show (fun j=>bA (bV aO Γ.length j))=AD from funext qy];exact eV
theorem GL.vP {f:FuncId} [hf:aH P f] (aO:List Nat) {x:Operand} {first cap:List GV} {args:List Operand} {mI:Array TypeId} {gs:List GV} {gQ:List Ob} {R:GV->List Ob->Prop} (hc:GC P f gs gQ R) (hx:aY fr x=.fn (.func f) first cap) (ha:first++args.map (aY fr)++cap=lF (bV aO Γ.length) gs) (eG:gL aO Γ.length=true)
  (bz:seen (bV aO Γ.length) Γ aO gQ) (h:∀ g aK,R g aK->aO.length<=aK.length/\GL P m ops Q rest (br fr d (dz (bV aO Γ.length) g)) (dS Γ aO (aK.map (Ob.dz (bV aO Γ.length))))) :
  GL P m ops Q (⟨d,.call ⟨.value x,args.toArray,mI⟩,ty,pos,af,none⟩::rest) fr Γ :=
 GL.calls (vs:=fun l=>match ev l x with | .func _ a c=>a.toList++args.map (ev l)++c.toList | _=>[]) (fun K β w l hF=>by
  have hr:=hF.ev x;rw [hx] at hr;generalize hv:ev l x=v at hr
  cases hr with
  | fn _ xs ys _ _ h1 h2 h3 h4 =>
   refine ⟨?_,?_⟩
   ·rw [<-ha];exact (ba.app (ba.app ⟨h1,h3⟩ (hF.args args)) ⟨h2,h4⟩)
   ·simp [execOp,resolve,hv,Deferred.ofValue,invoke,lG]) eG bz hc h
theorem GL.Wo {f:FuncId} [hf:aH P f] (aO:List Nat) {x:Operand} {args:List Operand} {mI:Array TypeId} {gs:List GV} {gQ:List Ob} {R:GV->List Ob->Prop} (hc:GC P f gs gQ R) (hx:aY fr x=.v (.func (.func f) #[] #[])) (ha:args.map (aY fr)=lF (bV aO Γ.length) gs) (eG:gL aO Γ.length=true)
  (bz:seen (bV aO Γ.length) Γ aO gQ) (h:∀ g aK,R g aK->aO.length<=aK.length/\GL P m ops Q rest (br fr d (dz (bV aO Γ.length) g)) (dS Γ aO (aK.map (Ob.dz (bV aO Γ.length))))) :
  GL P m ops Q (⟨d,.call ⟨.value x,args.toArray,mI⟩,ty,pos,af,none⟩::rest) fr Γ :=
 GL.calls (vs:=fun l=>args.map (ev l)) (fun K β w l hF=>⟨by rw [<-ha];exact hF.args args,by
  have hv:=hF.gV hx
  simp [execOp,resolve,hv,Deferred.ofValue,invoke,lG]⟩) eG bz hc h
end
def nA (ops:List Oper) (fr:List GV):Nat->Option (Option Bool):=fun j =>
 match jC ops j,(rW ops j).dst with
 | true,some t=>match jC fr t,cH fr t with
  | true,.v (.bool c)=>some (some c)
  | true,.v (.tuple _)=>some none
  | _,_=>none
 | _,_=>none
section
variable {P:Program} {m:Nat} {Q:dD} {fr:List GV} {Γ:List Ob} {ops:Array Oper} {rest:List Oper} {d:Option Tmp} {op:Op} {ty:TypeId} {pos:String} {af:Array Edge}
theorem u5 {K:Fz} {β:Bt} {l:List Value} {j:Nat} {b:Bool} {c:Option Bool} (hF:FR K β fr l) (h:nA ops.toList fr j=some c):Dm (some (j,b)) ops.toList l=true/\gv ops.toList l (j,b)=c:=by
 unfold nA at h;split at h
 ·rename_i t h1 h2;split at h
  ·rename_i c' h3 h4;cases h;have hv:nth l t=.bool c':=Rel.eD (by rw [<-h4];exact hF.nth t);have hl:=mA hF h3;simp only [Dm,gv,h1,h2,hl,hv,Bool.and_self];exact ⟨trivial,trivial⟩
  ·rename_i vs h3 h4;cases h;have hv:nth l t=.tuple vs:=Rel.eD (by rw [<-h4];exact hF.nth t);have hl:=mA hF h3;simp only [Dm,gv,h1,h2,hl,hv,Bool.and_self];exact ⟨trivial,trivial⟩
  ·cases h
 ·cases h
theorem GL.gt {gd:Nat × Bool} {c:Bool} (hv:nA ops.toList fr gd.1=some (some c)) (hc:c=gd.2) (h:GL P m ops Q (⟨d,op,ty,pos,af,none⟩::rest) fr Γ):GL P m ops Q (⟨d,op,ty,pos,af,some gd⟩::rest) fr Γ:=fun B K β w l hm hI hF=>by
 obtain ⟨h1,h2⟩:=u5 (b:=gd.2) hF hv;exact Xw.GT h1 h2 hc (h B K β w l hm hI hF)
theorem GL.gf {gd:Nat × Bool} {c:Bool} (hv:nA ops.toList fr gd.1=some (some c)) (hc:c=!gd.2) (h:GL P m ops Q rest (br fr d (.v undef)) Γ):GL P m ops Q (⟨d,op,ty,pos,af,some gd⟩::rest) fr Γ:=fun B K β w l hm hI hF=>by
 obtain ⟨h1,h2⟩:=u5 (b:=gd.2) hF hv;exact Xw.GF h1 h2 hc (h B K β w _ hm hI (hF.put d (.v _)))
theorem GL.gu {gd:Nat × Bool} (hv:nA ops.toList fr gd.1=some none) (h:GL P m ops Q rest (br fr d (.v undef)) Γ):GL P m ops Q (⟨d,op,ty,pos,af,some gd⟩::rest) fr Γ:=fun B K β w l hm hI hF=>by
 obtain ⟨h1,h2⟩:=u5 (b:=gd.2) hF hv;exact Xw.GU h1 h2 (h B K β w _ hm hI (hF.put d (.v _)))
end
def gG (ops:List Oper) (fr:List GV):Option (Nat × Bool)->Option Bool
 | none=>some true
 | some (j,b)=>match nA ops fr j with
  | some (some c)=>some (c==b)
  | some none=>some false
  | none=>none
theorem Iq {ops:Array Oper} {K:Fz} {β:Bt} {fr:List GV} {l:List Value} {o:Oper} {c:Bool} (hF:FR K β fr l) (h:gG ops.toList fr o.guard=some c):Region.wanted o (yielded ops (act l).tmps)=c:=by
 obtain ⟨d,op,ty,pos,af,gd⟩:=o
 cases gd with
 | none=>simp only [gG] at h;cases h;rfl
 | some gd =>
  obtain ⟨j,b⟩:=gd;simp only [gG] at h;split at h
  ·rename_i c' hc;cases h;obtain ⟨h1,h2⟩:=u5 (b:=b) hF hc;rw [vI h1]
   cases zg:(c'==b) with
   | true=>exact OG h2 (by simpa using zg)
   | false=>exact OE h2 (by cases c' <;> cases b <;> simp_all)
  ·rename_i hc;cases h;obtain ⟨h1,h2⟩:=u5 (b:=b) hF hc;rw [vI h1];exact OH h2
  ·cases h
def DD (P:Program) (o:Oper) (e:Operand->Value) (w:World) (Kv:Value->World->Prop):Prop :=
 match (execOp e o).run P w with
 | .ok (.value v) w'=>Kv v w'
 | .ok .skip w'=>Kv undef w'
 | .ok (.enter f args) w'=>Calls P f args w' fun e RY=>∃ v,e=.returned v/\Kv v RY
 | .ok (.row row args) w'=>Rows P row args w' Kv
 | _=>False
theorem VB {P:Program} {o:Oper} {a:Act} {w:World} {Kv:Value->World->Prop} {next:Act->World->Prop} {Q:Exit->Act->World->Prop} (h:DD P o a.eval w Kv) (hn:∀ v w',Kv v w'->next (a.put o.dst v) w'):o.wp P a w next Q:=by
 unfold DD at h;unfold Oper.wp;generalize (execOp a.eval o).run P w=r at *
 cases r with
 | ok n w' =>
  cases n <;> simp only [Oper.upon] at h |- <;> first
   | exact hn _ _ h
   | exact Calls.mono h (fun e RY ⟨v,he,hv⟩=>by subst he;exact hn _ _ hv)
   | exact Rows.mono h (fun _ _ hv=>hn _ _ hv)
   | exact h.elim
 | halt x w'=>exact h.elim
theorem V8 {P:Program} {o:Oper} {a:Act} {w:World} {Kv:Value->World->Prop} {next:Act->World->Prop} {Q:Exit->Act->World->Prop} (h:o.wp P a w next Q) (hQ:∀ c a w,¬ Q (.panic c) a w) (hQ':∀ a w,¬ Q .outgrown a w) (hn:∀ v w',next (a.put o.dst v) w'->Kv v w')
  (hd:∀ d w',¬ next ({ a with defers:=d::a.defers }.put o.dst undef) w'):DD P o a.eval w Kv:=by
 unfold DD;unfold Oper.wp at h;generalize (execOp a.eval o).run P w=r at *
 cases r with
 | ok n w' =>
  cases n <;> simp only [Oper.upon] at h |- <;> first
   | exact hn _ _ h
   | exact Calls.mono h (fun e RY he=>by
     cases e with
     | returned v=>exact ⟨v,rfl,hn _ _ he⟩
     | panicked c=>exact (hQ _ _ _ he).elim
     | outgrown=>obtain ⟨a0,w0,hf⟩:=he;exact (hQ' _ _ hf).elim)
   | exact Rows.mono h (fun _ _ hv=>hn _ _ hv)
   | exact h.elim
   | exact absurd h (hd _ _)
 | halt x w' =>
  cases x <;> simp only [Oper.upon] at h
  exact (hQ _ _ _ h).elim
def cL (ts:List Nat):Nat->List GV->List GV
 | _,[]=>[]
 | k,g::gs=>(match ts.contains k with | true=>g | false=>.U)::cL ts (k+1) gs
theorem FR.mask {K:Fz} {β:Bt} {ts:List Nat} {fr:List GV} {l:List Value} (h:FR K β fr l):∀ k,FR K β (cL ts k fr) l:=by
 induction h with
 | nil=>intro k;exact .nil
 | cons h t ih =>
  intro k;rw [cL];split
  ·exact .cons h (ih _)
  ·exact .cons (.U _) (ih _)
theorem P7 {ts:List Nat} {d:Option Tmp} {g:GV} (hd:∀ t,d=some t->t ∉ ts) (fr:List GV):cL ts 0 (br fr d g)=cL ts 0 fr:=by
 cases d with
 | none=>rfl
 | some t =>
  have hd:=hd t rfl
  have gen:∀ (fr:List GV) (k t:Nat),k+t ∉ ts->cL ts k (bs fr t g)=cL ts k fr:=by
   intro fr
   induction fr with
   | nil=>intro k t _;rfl
   | cons x fr ih =>
    intro k t h
    cases t with
    | zero =>
     have hc:ts.contains k=false:=by
      cases hb:ts.contains k with
      | false=>rfl
      | true=>exact absurd (List.contains_iff_mem.1 hb) (by simpa using h)
     simp only [bs,cL,hc]
    | succ t=>simp only [bs,cL];rw [ih (k+1) t (by rw [show k+1+t=k+(t+1) by omega];exact h)]
  exact gen fr 0 t (by simpa using hd)
section
variable {P:Program} {ops:Array Oper}
def YQ (P:Program) (ops:Array Oper) (i:Nat) (g:GV) (fr:List GV) (Γ:List Ob):Prop :=
 ∃ o c,ops[i]?=some o/\gG ops.toList (cL (o.looksAt ops) 0 fr) o.guard=some c/\match c with
  | true=>YG P o.op (cL (o.looksAt ops) 0 fr) Γ g
  | false=>g=.v undef
abbrev kM:=List (Nat × GV × List GV)
def GA (P:Program) (o:Oper) (Kt:GV->List Ob->Prop) (fr:List GV) (Γ:List Ob):Prop :=
 ∀ B K β w l,Inv B K β Γ w->FR K β fr l->DD P o (ev l) w fun v w'=>∃ K' bA g aK,cm K K'/\cZ β bA/\Inv B K' bA aK w'/\(∀ fr l,FR K' bA fr l->FR K' bA (br fr o.dst g) (put l o.dst v))/\Kt g aK
def GI (P:Program) (ops:Array Oper) (i:Nat) (Kt:GV->List Ob->Prop) (fr:List GV) (Γ:List Ob):Prop :=
 ∃ o c,ops[i]?=some o/\gG ops.toList fr o.guard=some c/\match c with
  | true=>GA P o Kt fr Γ
  | false=>Kt (.v undef) Γ
def kQ (ops:Array Oper) (i:Nat):Option Tmp:=(ops[i]?).bind (·.dst)
def waits (ops:Array Oper) (i j:Nat):Bool:=match ops[i]? with
 | some o=>o.after.any fun e=>Region.binds .any e&&e.on==j
 | none=>false
def stay (ops:Array Oper) (i:Nat) (aW:kM):kM:=aW.filter fun p=>!waits ops i p.1
def pG (P:Program) (ops:Array Oper) (Q:List GV->List Ob->Prop):Nat->kM->Array Bool->List GV->List Ob->Prop
 | 0,_,listed,fr,Γ=>Region.ready .any ops listed=[]/\Q fr Γ
 | n+1,aW,listed,fr,Γ=>(Region.ready .any ops listed=[]->Q fr Γ) /\
   ∀ i∈Region.ready .any ops listed,GI P ops i (fun g aK=>(∀ p∈stay ops i aW,YQ P ops p.1 p.2.1 p.2.2 aK)/\pG P ops Q n (stay ops i aW) (listed.setIfInBounds i true) (br fr (kQ ops i) g) aK) fr Γ
theorem GA.mono {o:Oper} {Kt Et:GV->List Ob->Prop} {fr:List GV} {Γ:List Ob} (h:GA P o Kt fr Γ) (hk:∀ g aK,Kt g aK->Et g aK):GA P o Et fr Γ:=fun B K β w l hI hF=>by
 have:=h B K β w l hI hF;unfold DD at *;generalize (execOp (ev l) o).run P w=r at *
 have key:∀ v w',(∃ K' bA g aK,cm K K'/\cZ β bA/\Inv B K' bA aK w'/\(∀ fr l,FR K' bA fr l->FR K' bA (br fr o.dst g) (put l o.dst v))/\Kt g aK)->∃ K' bA g aK,cm K K'/\cZ β bA/\Inv B K' bA aK w'/\(∀ fr l,FR K' bA fr l->FR K' bA (br fr o.dst g) (put l o.dst v))/\Et g aK :=
  fun v w' ⟨K',bA,g,aK,h1,h2,h3,h4,h5⟩=>⟨K',bA,g,aK,h1,h2,h3,h4,hk _ _ h5⟩
 cases r with
 | ok n w'=>cases n <;> simp only at this |- <;> first
   | exact key _ _ this
   | exact Calls.mono this (fun e RY ⟨v,he,hv⟩=>⟨v,he,key _ _ hv⟩)
   | exact Rows.mono this (fun _ _ hv=>key _ _ hv)
   | exact this.elim
 | halt x w'=>exact this.elim
theorem GI.mono {i:Nat} {Kt Et:GV->List Ob->Prop} {fr:List GV} {Γ:List Ob} (h:GI P ops i Kt fr Γ) (hk:∀ g aK,Kt g aK->Et g aK):GI P ops i Et fr Γ:=by
 obtain ⟨o,c,h1,h2,h3⟩:=h;refine ⟨o,c,h1,h2,?_⟩
 cases c with
 | true=>exact GA.mono h3 hk
 | false=>exact hk _ _ h3
theorem pG.Q3 {Q:List GV->List Ob->Prop}:∀ (n:Nat) (aW dI:kM) (listed:Array Bool) (fr:List GV) (Γ:List Ob),(∀ p∈dI,p∈aW)->pG P ops Q n aW listed fr Γ->pG P ops Q n dI listed fr Γ
 | 0,_,_,_,_,_,_,h=>h
 | n+1,aW,dI,listed,fr,Γ,hs,h=>⟨h.1,fun i hi=>(h.2 i hi).mono fun g aK ⟨h1,h2⟩=>by
  have om:∀ p∈stay ops i dI,p∈stay ops i aW:=fun p hp=>by
   simp only [stay,mem_filter] at hp |-;exact ⟨hs p hp.1,hp.2⟩
  exact ⟨fun p hp=>h1 p (om p hp),pG.Q3 n _ _ _ _ _ om h2⟩⟩
theorem pG.sound {m:Nat} {Q:List GV->List Ob->Prop} {B:Bs} {Q':dD} (hm:B.m=m) (hQ:∀ fr Γ,Q fr Γ->Q' .normal fr Γ):∀ (n:Nat) (aW:kM) (listed:Array Bool) (fr:List GV) (Γ:List Ob) (K:Fz) (β:Bt) (w:World) (l:List Value),
  pG P ops Q n aW listed fr Γ->Inv B K β Γ w->FR K β fr l->wpAny P .any ops (lift (gl B Q')) n listed (act l) w
 | 0,_,_,fr,Γ,K,β,w,l,h,hI,hF=>⟨h.1,l,rfl,K,β,fr,Γ,hI,hF,hQ _ _ h.2⟩
 | n+1,aW,listed,fr,Γ,K,β,w,l,h,hI,hF=>by
  refine ⟨fun h0=>⟨l,rfl,K,β,fr,Γ,hI,hF,hQ _ _ (h.1 h0)⟩,fun i hi=>?_⟩;obtain ⟨o,c,ho,hg,hc⟩:=h.2 i hi;have hw:=Iq hF hg;unfold wpOp;simp only [ho,hw]
  have hd:kQ ops i=o.dst:=by simp [kQ,ho]
  cases c with
  | true =>
   simp only [if_true];refine .inl (VB (by rw [nt];exact hc B K β w l hI hF) ?_);rintro v w' ⟨K',bA,g,aK,hK,hB,bg,hf,h1,h2⟩;rw [pe];rw [hd] at h2;exact pG.sound hm hQ n _ _ _ _ K' bA w' _ h2 bg (hf _ _ (hF.mono hK hB))
  | false =>
   simp only [Bool.false_eq_true,if_false];rw [pe];obtain ⟨h1,h2⟩:=hc;rw [hd] at h2;exact pG.sound hm hQ n _ _ _ _ K β w _ h2 hI (hF.put o.dst (.v _))
theorem Hj {fr:List GV} {t t':Nat} (h:t'≠t) (g:GV):cH (bs fr t g) t'=cH fr t':=by
 induction fr generalizing t t' with
 | nil=>rfl
 | cons x l ih=>cases t with
  | zero=>cases t' with | zero=>exact absurd rfl h | succ t'=>rfl
  | succ t=>cases t' with | zero=>rfl | succ t'=>exact ih (fun e=>h (by rw [e]))
theorem IJ {fr:List GV} {t t':Nat} {g:GV}:jC (bs fr t g) t'=jC fr t':=by
 induction fr generalizing t t' with
 | nil=>rfl
 | cons x l ih=>cases t with
  | zero=>cases t' <;> rfl
  | succ t=>cases t' with | zero=>rfl | succ t'=>exact ih
theorem Ug {o:Oper} {fr:List GV} {d:Option Tmp} {g:GV} (h:∀ t,d=some t->t ∉ o.looksAt ops):gG ops.toList (br fr d g) o.guard=gG ops.toList fr o.guard:=by
 cases d with
 | none=>rfl
 | some t =>
  have h:=h t rfl;obtain ⟨d',op,ty,pos,af,gd⟩:=o
  cases gd with
  | none=>rfl
  | some gd =>
   obtain ⟨j,b⟩:=gd
   have bP:∀ t',jC ops.toList j=true->(rW ops.toList j).dst=some t'->t'≠t:=fun t' hj A9 he=>by
    subst he;apply h;have lP:=I4 ops.toList j (Be hj);simp only [Array.toArray_toList] at lP;simp [Oper.looksAt,lP,A9]
   have hv:nA ops.toList (bs fr t g) j=nA ops.toList fr j:=by
    unfold nA
    cases fP:jC ops.toList j with
    | false=>rfl
    | true =>
     cases hd:(rW ops.toList j).dst with
     | none=>rfl
     | some t' =>
      simp only;rw [IJ,Hj (bP t' fP hd)]
   simp only [gG,br,hv]
theorem YQ.at {i:Nat} {g:GV} {fr:List GV} {Γ:List Ob} {o:Oper} (h:YQ P ops i g fr Γ) (ho:ops[i]?=some o) {B:Bs} {K:Fz} {β:Bt} {w:World} {l:List Value} (hI:Inv B K β Γ w) (hF:FR K β fr l):∃ v,Rel K β v g/\((Region.wanted o (yielded ops (act l).tmps)=true/\(execOp (ev l) o).run P w=.ok (.value v) w)\/(Region.wanted o (yielded ops (act l).tmps)=false/\v=undef)):=by
 obtain ⟨o',c,h1,h2,h3⟩:=h;rw [ho] at h1;cases h1;have hw:=Iq (hF.mask (ts:=o.looksAt ops) 0) h2
 cases c with
 | true =>
  obtain ⟨v,hr,hv⟩:=h3 B K β w l hI (hF.mask 0);exact ⟨v,hv,.inl ⟨hw,by obtain ⟨d,op,ty,pos,af,gd⟩:=o;exact hr d ty pos af⟩⟩
 | false=>subst h3;exact ⟨undef,.v _,.inr ⟨hw,rfl⟩⟩
theorem GI.comm {i j:Nat} {g:GV} {oi oj:Oper} {Kt:GV->List Ob->Prop} {fr:List GV} {Γ:List Ob} (hi:ops[i]?=some oi) (hj:ops[j]?=some oj) (Re:oi.apart ops oj=true) (hsj:∀ cs b,oj.op≠.select cs b) (hy:YQ P ops i g fr Γ)
  (h:GI P ops j Kt (br fr oi.dst g) Γ):GI P ops j Kt fr Γ:=by
 obtain ⟨a1,a2,a3⟩:=Oper.apart_spec Re;obtain ⟨o,c,h1,h2,h3⟩:=h;rw [hj] at h1;cases h1;rw [Ug a1] at h2;refine ⟨oj,c,hj,h2,?_⟩
 cases c with
 | false=>exact h3
 | true =>
  intro B K β w l hI hF;obtain ⟨v,hv,_⟩:=hy.at hi hI hF;have:=h3 B K β w (put l oi.dst v) hI (hF.put _ hv)
  have he:execOp (ev (put l oi.dst v)) oj=execOp (ev l) oj:=by
   have:=execOp_put oj hsj (act l) oi.dst v a1;rw [pe,nt,nt] at this;exact this
  unfold DD at this |-;rw [he] at this;exact this
theorem pG.first {Q:List GV->List Ob->Prop} {i:Nat} {oi:Oper} {g:GV} {oC:List GV} (hi:ops[i]?=some oi) (Zs:∀ (j:Nat) (o:Oper) cs b,ops[j]?=some o->o.op≠.select cs b) :
  ∀ (n:Nat) (aW:kM) (listed:Array Bool) (fr:List GV) (Γ:List Ob),
   (∀ j oj,ops[j]?=some oj->j≠i->listed.getD j true=false->(∀ e∈oj.after,Region.binds .any e=true->e.on≠i)->oi.apart ops oj=true) ->
   i∈Region.ready .any ops listed->cL (oi.looksAt ops) 0 fr=cL (oi.looksAt ops) 0 oC->YQ P ops i g oC Γ->(∀ p∈aW,YQ P ops p.1 p.2.1 p.2.2 Γ) ->
   pG P ops Q n ((i,g,oC)::aW) (listed.setIfInBounds i true) (br fr oi.dst g) Γ->pG P ops Q (n+1) aW listed fr Γ:=by
 have hd:kQ ops i=oi.dst:=by simp [kQ,hi]
 have V4:∀ {fr:List GV} {Γ:List Ob},cL (oi.looksAt ops) 0 fr=cL (oi.looksAt ops) 0 oC->YQ P ops i g oC Γ->YQ P ops i g fr Γ:=by
  rintro fr Γ hm ⟨o,c,h1,h2,h3⟩;rw [hi] at h1;cases h1;exact ⟨oi,c,hi,by rw [hm];exact h2,by rw [hm];exact h3⟩
 have self:∀ (n:Nat) (aW:kM) (listed:Array Bool) (fr:List GV) (Γ:List Ob),cL (oi.looksAt ops) 0 fr=cL (oi.looksAt ops) 0 oC->YQ P ops i g oC Γ->(∀ p∈aW,YQ P ops p.1 p.2.1 p.2.2 Γ) ->
   pG P ops Q n ((i,g,oC)::aW) (listed.setIfInBounds i true) (br fr oi.dst g) Γ ->
   GI P ops i (fun g aK=>(∀ p∈stay ops i aW,YQ P ops p.1 p.2.1 p.2.2 aK)/\pG P ops Q n (stay ops i aW) (listed.setIfInBounds i true) (br fr (kQ ops i) g) aK) fr Γ:=by
  intro n aW listed fr Γ sZ hy hp H
  have cq:∀ p∈stay ops i aW,p∈aW:=fun p hp=>by simp only [stay,mem_filter] at hp;exact hp.1
  have H':pG P ops Q n (stay ops i aW) (listed.setIfInBounds i true) (br fr (kQ ops i) g) Γ:=by
   rw [hd];exact pG.Q3 n _ _ _ _ _ (fun p hp=>mem_cons_of_mem _ (cq p hp)) H
  obtain ⟨o,c,h1,h2,h3⟩:=V4 sZ hy;rw [hi] at h1;cases h1
  have qo:gG ops.toList fr oi.guard=some c:=by
   obtain ⟨d',op,ty,pos,af,gd⟩:=oi
   cases gd with
   | none=>exact h2
   | some gd =>
    obtain ⟨j,b⟩:=gd;simp only [gG] at h2 |-
    have hv:∀ x,nA ops.toList (cL (Oper.looksAt ops ⟨d',op,ty,pos,af,some (j,b)⟩) 0 fr) j=some x->nA ops.toList fr j=some x:=by
     intro x hx;unfold nA at hx |-
     cases fP:jC ops.toList j with
     | false=>rw [fP] at hx;cases hx
     | true =>
      rw [fP] at hx
      cases hdt:(rW ops.toList j).dst with
      | none=>rw [hdt] at hx;cases hx
      | some t =>
       rw [hdt] at hx;simp only at hx |-
       have r7:∀ (ts:List Nat) (fr:List GV) (k t:Nat),jC (cL ts k fr) t=jC fr t:=by
        intro ts fr
        induction fr with
        | nil=>intro k t;rfl
        | cons x fr ih=>intro k t;cases t with | zero=>rfl | succ t=>exact ih (k+1) t
       have Fg:∀ (ts:List Nat) (fr:List GV) (k t:Nat) ,cH (cL ts k fr) t=cH fr t\/cH (cL ts k fr) t=.U:=by
        intro ts fr
        induction fr with
        | nil=>intro k t;exact .inl rfl
        | cons x fr ih =>
         intro k t
         cases t with
         | zero=>simp only [cL,cH];split <;> first | exact .inl rfl | exact .inr rfl
         | succ t=>exact ih (k+1) t
       rw [r7] at hx
       rcases Fg (Oper.looksAt ops ⟨d',op,ty,pos,af,some (j,b)⟩) fr 0 t with h | h
       ·rw [h] at hx;exact hx
       ·rw [h] at hx
        split at hx <;> first | (rename_i h5;cases h5;done) | cases hx
    split at h2
    ·rename_i c' hc;rw [hv _ hc];exact h2
    ·rename_i hc;rw [hv _ hc];exact h2
    ·cases h2
  refine ⟨oi,c,hi,qo,?_⟩
  have lf:∀ p∈stay ops i aW,YQ P ops p.1 p.2.1 p.2.2 Γ:=fun p hq=>hp p (cq p hq)
  cases c with
  | true =>
   intro B K β w l hI hF;obtain ⟨v,hr,hv⟩:=h3 B K β w l hI (hF.mask 0)
   have mV:(execOp (ev l) oi).run P w=.ok (.value v) w:=by obtain ⟨d,op,ty,pos,af,gd⟩:=oi;exact hr d ty pos af
   unfold DD;rw [mV];exact ⟨K,β,g,Γ,cm.refl K,cZ.refl β,hI,fun fr l hf=>hf.put _ hv,lf,H'⟩
  | false =>
   simp only at h3;subst h3;exact ⟨lf,H'⟩
 intro n
 induction n with
 | zero =>
  intro aW listed fr Γ _ hr sZ hy hp H;refine ⟨fun h=>(by rw [h] at hr;cases hr),fun j hj=>?_⟩
  by_cases og:j=i
  ·subst og;exact self 0 aW listed fr Γ sZ hy hp H
  ·have:=ready_mono hj og;rw [H.1] at this;cases this
 | succ n ih =>
  intro aW listed fr Γ Rj hr sZ hy hp H;refine ⟨fun h=>(by rw [h] at hr;cases hr),fun j hj=>?_⟩
  by_cases og:j=i
  ·subst og;exact self (n+1) aW listed fr Γ sZ hy hp H
  ·have h1:=H.2 j (ready_mono hj og);obtain ⟨UM,oj,M7,aQ⟩:=mem_ready.1 hj
   have UT:∀ e∈oj.after,Region.binds .any e=true->e.on≠i:=fun e he hb heq=>by
    have h1:=aQ e he hb;have h0:=(mem_ready.1 hr).1;rw [heq] at h1
    rcases Nat.lt_or_ge i listed.size with h' | h'
    ·simp [h'] at h0 h1;rw [h0] at h1;cases h1
    ·simp [Array.getElem?_eq_none h'] at h1
   have Re:=Rj j oj M7 og UM UT;obtain ⟨a1,a2,a3⟩:=Oper.apart_spec Re
   have r9:waits ops j i=false:=by
    simp only [waits,M7];rw [Array.any_eq_false'];intro e he hb;simp only [Bool.and_eq_true,beq_iff_eq] at hb;exact UT e he hb.1 hb.2
   have cq:stay ops j ((i,g,oC)::aW)=(i,g,oC)::stay ops j aW:=by
    simp [stay,List.filter_cons,r9]
   rw [cq] at h1;have h2:=GI.comm hi M7 Re (fun cs b=>Zs j oj cs b M7) (V4 sZ hy) h1
   have XR:kQ ops j=oj.dst:=by simp [kQ,M7]
   have UI:∀ k ok,ops[k]?=some ok->k≠i->(listed.setIfInBounds j true).getD k true=false ->
     (∀ e∈ok.after,Region.binds .any e=true->e.on≠i)->oi.apart ops ok=true:=fun k ok hk cJ X7 b9=>by
    refine Rj k ok hk cJ ?_ b9
    by_cases hjk:j=k
    ·subst hjk;exact UM
    ·rw [getD_set_ne true hjk] at X7;exact X7
   refine h2.mono fun gj aK ⟨h3,h4⟩=>⟨fun p hp=>h3 p (mem_cons_of_mem _ hp),?_⟩
   refine ih (stay ops j aW) (listed.setIfInBounds j true) (br fr (kQ ops j) gj) aK UI (ready_mono hr (Ne.symm og)) ?_ (h3 (i,g,oC) (mem_cons_self)) (fun p hp=>h3 p (mem_cons_of_mem _ hp)) ?_
   ·rw [<-sZ,XR];exact P7 a3 fr
   ·rw [Array.setIfInBounds_comm _ _ og]
    have WG:br (br fr (kQ ops j) gj) oi.dst g=br (br fr oi.dst g) (kQ ops j) gj:=by
     rw [XR]
     cases hdi:oi.dst with
     | none=>rfl
     | some t =>
      cases hdj':oj.dst with
      | none=>rfl
      | some u =>
       have bP:t≠u:=fun e=>a2 t hdi (by rw [hdj',e])
       have gen:∀ (fr:List GV) (t u:Nat),t≠u->bs (bs fr u gj) t g=bs (bs fr t g) u gj:=by
        intro fr
        induction fr with
        | nil=>intro t u _;rfl
        | cons x fr ih =>
         intro t u h
         cases t with
         | zero=>cases u with | zero=>exact absurd rfl h | succ u=>rfl
         | succ t=>cases u with | zero=>rfl | succ u=>simp only [bs];rw [ih t u (fun e=>h (by rw [e]))]
       exact gen fr t u bP
    rw [WG];exact h4
inductive Ot where
 | nil
 | q (i:Nat) (r:Ot)
 | a (i:Nat) (r:Ot)
 | f (i:Nat) (r:Ot) (j:Nat) (s:Ot)
def Ot.len:Ot->Nat
 | .nil=>0
 | .q _ r=>r.len+1
 | .a _ r=>r.len+1
 | .f _ r _ _=>r.len+1
def tu (ops:Array Oper):Ot->Array Bool->Bool
 | .nil,listed=>(Region.ready .any ops listed).isEmpty
 | .q i r,listed=>(Region.ready .any ops listed).contains i&&Region.free .any ops listed i&&tu ops r (listed.setIfInBounds i true)
 | .a i r,listed=>(Region.ready .any ops listed==[i])&&tu ops r (listed.setIfInBounds i true)
 | .f i r j s,listed=>(Region.ready .any ops listed==[i,j])&&tu ops r (listed.setIfInBounds i true)&&tu ops s (listed.setIfInBounds j true)&&(r.len==s.len)
def GO (P:Program) (ops:Array Oper) (Q:List GV->List Ob->Prop):Ot->kM->List GV->List Ob->Prop
 | .nil,_,fr,Γ=>Q fr Γ
 | .q i r,aW,fr,Γ=>∃ g,YQ P ops i g fr Γ/\GO P ops Q r ((i,g,fr)::aW) (br fr (kQ ops i) g) Γ
 | .a i r,aW,fr,Γ=>GI P ops i (fun g aK=>(∀ p∈stay ops i aW,YQ P ops p.1 p.2.1 p.2.2 aK)/\GO P ops Q r (stay ops i aW) (br fr (kQ ops i) g) aK) fr Γ
 | .f i r j s,aW,fr,Γ=>GI P ops i (fun g aK=>(∀ p∈stay ops i aW,YQ P ops p.1 p.2.1 p.2.2 aK)/\GO P ops Q r (stay ops i aW) (br fr (kQ ops i) g) aK) fr Γ/\GI P ops j (fun g aK=>(∀ p∈stay ops j aW,YQ P ops p.1 p.2.1 p.2.2 aK)/\GO P ops Q s (stay ops j aW) (br fr (kQ ops j) g) aK) fr Γ
theorem GO.fork {ops:Array Oper} {Q:List GV->List Ob->Prop} {i j:Nat} {r s:Ot} {aW:kM} {fr:List GV} {Γ:List Ob} (h1:GO P ops Q (.a i r) aW fr Γ) (h2:GO P ops Q (.a j s) aW fr Γ):GO P ops Q (.f i r j s) aW fr Γ:=⟨h1,h2⟩
theorem GO.all {ol:List Oper} {Q:List GV->List Ob->Prop} (hs:Region.noSelect ol.toArray=true):∀ (ord:Ot) (aW:kM) (listed:Array Bool) (fr:List GV) (Γ:List Ob),
  tu ol.toArray ord listed=true->(∀ p∈aW,YQ P ol.toArray p.1 p.2.1 p.2.2 Γ)->GO P ol.toArray Q ord aW fr Γ->pG P ol.toArray Q ord.len aW listed fr Γ
 | .nil,aW,listed,fr,Γ,ho,_,h=>⟨by simpa [tu] using ho,h⟩
 | .q i r,aW,listed,fr,Γ,ho,hp,h=>by
  simp only [tu,Bool.and_eq_true] at ho;obtain ⟨⟨hr,hf⟩,ho⟩:=ho;obtain ⟨g,hy,h⟩:=h
  have wb:i∈Region.ready .any ol.toArray listed:=by simpa using hr
  obtain ⟨_,o,hi,_⟩:=mem_ready.1 wb
  have hd:kQ ol.toArray i=o.dst:=by simp only [kQ,hi];rfl
  rw [hd] at h
  exact pG.first hi (Region.noSelect_spec hs) _ aW listed fr Γ (Region.free_spec hi hf) wb rfl hy hp (GO.all hs r _ _ _ _ ho (fun p lf=>by
   rcases List.mem_cons.1 lf with rfl | lf
   ·exact hy
   ·exact hp p lf) h)
 | .a i r,aW,listed,fr,Γ,ho,hp,h=>by
  simp only [tu,Bool.and_eq_true,beq_iff_eq] at ho;obtain ⟨hr,ho⟩:=ho;refine ⟨fun h0=>by rw [h0] at hr;simp at hr,fun j hj=>?_⟩;rw [hr,List.mem_singleton] at hj;subst hj
  exact GI.mono h fun g aK ⟨h1,h2⟩=>⟨h1,GO.all hs r _ _ _ _ ho h1 h2⟩
 | .f i r j s,aW,listed,fr,Γ,ho,hp,h=>by
  simp only [tu,Bool.and_eq_true,beq_iff_eq] at ho;obtain ⟨⟨⟨hr,ho1⟩,ho2⟩,hl⟩:=ho;refine ⟨fun h0=>by rw [h0] at hr;simp at hr,fun k hk=>?_⟩;rw [hr] at hk;simp only [List.mem_cons,List.not_mem_nil,or_false] at hk
  rcases hk with rfl | rfl
  ·exact GI.mono h.1 fun g aK ⟨h1,h2⟩=>⟨h1,GO.all hs r _ _ _ _ ho1 h1 h2⟩
  ·exact GI.mono h.2 fun g aK ⟨h1,h2⟩=>⟨h1,by
    have:=GO.all hs s _ _ _ _ ho2 h1 h2
    rw [<-hl] at this;exact this⟩
theorem GW.draw {m id:Nat} {ol:List Oper} {Q:dD} {fr:List GV} {Γ:List Ob} (ord:Ot) (hm:P.follows .mixedOrders=true)
  (eG:(Region.noSelect ol.toArray&&(ord.len==ol.length)&&tu ol.toArray ord (Array.replicate ol.toArray.size false))=true)
  (h:GO P ol.toArray (Q .normal) ord [] fr Γ):GW P m (.region id ol.toArray true) Q fr Γ:=fun B K β w l hB hI hF=>by
 simp only [Bool.and_eq_true,beq_iff_eq] at eG;obtain ⟨⟨hs,hl⟩,ho⟩:=eG;refine wp_region_any hm ?_;have h1:=GO.all hs ord [] _ fr Γ ho (fun p hp=>by cases hp) h;rw [hl] at h1;have h2:=pG.sound (Q':=Q) hB (fun fr Γ h=>h) _ _ _ _ _ K β w.drew l h1 (hI.same (Ext.drew w)) hF;simpa using h2
end
def jv:List Oper->Nat->Option Oper
 | [],_=>none
 | o::_,0=>some o
 | _::r,n+1=>jv r n
theorem qG {ol:List Oper} {i:Nat} {o:Oper} (h:jv ol i=some o):ol.toArray[i]?=some o:=by
 have:∀ (ol:List Oper) (i:Nat),jv ol i=ol[i]?:=by
  intro ol
  induction ol with
  | nil=>intro i;rfl
  | cons x ol ih=>intro i;cases i with | zero=>rfl | succ i=>simpa [jv] using ih i
 rw [this] at h;simpa using h
section
variable {P:Program} {Q:List GV->List Ob->Prop} {ol:List Oper} {r:Ot} {aW:kM} {fr:List GV} {Γ:List Ob} {i:Nat} {g:GV} {d:Option Tmp} {op:Op} {ty:TypeId} {pos:String} {af:Array Edge} {gd:Nat × Bool}
theorem uV {o:Oper} (h:jv ol i=some o):kQ ol.toArray i=o.dst:=by simp only [kQ,qG h];rfl
theorem GO.more {ops:Array Oper}:∀ (r:Ot) (aW dI:kM) (fr:List GV) (Γ:List Ob),(∀ p∈dI,p∈aW\/∀ Γ,YQ P ops p.1 p.2.1 p.2.2 Γ)->GO P ops Q r aW fr Γ->GO P ops Q r dI fr Γ
 | .nil,_,_,_,_,_,h=>h
 | .q i r,aW,dI,fr,Γ,hs,⟨g,h1,h2⟩=>⟨g,h1,GO.more r _ _ _ _ (fun p hp=>by
   rcases List.mem_cons.1 hp with rfl | hp
   ·exact .inl (mem_cons_self)
   ·exact (hs p hp).imp (mem_cons_of_mem _) id) h2⟩
 | .a i r,aW,dI,fr,Γ,hs,h=>GI.mono h fun g aK ⟨h1,h2⟩=>by
   have om:∀ p∈stay ops i dI,p∈stay ops i aW\/∀ Γ,YQ P ops p.1 p.2.1 p.2.2 Γ:=fun p hp=>by
    simp only [stay,mem_filter] at hp |-;exact (hs p hp.1).imp (fun h=>⟨h,hp.2⟩) id
   exact ⟨fun p hp=>(om p hp).elim (h1 p) (fun h=>h aK),GO.more r _ _ _ _ om h2⟩
 | .f i r j s,aW,dI,fr,Γ,hs,h=>by
   have om:∀ k,∀ p∈stay ops k dI,p∈stay ops k aW\/∀ Γ,YQ P ops p.1 p.2.1 p.2.2 Γ:=fun k p hp=>by
    simp only [stay,mem_filter] at hp |-;exact (hs p hp.1).imp (fun h=>⟨h,hp.2⟩) id
   exact ⟨GI.mono h.1 fun g aK ⟨h1,h2⟩=>⟨fun p hp=>(om i p hp).elim (h1 p) (fun h=>h aK),GO.more r _ _ _ _ (om i) h2⟩,GI.mono h.2 fun g aK ⟨h1,h2⟩=>⟨fun p hp=>(om j p hp).elim (h1 p) (fun h=>h aK),GO.more s _ _ _ _ (om j) h2⟩⟩
theorem GO.skip {ops:Array Oper} {x:Nat × GV × List GV} (hx:∀ Γ,YQ P ops x.1 x.2.1 x.2.2 Γ) (h:GO P ops Q r aW fr Γ):GO P ops Q r (x::aW) fr Γ:=by
 refine GO.more r aW _ fr Γ (fun p hp=>?_) h
 rcases List.mem_cons.1 hp with he | hp
 ·subst he;exact .inr hx
 ·exact .inl hp
theorem GO.yq {o:Oper} (hi:jv ol i=some o) (hy:YQ P ol.toArray i g fr Γ) (h:GO P ol.toArray Q r ((i,g,fr)::aW) (br fr o.dst g) Γ):GO P ol.toArray Q (.q i r) aW fr Γ :=
 ⟨g,hy,by rw [uV hi];exact h⟩
theorem GO.yp {o:Oper} (hi:jv ol i=some o) (hy:∀ Γ,YQ P ol.toArray i g fr Γ) (h:GO P ol.toArray Q r aW (br fr o.dst g) Γ):GO P ol.toArray Q (.q i r) aW fr Γ :=
 GO.yq hi (hy Γ) (GO.skip hy h)
theorem zS {c:Bool} {ops:List Oper} (hv:nA ops fr gd.1=some (some c)) (hc:c=gd.2):gG ops fr (some gd)=some true:=by
 obtain ⟨j,b⟩:=gd;simp only at hv hc;simp only [gG,hv,hc];simp
theorem B6 {c:Bool} {ops:List Oper} (hv:nA ops fr gd.1=some (some c)) (hc:c=!gd.2):gG ops fr (some gd)=some false:=by
 obtain ⟨j,b⟩:=gd;simp only at hv hc;simp only [gG,hv,hc];simp
theorem Uh {ops:List Oper} (hv:nA ops fr gd.1=some none):gG ops fr (some gd)=some false:=by
 obtain ⟨j,b⟩:=gd;simp only at hv;simp only [gG,hv]
theorem YQ.t {o:Oper} (hi:jv ol i=some o) (hg:gG ol (cL (o.looksAt ol.toArray) 0 fr) o.guard=some true) (hy:YG P o.op (cL (o.looksAt ol.toArray) 0 fr) Γ g):YQ P ol.toArray i g fr Γ:=⟨o,true,qG hi,hg,hy⟩
theorem YQ.f {o:Oper} (hi:jv ol i=some o) (hg:gG ol (cL (o.looksAt ol.toArray) 0 fr) o.guard=some false):YQ P ol.toArray i (.v undef) fr Γ:=⟨o,false,qG hi,hg,rfl⟩
theorem OQ (hi:jv ol i=some ⟨d,op,ty,pos,af,none⟩) (hy:YG P op (cL (Oper.looksAt ol.toArray ⟨d,op,ty,pos,af,none⟩) 0 fr) Γ g) (h:GO P ol.toArray Q r ((i,g,fr)::aW) (br fr d g) Γ):GO P ol.toArray Q (.q i r) aW fr Γ :=
 GO.yq hi (YQ.t hi rfl hy) h
theorem OP (hi:jv ol i=some ⟨d,op,ty,pos,af,none⟩) (hy:∀ Γ,YG P op (cL (Oper.looksAt ol.toArray ⟨d,op,ty,pos,af,none⟩) 0 fr) Γ g) (h:GO P ol.toArray Q r aW (br fr d g) Γ):GO P ol.toArray Q (.q i r) aW fr Γ :=
 GO.yp hi (fun Γ=>YQ.t hi rfl (hy Γ)) h
theorem TK {c:Bool} (hi:jv ol i=some ⟨d,op,ty,pos,af,some gd⟩) (hv:nA ol (cL (Oper.looksAt ol.toArray ⟨d,op,ty,pos,af,some gd⟩) 0 fr) gd.1=some (some c)) (hc:c=gd.2) (hy:YG P op (cL (Oper.looksAt ol.toArray ⟨d,op,ty,pos,af,some gd⟩) 0 fr) Γ g)
  (h:GO P ol.toArray Q r ((i,g,fr)::aW) (br fr d g) Γ):GO P ol.toArray Q (.q i r) aW fr Γ :=
 GO.yq hi (YQ.t hi (zS hv hc) hy) h
theorem Xz {c:Bool} (hi:jv ol i=some ⟨d,op,ty,pos,af,some gd⟩) (hv:nA ol (cL (Oper.looksAt ol.toArray ⟨d,op,ty,pos,af,some gd⟩) 0 fr) gd.1=some (some c)) (hc:c=gd.2) (hy:∀ Γ,YG P op (cL (Oper.looksAt ol.toArray ⟨d,op,ty,pos,af,some gd⟩) 0 fr) Γ g)
  (h:GO P ol.toArray Q r aW (br fr d g) Γ):GO P ol.toArray Q (.q i r) aW fr Γ :=
 GO.yp hi (fun Γ=>YQ.t hi (zS hv hc) (hy Γ)) h
theorem Z1 {c:Bool} (hi:jv ol i=some ⟨d,op,ty,pos,af,some gd⟩) (hv:nA ol (cL (Oper.looksAt ol.toArray ⟨d,op,ty,pos,af,some gd⟩) 0 fr) gd.1=some (some c)) (hc:c=!gd.2) (h:GO P ol.toArray Q r aW (br fr d (.v undef)) Γ):GO P ol.toArray Q (.q i r) aW fr Γ :=
 GO.yp hi (fun Γ=>YQ.f hi (B6 hv hc)) h
theorem Z2 (hi:jv ol i=some ⟨d,op,ty,pos,af,some gd⟩) (hv:nA ol (cL (Oper.looksAt ol.toArray ⟨d,op,ty,pos,af,some gd⟩) 0 fr) gd.1=some none) (h:GO P ol.toArray Q r aW (br fr d (.v undef)) Γ):GO P ol.toArray Q (.q i r) aW fr Γ :=
 GO.yp hi (fun Γ=>YQ.f hi (Uh hv)) h
theorem I1:∀ (fr:List GV) (ts:List Nat) (k t:Nat),k+t∈ts->cH (cL ts k fr) t=cH fr t
 | [],_,_,_,_=>rfl
 | g::fr,ts,k,0,h=>by
  have hc:ts.contains k=true:=List.contains_iff_mem.2 (by simpa using h);simp only [cL,hc,cH]
 | g::fr,ts,k,t+1,h=>by
  simp only [cL,cH];exact I1 fr ts (k+1) t (by rw [show k+1+t=k+(t+1) by omega];exact h)
theorem vl {o:Oper} {ops:Array Oper} {x:Operand} (h:x∈o.op.operands.toList):aY (cL (o.looksAt ops) 0 fr) x=aY fr x:=by
 cases x with
 | tmp t =>
  refine I1 fr _ 0 t ?_;rw [Nat.zero_add];refine List.mem_append_left _ (List.mem_filterMap.2 ⟨.tmp t,h,rfl⟩)
 | _=>rfl
theorem Z4 {x:Operand} (hi:jv ol i=some ⟨d,.move x,ty,pos,af,none⟩) (h:GO P ol.toArray Q r aW (br fr d (aY fr x)) Γ):GO P ol.toArray Q (.q i r) aW fr Γ :=
 OP hi (fun Γ=>by
  have:=YG.mv (P:=P) (x:=x) (Γ:=Γ) (fr:=cL (Oper.looksAt ol.toArray ⟨d,.move x,ty,pos,af,none⟩) 0 fr)
  rw [vl (by simp [Op.operands])] at this;exact this) h
theorem Z3 {x:Operand} (hi:jv ol i=some ⟨d,.assign x,ty,pos,af,none⟩) (h:GO P ol.toArray Q r aW (br fr d (aY fr x)) Γ):GO P ol.toArray Q (.q i r) aW fr Γ :=
 OP hi (fun Γ=>by
  have:=YG.tN (P:=P) (x:=x) (Γ:=Γ) (fr:=cL (Oper.looksAt ol.toArray ⟨d,.assign x,ty,pos,af,none⟩) 0 fr)
  rw [vl (by simp [Op.operands])] at this;exact this) h
theorem Yp {x:Operand} {c:Bool} (hi:jv ol i=some ⟨d,.move x,ty,pos,af,some gd⟩) (hv:nA ol (cL (Oper.looksAt ol.toArray ⟨d,.move x,ty,pos,af,some gd⟩) 0 fr) gd.1=some (some c)) (hc:c=gd.2) (h:GO P ol.toArray Q r aW (br fr d (aY fr x)) Γ):GO P ol.toArray Q (.q i r) aW fr Γ :=
 Xz hi hv hc (fun Γ=>by
  have:=YG.mv (P:=P) (x:=x) (Γ:=Γ) (fr:=cL (Oper.looksAt ol.toArray ⟨d,.move x,ty,pos,af,some gd⟩) 0 fr)
  rw [vl (by simp [Op.operands])] at this;exact this) h
theorem Yo {c a b:Operand} {t:Bool} (hi:jv ol i=some ⟨d,.pick c a b,ty,pos,af,none⟩) (hc:aY (cL (Oper.looksAt ol.toArray ⟨d,.pick c a b,ty,pos,af,none⟩) 0 fr) c=.v (.bool t)) (ht:t=true) (h:GO P ol.toArray Q r aW (br fr d (aY fr a)) Γ):GO P ol.toArray Q (.q i r) aW fr Γ :=
 OP hi (fun Γ=>by
  have:=YG.zB (P:=P) (Γ:=Γ) (a:=a) (b:=b) hc ht
  rw [vl (by simp [Op.operands])] at this;exact this) h
theorem Yn {c a b:Operand} {t:Bool} (hi:jv ol i=some ⟨d,.pick c a b,ty,pos,af,none⟩) (hc:aY (cL (Oper.looksAt ol.toArray ⟨d,.pick c a b,ty,pos,af,none⟩) 0 fr) c=.v (.bool t)) (ht:t=false) (h:GO P ol.toArray Q r aW (br fr d (aY fr b)) Γ):GO P ol.toArray Q (.q i r) aW fr Γ :=
 OP hi (fun Γ=>by
  have:=YG.zA (P:=P) (Γ:=Γ) (a:=a) (b:=b) hc ht
  rw [vl (by simp [Op.operands])] at this;exact this) h
inductive gD (P:Program) (ops:Array Oper) (i:Nat) (aK:List Ob):kM->kM->Prop
 | n:gD P ops i aK [] []
 | w {j:Nat} {g:GV} {oC:List GV} {aW dI:kM} (hw:waits ops i j=true) (h:gD P ops i aK aW dI):gD P ops i aK ((j,g,oC)::aW) dI
 | y {j:Nat} {g:GV} {oC:List GV} {aW dI:kM} (hy:YQ P ops j g oC aK) (h:gD P ops i aK aW dI):gD P ops i aK ((j,g,oC)::aW) ((j,g,oC)::dI)
theorem uo {ops:Array Oper} {q p:Nat × GV × List GV} (h:p∈stay ops i (q::aW)):(p=q/\waits ops i q.1=false)\/p∈stay ops i aW:=by
 simp only [stay,mem_filter] at h |-
 rcases List.mem_cons.1 h.1 with he | lf
 ·subst he;exact .inl ⟨rfl,by simpa using h.2⟩
 ·exact .inr ⟨lf,h.2⟩
theorem gD.spec {ops:Array Oper} {aK:List Ob} {dI:kM} (h:gD P ops i aK aW dI):(∀ p∈stay ops i aW,YQ P ops p.1 p.2.1 p.2.2 aK)/\∀ p∈stay ops i aW,p∈dI:=by
 induction h with
 | n=>exact ⟨fun p hp=>(by cases hp),fun p hp=>(by cases hp)⟩
 | w hw h ih =>
  refine ⟨fun p hp=>?_,fun p hp=>?_⟩
  ·rcases uo hp with ⟨_,h2⟩ | lf
   ·simp only at h2;rw [hw] at h2;cases h2
   ·exact ih.1 p lf
  ·rcases uo hp with ⟨_,h2⟩ | lf
   ·simp only at h2;rw [hw] at h2;cases h2
   ·exact ih.2 p lf
 | y hy h ih =>
  refine ⟨fun p hp=>?_,fun p hp=>?_⟩
  ·rcases uo hp with ⟨he,_⟩ | lf
   ·subst he;exact hy
   ·exact ih.1 p lf
  ·rcases uo hp with ⟨he,_⟩ | lf
   ·subst he;exact mem_cons_self
   ·exact mem_cons_of_mem _ (ih.2 p lf)
def TY (fr:List GV):Option Tmp->Bool
 | none=>true
 | some t=>jC fr t
def et (P:Program) (Q:List GV->List Ob->Prop) (ol:List Oper) (i:Nat) (r:Ot) (aW:kM) (fr:List GV) (d:Option Tmp) (b8:List GV) (aK:List Ob):Prop :=
 ∃ g dI,b8=br fr d g/\gD P ol.toArray i aK aW dI/\GO P ol.toArray Q r dI (br fr d g) aK
theorem GA.of {o:Oper} {Kt:GV->List Ob->Prop} {R:List GV->List Ob->Prop} {ops:Array Oper} (hg:o.guard=none) (hd:TY fr o.dst=true) (hR:∀ b8 aK,R b8 aK->∃ g,b8=br fr o.dst g/\Kt g aK) (h:GL P Γ.length ops (aV R (fun _ _ _=>False)) [o] fr Γ):GA P o Kt fr Γ:=fun B K β w l hI hF=>by
 have h1:=h (cur K β Γ w) K β w l rfl hI.here hF;obtain ⟨d,op,ty,pos,af,gd⟩:=o;simp only at hg;subst hg;simp only at h1 hd;unfold WL wpList at h1;rw [if_pos (by rfl)] at h1
 rcases h1 with h1 | ⟨_,a0,w0,hf⟩
 ·rw [<-nt];refine V8 h1 (fun c a w' hf=>?_) (fun a w' hf=>?_) ?_ ?_
  ·obtain ⟨l',_,_,_,_,_,_,_,hq⟩:=hf;exact hq
  ·obtain ⟨l',_,_,_,_,_,_,_,hq⟩:=hf;exact hq
  ·rintro v w' ⟨l',hl,K',bA,b8,aK,bg,u6,hq⟩;obtain ⟨g,rfl,hk⟩:=hR b8 aK hq;rw [pe] at hl
   have iN:put l d v=l':=by
    have:=congrArg (fun a:Act=>a.tmps.toList) hl;simpa [act] using this
   subst iN;refine ⟨K',bA,g,aK,bg.kle,bg.ble,hI.NZ bg,fun My l2 h2=>?_,hk⟩
   cases d with
   | none=>exact h2
   | some t =>
    refine h2.eU t ?_;have hv:=u6.nth t;have h3:nth (put l (some t) v) t=v:=sA (mA hF hd) v
    have h4:cH (br fr (some t) g) t=g:=by
     have gen:∀ (fr:List GV) (t:Nat),jC fr t=true->cH (bs fr t g) t=g:=by
      intro fr
      induction fr with
      | nil=>intro t h;cases h
      | cons x fr ih=>intro t h;cases t with | zero=>rfl | succ t=>exact ih t h
     exact gen fr t hd
    rw [h3,h4] at hv;exact hv
  ·rintro d' w' ⟨l',hl,_⟩;have:=congrArg (fun a:Act=>a.defers) hl
   cases d <;> simp [act,Act.put] at this
 ·obtain ⟨l',_,_,_,_,_,_,_,hq⟩:=hf;exact hq.elim
theorem et.kt {b8:List GV} {aK:List Ob} (h:et P Q ol i r aW fr d b8 aK):∃ g,b8=br fr d g/\((∀ p∈stay ol.toArray i aW,YQ P ol.toArray p.1 p.2.1 p.2.2 aK)/\GO P ol.toArray Q r (stay ol.toArray i aW) (br fr d g) aK):=by
 obtain ⟨g,dI,h1,h2,h3⟩:=h;obtain ⟨h4,h5⟩:=h2.spec;exact ⟨g,h1,h4,GO.more r _ _ _ _ (fun p hp=>.inl (h5 p hp)) h3⟩
theorem OA (hi:jv ol i=some ⟨d,op,ty,pos,af,none⟩) (hd:TY fr d=true) (h:GL P Γ.length ol.toArray (aV (et P Q ol i r aW fr d) (fun _ _ _=>False)) [⟨d,op,ty,pos,af,none⟩] fr Γ):GO P ol.toArray Q (.a i r) aW fr Γ:=by
 refine ⟨_,true,qG hi,rfl,?_⟩
 exact (GA.of (o:=⟨d,op,ty,pos,af,none⟩) rfl hd (fun b8 aK hq=>et.kt hq) h).mono fun g aK ⟨h1,h2⟩=>⟨h1,by rw [uV hi];exact h2⟩
theorem LD {c:Bool} (hi:jv ol i=some ⟨d,op,ty,pos,af,some gd⟩) (hd:TY fr d=true) (hv:nA ol fr gd.1=some (some c)) (hc:c=gd.2) (h:GL P Γ.length ol.toArray (aV (et P Q ol i r aW fr d) (fun _ _ _=>False)) [⟨d,op,ty,pos,af,none⟩] fr Γ):GO P ol.toArray Q (.a i r) aW fr Γ:=by
 refine ⟨_,true,qG hi,zS hv hc,?_⟩
 have:=(GA.of (o:=⟨d,op,ty,pos,af,none⟩) rfl hd (fun b8 aK hq=>et.kt hq) h).mono (Et:=fun g aK=>(∀ p∈stay ol.toArray i aW,YQ P ol.toArray p.1 p.2.1 p.2.2 aK)/\GO P ol.toArray Q r (stay ol.toArray i aW) (br fr (kQ ol.toArray i) g) aK) fun g aK ⟨h1,h2⟩=>⟨h1,by rw [uV hi];exact h2⟩
 exact this
theorem ZZ {c:Bool} {dI:kM} (hi:jv ol i=some ⟨d,op,ty,pos,af,some gd⟩) (hv:nA ol fr gd.1=some (some c)) (hc:c=!gd.2) (hs:gD P ol.toArray i Γ aW dI) (h:GO P ol.toArray Q r dI (br fr d (.v undef)) Γ):GO P ol.toArray Q (.a i r) aW fr Γ :=
 ⟨_,false,qG hi,B6 hv hc,hs.spec.1,by rw [uV hi];exact GO.more r _ _ _ _ (fun p hp=>.inl (hs.spec.2 p hp)) h⟩
theorem Z0 {dI:kM} (hi:jv ol i=some ⟨d,op,ty,pos,af,some gd⟩) (hv:nA ol fr gd.1=some none) (hs:gD P ol.toArray i Γ aW dI) (h:GO P ol.toArray Q r dI (br fr d (.v undef)) Γ):GO P ol.toArray Q (.a i r) aW fr Γ :=
 ⟨_,false,qG hi,Uh hv,hs.spec.1,by rw [uV hi];exact GO.more r _ _ _ _ (fun p hp=>.inl (hs.spec.2 p hp)) h⟩
theorem GO.nil (h:Q fr Γ):GO P ol.toArray Q .nil aW fr Γ:=h
theorem et.mk {dI:kM} (hs:gD P ol.toArray i Γ aW dI) {oC:List GV} (h:GO P ol.toArray Q r dI (br oC d g) Γ):et P Q ol i r aW oC d (br oC d g) Γ:=⟨g,dI,rfl,hs,h⟩
theorem nq {ops:Array Oper} {b8:List GV} {aK:List Ob} (h1:fr=b8) (h2:Γ=aK) (h:GO P ops Q r aW b8 aK):GO P ops Q r aW fr Γ:=by subst h1;subst h2;exact h
theorem Xy {ops:Array Oper} {b8:List GV} (h1:fr=b8) (h:GO P ops Q r aW b8 Γ):GO P ops Q r aW fr Γ:=by subst h1;exact h
end
theorem GW.range {P:Program} {m:Nat} {Q:dD} {fr:List GV} {Γ:List Ob} {B C r1 r2:Nat} {body:Code} {tb ti tn ta:Tmp} {T1 T2 T3 T4 T5 T6 T7:TypeId} {p1 p2 p3:String} {a1 a2 a3:Array Edge} (n:Nat) (I:Nat->List GV->List Ob->Prop)
  (h0:y5 m (I 0) fr Γ) (hn:n<=1099511627776)
  (hI:∀ k fr Γ,I k fr Γ->cH fr ti=.v (ii k)/\cH fr tn=.v (ii n)/\jC fr tb=true)
  (WE:∀ k fr Γ,k < n->I k fr Γ->GW P m body (aZ C (aV (fun b8 aK=>cH b8 ti=.v (ii k)/\jC b8 ta=true/\y5 m (I (k+1)) (bs (bs b8 ta (.v (ii ((k+1:Nat):Int)))) ti (.v (ii ((k+1:Nat):Int)))) aK) (aZ B Q))) (bs fr tb (.v (.bool true))) Γ)
  (oW:∀ fr Γ,I n fr Γ->Q .normal (bs fr tb (.v (.bool false))) Γ) :
  GW P m (.loop (.seq (.region r1 [(⟨some tb,.binOp .lss T1 (.tmp ti) (.tmp tn) T2,T3,p1,a1,none⟩:Oper)].toArray false) (.seq (.cond (.tmp tb) .skip (.exit B))
   (.seq (.block C body) (.region r2 [(⟨some ta,.binOp .add T4 (.tmp ti) (.const (.int .i64 1)) T5,T6,p2,a2,none⟩:Oper),⟨some ti,.move (.tmp ta),T7,p3,a3,none⟩].toArray false))))) (aZ B Q) fr Γ:=by
 have wY:∀ (fr:List GV) (t:Nat) (g:GV),jC fr t=true->cH (bs fr t g) t=g:=by
  intro fr
  induction fr with
  | nil=>intro t g h;cases h
  | cons x fr ih=>intro t g h;cases t with | zero=>rfl | succ t=>exact ih t g h
 refine GW.loop (fun k:Nat=>n - k) (fun k fr Γ=>k<=n/\I k fr Γ) 0 ?_ ?_
 ·obtain ⟨b8,aK,hw,h⟩:=h0;exact ⟨b8,aK,hw,Nat.zero_le _,h⟩
 rintro k fr Γ ⟨hk,hi⟩;obtain ⟨h1,h2,h3⟩:=hI k fr Γ hi;refine GW.seq (GW.region (GL.q (YG.go (v:=.bool (decide ((k:Int) < (n:Int)))) ?_) (GL.nil (bb ?_))))
 ·simp only [Un,Xw.go,aY,h1,h2,B8,JZ,ii,KX,J0]
 by_cases ak:k < n
 ·have hd:decide ((k:Int) < (n:Int))=true:=by simpa using ak
  simp only [br,hd];refine GW.seq (Lz (wY fr tb _ h3) rfl (GW.skip (bb (GW.seq (GW.block ?_)))));refine GW.mono (WE k fr Γ ak hi) ?_;intro e b8 aK hq;have key:∀ b8 aK,(cH b8 ti=.v (ii k)/\jC b8 ta=true/\y5 m (I (k+1)) (bs (bs b8 ta (.v (ii ((k+1:Nat):Int)))) ti (.v (ii ((k+1:Nat):Int)))) aK) ->
    GW P m (.region r2 [(⟨some ta,.binOp .add T4 (.tmp ti) (.const (.int .i64 1)) T5,T6,p2,a2,none⟩:Oper),⟨some ti,.move (.tmp ta),T7,p3,a3,none⟩].toArray false) (aV (fun b8 aK=>∃ y:Nat,y5 m (fun fr Γ=>y<=n/\I y fr Γ) b8 aK/\n - y < n - k) (aZ B Q)) b8 aK:=by
   rintro b8 aK ⟨h5,h6,My,DV,hw,h7⟩;refine GW.region (GL.q (YG.uw (a:=k) h5 rfl (by omega)) (GL.q YG.mv (GL.nil (bb ⟨k+1,⟨My,DV,?_,ak,h7⟩,by omega⟩))));have h8:aY (bs b8 ta (.v (ii ((k+1:Nat):Int)))) (.tmp ta)=.v (ii ((k+1:Nat):Int)):=wY b8 ta _ h6;simp only [br,h8];exact hw
  cases e with
  | normal=>exact key b8 aK hq
  | exit id =>
   simp only [aZ] at hq |-;split <;> rename_i hh
   ·rw [if_pos hh] at hq;exact key b8 aK hq
   ·rw [if_neg hh] at hq;exact hq
  | goto _=>exact hq
  | ret=>exact hq
  | panic _=>exact hq
  | outgrown=>exact hq
 ·have rz:k=n:=by omega
  have hd:decide ((k:Int) < (n:Int))=false:=by simpa using ak
  simp only [br,hd];refine GW.seq (Ly (wY fr tb _ h3) rfl (GW.exit (EZ (EZ (Is ?_)))));subst rz;exact oW fr Γ hi
def mh (g g':GV):Prop:=∀ K β x,Rel K β x g->Rel K β x g'
def kL (gs hs:List GV):Prop:=∀ K β vs,ba K β vs gs->ba K β vs hs
theorem mh.refl {g:GV}:mh g g:=fun _ _ _ h=>h
theorem mh.U {g:GV}:mh g .U:=fun _ _ _ _=>.U _
theorem mh.nil {k:Nat}:mh (.v (.slice none 0 0)) (.sl k []):=fun K β x h=>by
 rw [Rel.eD h];exact .sl0 _ _ _
theorem kL.nil:kL [] []:=fun _ _ _ h=>h
theorem kL.refl {gs:List GV}:kL gs gs:=fun _ _ _ h=>h
theorem kL.cons {g h:GV} {gs hs:List GV} (h1:mh g h) (h2:kL gs hs):kL (g::gs) (h::hs):=fun K β vs hv=>by
 cases vs with
 | nil=>have:=hv.1;simp at this
 | cons v vs=>obtain ⟨a,b⟩:=hv.nN;exact .cons (h1 K β v a) (h2 K β vs b)
theorem mh.agg {gs hs:List GV} (h:kL gs hs):mh (.agg gs) (.agg hs):=fun K β x hx=>by
 cases hx with
 | agg vs _ hl h'=>obtain ⟨a,b⟩:=h K β vs ⟨hl,h'⟩;exact .agg vs hs a b
theorem mh.tup {gs hs:List GV} (h:kL gs hs):mh (.tup gs) (.tup hs):=fun K β x hx=>by
 cases hx with
 | tup vs _ hl h'=>obtain ⟨a,b⟩:=h K β vs ⟨hl,h'⟩;exact .tup vs hs a b
inductive TH:List GV->List GV->Prop
 | nil:TH [] []
 | cons {f g:GV} {fs gs:List GV} (h:mh f g) (t:TH fs gs):TH (f::fs) (g::gs)
section
variable {P:Program} {m:Nat} {Q:dD} {fr:List GV} {Γ:List Ob} {ops:Array Oper} {rest:List Oper} {d:Option Tmp} {op:Op} {ty:TypeId} {pos:String} {af:Array Edge}
theorem Wk.cells (i:Nat) {E:TypeId} {cs ds:List GV} (hi:Γ[i]?=some (.box E cs)) (h:kL cs ds):Wk m fr Γ fr (oset Γ i (.box E ds)):=fun B K β w l _ hI hF=>by
 rw [bd];refine ⟨K,β,⟨hI.ext,hI.kle,hI.ble,hI.loc,hI.fz,fun j x hj=>?_,fun j hj=>hI.out j (by simpa using hj),hI.dis,hI.own,hI.kn,hI.tab⟩,hF⟩;rw [getElem?_set] at hj;split at hj
 ·rename_i eR;split at hj
  ·cases hj;subst eR
   obtain ⟨b,vs,h1,h2,h3,h4⟩:=hI.ob i _ hi;exact ⟨b,vs,h1,h2,h K β vs h3,h4⟩
  ·cases hj
 ·exact hI.ob j x hj
theorem GL.AJ {f:FuncId} [hf:aH P f] (aO:List Nat) {args:List Operand} {mI:Array TypeId} {gs:List GV} {gQ:List Ob} {R:GV->List Ob->Prop} (hc:GC P f gs gQ R) (ha:kL (args.map (aY fr)) (lF (bV aO Γ.length) gs)) (eG:gL aO Γ.length=true)
  (bz:seen (bV aO Γ.length) Γ aO gQ) (h:∀ g aK,R g aK->aO.length<=aK.length/\GL P m ops Q rest (br fr d (dz (bV aO Γ.length) g)) (dS Γ aO (aK.map (Ob.dz (bV aO Γ.length))))) :
  GL P m ops Q (⟨d,.call ⟨.value (.func f),args.toArray,mI⟩,ty,pos,af,none⟩::rest) fr Γ :=
 GL.calls (vs:=fun l=>args.map (ev l)) (fun K β w l hF=>⟨ha K β _ (hF.args args),by simp [execOp,resolve,ev,Deferred.ofValue,invoke,lG]⟩) eG bz hc h
theorem GL.JL {f:FuncId} [hf:aH P f] (aO:List Nat) {args:List Operand} {mI:Array TypeId} {gs:List GV} {gQ ra:List Ob} {g:GV} (hc:GF P f gs gQ g ra) (ha:kL (args.map (aY fr)) (lF (bV aO Γ.length) gs)) (eG:gL aO Γ.length=true)
  (bz:seen (bV aO Γ.length) Γ aO gQ) (hl:Nat.ble aO.length ra.length=true) (h:GL P m ops Q rest (br fr d (dz (bV aO Γ.length) g)) (dS Γ aO (ra.map (Ob.dz (bV aO Γ.length))))) :
  GL P m ops Q (⟨d,.call ⟨.value (.func f),args.toArray,mI⟩,ty,pos,af,none⟩::rest) fr Γ :=
 GL.AJ aO hc ha eG bz fun g' aK ⟨h1,h2⟩=>by subst h1;subst h2;exact ⟨by simpa using hl,h⟩
end
section
variable {P:Program} {fr:List GV} {Γ:List Ob} {g:GV}
theorem K.bin {o:BinOp} {t t':TypeId} {x y:Operand} (h:YG P (.binOp o t x y t') fr Γ g):YG P (.binOp o t x y t') fr Γ g:=h
theorem K.ld {t:TypeId} {x:Operand} (h:YG P (.load t x) fr Γ g):YG P (.load t x) fr Γ g:=h
theorem K.AM {t:TypeId} {x:Operand} {i:Nat} (h:YG P (.fieldAddr t x i) fr Γ g):YG P (.fieldAddr t x i) fr Γ g:=h
theorem K.len {t:TypeId} {x:Operand} (h:YG P (.call ⟨.builtin .len,#[x],#[t]⟩) fr Γ g):YG P (.call ⟨.builtin .len,#[x],#[t]⟩) fr Γ g:=h
theorem K.nck {x:Operand} (h:YG P (.nilCheck x) fr Γ g):YG P (.nilCheck x) fr Γ g:=h
theorem K.idx {t:TypeId} {x y:Operand} (h:YG P (.indexAddr t x y) fr Γ g):YG P (.indexAddr t x y) fr Γ g:=h
theorem K.pick {a b c:Operand} (h:YG P (.pick a b c) fr Γ g):YG P (.pick a b c) fr Γ g:=h
theorem K.Gn {t:TypeId} {x:Operand} {a b c:Option Operand} (h:YG P (.slice t x a b c) fr Γ g):YG P (.slice t x a b c) fr Γ g:=h
theorem K.Cm {f:Fn} {a b:Array Operand} (h:YG P (.makeFunc f a b) fr Γ g):YG P (.makeFunc f a b) fr Γ g:=h
end
section
variable {P:Program} {fn:Func} {m:Nat} {fr:List GV} {Γ aK:List Ob} {e:Exit} {g:GV}
theorem AO {R:GV->List Ob->Prop} (h:sT P fn m (fun x Δ=>∃ y,mh x y/\R y Δ) e fr Γ):sT P fn m R e fr Γ :=
 ⟨h.1,fun B K β w l hm hI hF=>by
  obtain ⟨v,K',bA,x,Δ,h1,h2,h3,y,h4,h5⟩:=h.2 B K β w l hm hI hF
  exact ⟨v,K',bA,y,Δ,h1,h2,h4 _ _ _ h3,h5⟩⟩
end
end Go.Xg
