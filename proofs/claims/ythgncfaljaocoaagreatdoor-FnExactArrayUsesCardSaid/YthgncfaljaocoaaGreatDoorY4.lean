/- Part 4 of proofs that are told in their last texts. -/
import Derived.WalkKit
import Derived.KernelRfl
import Derived.Orders
open List (all_cons eq_nil_of_length_eq_zero flatten_cons getElem?_append_left getElem?_drop getElem?_map getElem?_set getElem?_take length_cons map_nil map_toArray mem_cons_of_mem mem_cons_self mem_filter mem_of_getElem? size_toArray)
set_option linter.unusedVariables false
set_option linter.unusedSimpArgs false
set_option maxRecDepth 100000
namespace Go.Xw
open Go.RowKit
def nth:List Value->Nat->Value
 | [],_=>undef
 | v::_,0=>v
 | _::l,n+1=>nth l n
def eM:List Value->Nat->Value->List Value
 | [],_,_=>[]
 | _::l,0,v=>v::l
 | x::l,n+1,v=>x::eM l n v
def ev (l:List Value):Operand->Value
 | .tmp t=>nth l t
 | .const v=>v
 | .global g=>.pointer (some ⟨g,0,none⟩)
 | .func f=>.func (.func f) #[] #[]
def put (l:List Value) (d:Option Tmp) (v:Value):List Value :=
 match d with | some d=>eM l d v | none=>l
theorem jG (l:List Value) (t:Nat):l.toArray.getD t undef=nth l t:=by
 induction l generalizing t with
 | nil=>simp [nth]
 | cons x l ih =>
  cases t with
  | zero=>simp [nth]
  | succ t=>rw [nth,<-ih];simp [Array.getD]
theorem x6 (l:List Value) (t:Nat) (v:Value):l.toArray.setIfInBounds t v=(eM l t v).toArray:=by
 have h:∀ (l:List Value) t,eM l t v=l.set t v:=by
  intro l
  induction l with
  | nil=>intro t;rfl
  | cons x l ih=>intro t;cases t with | zero=>rfl | succ t=>simp [eM,ih]
 rw [h];simp
def act (l:List Value):Act:=⟨l.toArray,[]⟩
theorem mT (l:List Value):(act l).eval=ev l:=by
 funext x;cases x <;> first | rfl | exact jG l _
theorem oK (l:List Value) (d:Option Tmp) (v:Value):(act l).put d v=act (put l d v):=by
 cases d with
 | none=>rfl
 | some d=>simp only [act,Act.put,put];rw [x6]
abbrev lh:=Exit->List Value->World->Prop
def lift (Q:lh):Exit->Act->World->Prop:=fun e a w=>∃ l,a=act l/\Q e l w
def W (P:Program) (c:Code) (Q:lh) (l:List Value) (w:World):Prop:=c.wp P (lift Q) (act l) w
def WL (P:Program) (ops:Array Oper) (Q:lh) (rest:List Oper) (l:List Value) (w:World):Prop :=
 wpList P ops (lift Q) rest (act l) w
def Wl (next:List Value->World->Prop) (Q:lh):lh
 | .normal,l,w=>next l w
 | e,l,w=>Q e l w
def Tq (id:Nat) (Q:lh):lh
 | .exit A1,l,w=>if A1=id then Q .normal l w else Q (.exit A1) l w
 | e,l,w=>Q e l w
section
variable {P:Program} {Q:lh} {l:List Value} {w:World} {ops:Array Oper} {rest:List Oper}
theorem W.seq {x y:Code} (h:W P x (Wl (W P y Q) Q) l w):W P (.seq x y) Q l w:=by
 refine wp_seq (wp_mono h ?_);rintro e a w ⟨l,rfl,hq⟩
 cases e <;> first | exact hq | exact ⟨l,rfl,hq⟩
theorem W.skip (h:Q .normal l w):W P .skip Q l w:=wp_skip ⟨l,rfl,h⟩
theorem W.exit {n:Nat} (h:Q (.exit n) l w):W P (.exit n) Q l w:=wp_exit ⟨l,rfl,h⟩
theorem W.ret (h:Q .ret l w):W P .ret Q l w:=wp_ret ⟨l,rfl,h⟩
theorem W.block {id:Nat} {c:Code} (h:W P c (Tq id Q) l w):W P (.block id c) Q l w:=by
 refine wp_block (wp_mono h ?_);rintro e a w ⟨l,rfl,hq⟩
 cases e with
 | exit A1 =>
  simp only [Tq] at hq;simp only [Exit.inBlock];split <;> rename_i hh
  ·rw [if_pos hh] at hq;exact ⟨l,rfl,hq⟩
  ·rw [if_neg hh] at hq;exact ⟨l,rfl,hq⟩
 | normal=>exact ⟨l,rfl,hq⟩
 | goto _=>exact ⟨l,rfl,hq⟩
 | ret=>exact ⟨l,rfl,hq⟩
 | panic _=>exact ⟨l,rfl,hq⟩
 | outgrown=>exact ⟨l,rfl,hq⟩
theorem W.cond {c:Operand} {x y:Code} {t:Bool} (hc:ev l c=.bool t) (ht:t=true->W P x Q l w) (hf:t=false->W P y Q l w):W P (.cond c x y) Q l w:=by
 refine wp_cond_split (t:=t) (by rw [mT];exact hc) ht hf
theorem W.mono {c:Code} {Q':lh} (h:W P c Q l w) (hq:∀ e l w,Q e l w->Q' e l w):W P c Q' l w :=
 wp_mono h fun _ _ _ ⟨l,ha,q⟩=>⟨l,ha,hq _ _ _ q⟩
theorem W.loop {c:Code} {α:Type} (μ:α->Nat) (I:α->List Value->World->Prop) (x:α) (h0:I x l w)
  (round:∀ x l w,I x l w->W P c (Wl (fun l' w'=>∃ y,I y l' w'/\μ y < μ x) Q) l w):W P (.loop c) Q l w:=by
 have key:∀ n x l w,μ x=n->I x l w->∀ (b:Frame) (k:List Item) (cs:List Frame),
   ∃ e a' w',lift Q e a' w'/\Arrives P (lone (b.at (act l) (.code c::.inLoop c::k)) cs w) b k cs e a' w':=by
  intro n
  induction n using Nat.strongRecOn with
  | _ n ih =>
   intro x l w hn hI b k cs;obtain ⟨e,ZJ,Cx,hq,xo⟩:=round x l w hI b (.inLoop c::k) cs;obtain ⟨B6,rfl,hq⟩:=hq
   cases e with
   | normal =>
    obtain ⟨y,UJ,ao⟩:=hq;obtain ⟨Wy,Wt,XJ,UT,QV⟩:=ih (μ y) (hn ▸ ao) y B6 Cx rfl UJ b k cs;exact ⟨Wy,Wt,XJ,UT,.of_steps (Steps.trans xo (.one step_inLoop)) QV⟩
   | exit id=>exact ⟨_,_,Cx,⟨B6,rfl,hq⟩,.pass (x:=.inLoop c) rfl (fun _ _=>.inl (by simp)) xo⟩
   | goto _=>exact ⟨_,_,Cx,⟨B6,rfl,hq⟩,.pass (x:=.inLoop c) rfl (fun _ _=>.inl (by simp)) xo⟩
   | ret=>exact ⟨_,_,Cx,⟨B6,rfl,hq⟩,.pass (x:=.inLoop c) rfl (fun _ _=>.inl (by simp)) xo⟩
   | panic ch=>exact ⟨_,_,Cx,⟨B6,rfl,hq⟩,.pass (x:=.inLoop c) rfl (fun _ _=>.inl (by simp)) xo⟩
   | outgrown=>exact ⟨_,_,Cx,⟨B6,rfl,hq⟩,.pass (x:=.inLoop c) rfl (fun _ _=>.inl (by simp)) xo⟩
 intro b k cs;obtain ⟨e,a',w',hq,xo⟩:=key _ x l w rfl h0 b k cs;exact ⟨e,a',w',hq,.of_steps (.one step_loop) xo⟩
theorem W.region {id:Nat} {ol:List Oper} (h:WL P ol.toArray Q ol l w):W P (.region id ol.toArray false) Q l w :=
 wp_region_lit h
theorem WL.nil (h:Q .normal l w):WL P ops Q [] l w:=⟨l,rfl,h⟩
theorem WL.val {d:Option Tmp} {op:Op} {ty:TypeId} {pos:String} {af:Array Edge} {v:Value} {w':World}
  (hr:(execOp (ev l) ⟨d,op,ty,pos,af,none⟩).run P w=.ok (.value v) w')
  (h:WL P ops Q rest (put l d v) w'):WL P ops Q (⟨d,op,ty,pos,af,none⟩::rest) l w:=by
 refine wpList_plain rfl fun K hK=>?_
 simp only [Oper.wp,mT,hr,Oper.upon_value,oK];exact hK _ _ h
theorem WL.Zr {d:Option Tmp} {op:Op} {ty:TypeId} {pos:String} {af:Array Edge} {w':World}
  (hr:(execOp (ev l) ⟨d,op,ty,pos,af,none⟩).run P w=.ok .skip w')
  (h:WL P ops Q rest (put l d undef) w'):WL P ops Q (⟨d,op,ty,pos,af,none⟩::rest) l w:=by
 refine wpList_plain rfl fun K hK=>?_
 simp only [Oper.wp,mT,hr,Oper.upon_skip,oK];exact hK _ _ h
theorem WL.gt {d:Option Tmp} {op:Op} {ty:TypeId} {pos:String} {af:Array Edge} {g:Option (Nat × Bool)}
  (hw:Region.wanted ⟨d,op,ty,pos,af,g⟩ (yielded ops (act l).tmps)=true)
  (h:WL P ops Q (⟨d,op,ty,pos,af,none⟩::rest) l w):WL P ops Q (⟨d,op,ty,pos,af,g⟩::rest) l w:=by
 unfold WL wpList at *;rw [if_pos hw];rw [if_pos (by rfl)] at h;exact h
theorem WL.gf {d:Option Tmp} {op:Op} {ty:TypeId} {pos:String} {af:Array Edge} {g:Option (Nat × Bool)}
  (hw:Region.wanted ⟨d,op,ty,pos,af,g⟩ (yielded ops (act l).tmps)=false)
  (h:WL P ops Q rest (put l d undef) w):WL P ops Q (⟨d,op,ty,pos,af,g⟩::rest) l w:=by
 unfold WL wpList;rw [if_neg (by rw [hw];decide)];show wpList P ops (lift Q) rest ((act l).put d undef) w;rw [oK];exact h
end
section
variable {next:List Value->World->Prop} {Q:lh} {l:List Value} {w:World} {id A1:Nat}
end
end Go.Xw
namespace Go.Xw
open Go.RowKit
structure Ext (S:Nat->Prop) (w w':World):Prop where
 os:w'.os=w.os
 tape:w'.tape=w.tape
 output:w'.output=w.output
 size:w.heap.size<=w'.heap.size
 block:∀ k,k < w.heap.size->¬ S k->w'.heap[k]?=w.heap[k]?
abbrev iG:Nat->Prop:=fun _=>False
theorem Ext.refl {S:Nat->Prop} (w:World):Ext S w w:=⟨rfl,rfl,rfl,Nat.le_refl _,fun _ _ _=>rfl⟩
theorem Ext.trans {S:Nat->Prop} {a b c:World} (h:Ext S a b) (k:Ext S b c):Ext S a c :=
 ⟨k.os.trans h.os,k.tape.trans h.tape,k.output.trans h.output,Nat.le_trans h.size k.size,
  fun i hi hs=>(k.block i (Nat.lt_of_lt_of_le hi h.size) hs).trans (h.block i hi hs)⟩
theorem Ext.step {S0 S:Nat->Prop} {a b c:World} (h:Ext S0 a b) (k:Ext S b c) (hs:∀ j,S j->a.heap.size<=j\/S0 j):Ext S0 a c :=
 ⟨k.os.trans h.os,k.tape.trans h.tape,k.output.trans h.output,Nat.le_trans h.size k.size,
  fun i hi hn=>(k.block i (Nat.lt_of_lt_of_le hi h.size) fun Td=>by
   rcases hs i Td with h1 | h1
   ·omega
   ·exact hn h1).trans (h.block i hi hn)⟩
theorem Ext.mono {S S':Nat->Prop} {a b:World} (h:Ext S a b) (hs:∀ k,k < a.heap.size->S k->S' k):Ext S' a b :=
 ⟨h.os,h.tape,h.output,h.size,fun i hi hn=>h.block i hi fun x=>hn (hs i hi x)⟩
theorem Ext.blk {S:Nat->Prop} {a b:World} (h:Ext S a b) {k:Nat} {o:Obj} (hv:a.heap[k]?=some o) (hs:¬ S k):b.heap[k]?=some o:=by
 rw [h.block k (by have:=(Array.getElem?_eq_some_iff.1 hv).1;exact this) hs,hv]
theorem rp {w:World} {k:Nat} {o:Obj} (hv:w.heap[k]?=some o):k < w.heap.size:=(Array.getElem?_eq_some_iff.1 hv).1
theorem Kr {w:World} {b o:Nat} {cs:Array Value} {E:TypeId} {fz:Nat × Nat} {v:Value} (hb:w.heap[b]?=some (.cells cs E fz)) (hv:cs[o]?=some v):w.cell? ⟨b,o,none⟩=some v:=by
 rw [cell_of_row w b o cs E fz hb,hv]
theorem Ext.below {a b:World} (h:Ext iG a b):Below a.heap.size a b:=⟨h.os,h.tape,h.output,h.size,fun k hk=>h.block k hk (fun x=>x)⟩
structure uG (w w':World) (b:Nat) (o:Obj):Prop where
 fresh:b=w.heap.size
 size:w'.heap.size=b+1
 blk:w'.heap[b]?=some o
 ext:Ext iG w w'
theorem uG.of (w:World) (o:Obj):uG w (w.alloc o) w.heap.size o :=
 ⟨rfl,by simp,heap_alloc_new w o,⟨rfl,rfl,rfl,by simp,fun k hk _=>Below.heap_alloc _ _ _ hk⟩⟩
def x9:TypeDesc->Bool
 | .struct _=>true
 | .array _ _=>true
 | _=>false
class Ty (P:Program) (t:TypeId) (agg:outParam Bool) (k:outParam Nat):Prop where
 und:(P.underlying t).map x9=some agg
 siz:(P.info? t).map (·.size)=some k
class mF (P:Program) (t:TypeId) (e:outParam TypeId) (k:outParam Nat):Prop where
 und:P.underlying t=some (.slice e)
 siz:(P.info? e).map (·.size)=some k
class o8 (P:Program) (t:TypeId):Prop where
 und:P.underlying t=some .string
def I5 (P:Program) (s:TypeId) (i:Nat) (off:Nat) (k:Nat) (agg:Bool):Bool :=
 match P.underlying s with
 | some (.struct fs)=>match fs[i]? with
  | some f=>f.offset==off&&(match P.info? f.type with | some x=>x.size==k | none=>false)&&k != 0&&((P.underlying f.type).map x9==some agg)
  | none=>false
 | _=>false
class dn (P:Program) (s:TypeId) (i:Nat) (off:outParam Nat) (k:outParam Nat) (agg:outParam Bool):Prop where
 is:I5 P s i off k agg=true
section
variable {P:Program} {w:World}
theorem Di {t:TypeId} {agg:Bool} {k:Nat} [h:Ty P t agg k]:(isAgg t).run P w=.ok agg w:=by
 obtain ⟨hu,_⟩:=h
 cases hd:P.underlying t with
 | none=>simp [hd] at hu
 | some d =>
  rw [hd] at hu;unfold isAgg;rw [Sem.run_bind,run_underlying hd w]
  cases d <;> simp_all [x9]
theorem iH {t:TypeId} {k:Nat} (h:(P.info? t).map (·.size)=some k):(sizeOf t).run P w=.ok k w:=by
 cases hq:P.info? t with
 | none=>simp [hq] at h
 | some i=>simp [hq] at h;simp [sizeOf,typeInfo,hq,h]
theorem pb (b o n:Nat):(⟨b,o,none⟩:Addr).add n=⟨b,o+n,none⟩:=by
 unfold Addr.add;split
 ·rename_i h;subst h;rfl
 ·rfl
theorem Fw {t:TypeId} [h:Ty P t false 1] {a:Addr} {v:Value} (hv:w.cell? a=some v):(loadVar t a).run P w=.ok v w:=by
 unfold loadVar;rw [Sem.run_bind,Di (agg:=false) (k:=1)];simp [hv]
theorem nr {t:TypeId} {k:Nat} [h:Ty P t true k] {b o:Nat} {vs:List Value} (hl:vs.length=k) (hv:∀ j v,vs[j]?=some v->w.cell? ⟨b,o+j,none⟩=some v) :
  (loadVar t ⟨b,o,none⟩).run P w=.ok (.agg vs.toArray) w:=by
 unfold loadVar;rw [Sem.run_bind,Di (agg:=true) (k:=k)]
 have hc:(loadCells ⟨b,o,none⟩ k).run P w=.ok vs.toArray w:=by
  rw [<-hl]
  exact run_loadCells_list w _ vs fun j v hj=>by rw [pb];exact hv j v hj
 simp [iH h.siz,hc]
end
def eh (P:Program) (l:List Value) (w:World) (op:Op) (v:Value):Prop :=
 ∀ (d:Option Tmp) (ty:TypeId) (pos:String) (af:Array Edge),(execOp (ev l) ⟨d,op,ty,pos,af,none⟩).run P w=.ok (.value v) w
theorem WL.v {P:Program} {Q:lh} {l:List Value} {w:World} {ops:Array Oper} {rest:List Oper} {d:Option Tmp} {op:Op} {ty:TypeId} {pos:String} {af:Array Edge} {v:Value}
  (hr:eh P l w op v) (h:WL P ops Q rest (put l d v) w):WL P ops Q (⟨d,op,ty,pos,af,none⟩::rest) l w:=WL.val (hr d ty pos af) h
section
variable {P:Program} {l:List Value} {w:World}
theorem R.mv {x:Operand}:eh P l w (.move x) ((ev l x)):=fun d ty pos af=>by simp [execOp]
theorem R.tH {x:Operand}:eh P l w (.assign x) ((ev l x)):=fun d ty pos af=>by simp [execOp]
theorem R.pick {c a b:Operand} {t:Bool} (hc:ev l c=.bool t):eh P l w (.pick c a b) ((if t then ev l a else ev l b)):=fun d ty pos af=>by simp [execOp,hc,asBool]
theorem R.JH {x:Operand} {a:Addr} (hx:ev l x=.pointer (some a)):eh P l w (.nilCheck x) ((.pointer (some a))):=fun d ty pos af=>by simp [execOp,hx]
theorem R.extract {x:Operand} {i:Nat} {vs:Array Value} {v:Value} (hx:ev l x=.tuple vs) (hv:vs[i]?=some v):eh P l w (.extract x i) (v):=fun d ty pos af=>by simp [execOp,hx,Instr.extract,hv]
theorem R.jn {fn:Fn} {first cap:Array Operand}:eh P l w (.makeFunc fn first cap) ((.func fn (first.map (ev l)) (cap.map (ev l)))):=fun d ty pos af=>by simp [execOp,Instr.makeFunc]
abbrev ae:=List UInt8
def sv (s:ae):Value:=.string ⟨s.toArray⟩
theorem toList_mk (s:ae):(⟨s.toArray⟩:ByteArray).toList=s:=by
 simp [ByteArray.toList_eq]
theorem vz (s:ae):(⟨s.toArray⟩:ByteArray).size=s.length:=by
 simp [ByteArray.size]
theorem uf (b:ByteArray):Value.string b=sv b.data.toList:=by
 simp [sv]
theorem Kq (a b:ae):(⟨a.toArray⟩:ByteArray)++⟨b.toArray⟩=⟨(a++b).toArray⟩:=by
 apply ByteArray.ext;simp
theorem extract_mk (s:ae) (i j:Nat):(⟨s.toArray⟩:ByteArray).extract i j=⟨((s.take j).drop i).toArray⟩:=by
 apply ByteArray.ext;simp [ByteArray.data_extract,List.take_drop]
 by_cases h:i<=j
 ·rw [Nat.add_sub_cancel' h]
 ·rw [List.drop_eq_nil_of_le (by simp;omega),List.drop_eq_nil_of_le (by simp;omega)]
theorem ZH (x c:UInt8):((x.toNat:Int)==(c.toNat:Int))=(x==c):=by
 rw [Bool.eq_iff_iff];simp only [beq_iff_eq];constructor
 ·intro h;exact UInt8.toNat_inj.1 (by omega)
 ·rintro rfl;rfl
abbrev ii (n:Int):Value:=.int .i64 n
theorem Cu {n:Int} (h1 : -9223372036854775808<=n) (h2:n<=9223372036854775807):IntKind.i64.wrap n=n:=IntWalk.i64_in _ ⟨h1,h2⟩
theorem R.qt {x:Operand} {t:TypeId} [hT:o8 P t] {s:ae} (hx:ev l x=sv s):eh P l w (.call ⟨.builtin .len,#[x],#[t]⟩) ((ii s.length)):=fun d ty pos af=>by simp [execOp,resolve,invoke,builtin,hx,sv,Builtin.len_,goInt,run_underlying hT.und,vz]
theorem R.Jz {x:Operand} {t e:TypeId} {k:Nat} [hT:mF P t e k] {a:Option Addr} {n c:Nat} (hx:ev l x=.slice a n c):eh P l w (.call ⟨.builtin .len,#[x],#[t]⟩) ((ii n)):=fun d ty pos af=>by simp [execOp,resolve,invoke,builtin,hx,Builtin.len_,goInt,run_underlying hT.und]
theorem R.add {x y:Operand} {t t':TypeId} {a b:Int} (hx:ev l x=ii a) (hy:ev l y=ii b) (h1 : -9223372036854775808<=a+b) (h2:a+b<=9223372036854775807):eh P l w (.binOp .add t x y t') ((ii (a+b))):=fun d ty pos af=>by simp [execOp,eqGuard,hx,hy,binOp,Op.intArith,Cu h1 h2]
theorem R.sub {x y:Operand} {t t':TypeId} {a b:Int} (hx:ev l x=ii a) (hy:ev l y=ii b) (h1 : -9223372036854775808<=a - b) (h2:a - b<=9223372036854775807):eh P l w (.binOp .sub t x y t') ((ii (a - b))):=fun d ty pos af=>by simp [execOp,eqGuard,hx,hy,binOp,Op.intArith,Cu h1 h2]
theorem R.mul {x y:Operand} {t t':TypeId} {a b:Int} (hx:ev l x=ii a) (hy:ev l y=ii b) (h1 : -9223372036854775808<=a * b) (h2:a * b<=9223372036854775807):eh P l w (.binOp .mul t x y t') ((ii (a * b))):=fun d ty pos af=>by simp [execOp,eqGuard,hx,hy,binOp,Op.intArith,Cu h1 h2]
theorem R.cat {x y:Operand} {t t':TypeId} {a b:ae} (hx:ev l x=sv a) (hy:ev l y=sv b) (h1:a.length+b.length<=9223372036854775807):eh P l w (.binOp .add t x y t') ((sv (a++b))):=fun d ty pos af=>by
  have h2:¬ ((((⟨a.toArray⟩:ByteArray).size+(⟨b.toArray⟩:ByteArray).size:Nat):Int) > IntKind.i64.max):=by
   rw [vz,vz];simp [IntKind.max,IntKind.signed,IntKind.bits];omega
  simp only [execOp,eqGuard,hx,hy,binOp,sv,Op.stringOp,if_neg h2,Kq];simp
theorem R.eq {x y:Operand} {t t':TypeId} {k:IntKind} {a b:Int} (hx:ev l x=.int k a) (hy:ev l y=.int k b):eh P l w (.binOp .eql t x y t') ((.bool (a==b))):=fun d ty pos af=>by simp [execOp,eqGuard,hx,hy,binOp,Op.intCmp]
theorem R.ne {x y:Operand} {t t':TypeId} {k:IntKind} {a b:Int} (hx:ev l x=.int k a) (hy:ev l y=.int k b):eh P l w (.binOp .neq t x y t') ((.bool (a != b))):=fun d ty pos af=>by simp [execOp,eqGuard,hx,hy,binOp,Op.intCmp]
theorem R.lt {x y:Operand} {t t':TypeId} {k:IntKind} {a b:Int} (hx:ev l x=.int k a) (hy:ev l y=.int k b):eh P l w (.binOp .lss t x y t') ((.bool (decide (a < b)))):=fun d ty pos af=>by simp [execOp,eqGuard,hx,hy,binOp,Op.intCmp]
theorem R.le {x y:Operand} {t t':TypeId} {k:IntKind} {a b:Int} (hx:ev l x=.int k a) (hy:ev l y=.int k b):eh P l w (.binOp .leq t x y t') ((.bool (decide (a<=b)))):=fun d ty pos af=>by simp [execOp,eqGuard,hx,hy,binOp,Op.intCmp]
theorem R.X6 {x y:Operand} {t t':TypeId} {k:IntKind} {a b:Int} (hx:ev l x=.int k a) (hy:ev l y=.int k b):eh P l w (.binOp .gtr t x y t') ((.bool (decide (b < a)))):=fun d ty pos af=>by simp [execOp,eqGuard,hx,hy,binOp,Op.intCmp]
theorem R.ge {x y:Operand} {t t':TypeId} {k:IntKind} {a b:Int} (hx:ev l x=.int k a) (hy:ev l y=.int k b):eh P l w (.binOp .geq t x y t') ((.bool (decide (b<=a)))):=fun d ty pos af=>by simp [execOp,eqGuard,hx,hy,binOp,Op.intCmp]
theorem R.uS {x y:Operand} {t t':TypeId} {a b:ae} (hx:ev l x=sv a) (hy:ev l y=sv b):eh P l w (.binOp .eql t x y t') ((.bool (a==b))):=fun d ty pos af=>by simp only [execOp,eqGuard,hx,hy,binOp,sv,Op.stringOp,toList_mk];simp
theorem R.vk {x y:Operand} {t t':TypeId} {a b:ae} (hx:ev l x=sv a) (hy:ev l y=sv b):eh P l w (.binOp .neq t x y t') ((.bool (!(a==b)))):=fun d ty pos af=>by simp only [execOp,eqGuard,hx,hy,binOp,sv,Op.stringOp,toList_mk];simp
theorem R.not {x:Operand} {t:TypeId} {b:Bool} (hx:ev l x=.bool b):eh P l w (.unOp .not t x) ((.bool (!b))):=fun d ty pos af=>by simp [execOp,hx,Op.unary]
theorem R.qs {x y:Operand} {t:TypeId} [hT:o8 P t] {s:ae} {k:IntKind} {i:Nat} {c:UInt8} (hx:ev l x=sv s) (hy:ev l y=.int k i) (hc:s[i]?=some c):eh P l w (.index t x y) ((.int .u8 c.toNat)):=fun d ty pos af=>by
  have hg:(⟨s.toArray⟩:ByteArray)[i]?=some c:=by
   obtain ⟨hi,hv⟩:=List.getElem?_eq_some_iff.1 hc
   have om:i < (⟨s.toArray⟩:ByteArray).size:=by rw [vz];exact hi
   rw [getElem?_pos (⟨s.toArray⟩:ByteArray) i om];simp only [ByteArray.getElem_eq_getElem_data];simpa using hv
  simp [execOp,Instr.index,hx,hy,asIntOf,run_underlying hT.und,sv,hg]
theorem R.OT {x:Operand} {t:TypeId} [hT:o8 P t] {s:ae} {lo hi:Option Operand} {i j:Nat} (hx:ev l x=sv s)
  (ig:match lo with | some y=>∃ k,ev l y=.int k i | none=>i=0) (AM:match hi with | some y=>∃ k,ev l y=.int k j | none=>j=s.length)
  (h1:i<=j) (h2:j<=s.length):eh P l w (.slice t x lo hi none) ((sv ((s.take j).drop i))):=fun d ty pos af=>by
  have b6:=vz s
  cases lo <;> cases hi <;> simp only at ig AM
  ·subst ig;subst AM;simp [execOp,Instr.sliceAt,Instr.slice,Instr.sliceBounds,hx,sv,run_underlying hT.und,b6,extract_mk]
  ·obtain ⟨k,hk⟩:=AM;subst ig;simp [execOp,Instr.sliceAt,Instr.slice,Instr.sliceBounds,Instr.sliceBound,asIntOf,hx,hk,sv,run_underlying hT.und,b6,extract_mk,h2]
  ·obtain ⟨k,hk⟩:=ig;subst AM;simp [execOp,Instr.sliceAt,Instr.slice,Instr.sliceBounds,Instr.sliceBound,asIntOf,hx,hk,sv,run_underlying hT.und,b6,extract_mk,h1]
  ·obtain ⟨k,hk⟩:=ig;obtain ⟨k',ln⟩:=AM;simp [execOp,Instr.sliceAt,Instr.slice,Instr.sliceBounds,Instr.sliceBound,asIntOf,hx,hk,ln,sv,run_underlying hT.und,b6,extract_mk,h1,h2]
theorem R.qp {x y:Operand} {t e:TypeId} {k:Nat} [hT:mF P t e k] {b o n c:Nat} {kk:IntKind} {i:Nat} (hx:ev l x=.slice (some ⟨b,o,none⟩) n c) (hy:ev l y=.int kk i) (hi:i < n):eh P l w (.indexAddr t x y) ((.pointer (some ⟨b,o+i * k,none⟩))):=fun d ty pos af=>by
  simp [execOp,Instr.indexAt,hx,hy,asIntOf,run_underlying hT.und,hi,iH hT.siz,pb]
theorem R.NL {x:Operand} {s:TypeId} {i off k:Nat} {agg:Bool} [hT:dn P s i off k agg] {b o:Nat} (hx:ev l x=.pointer (some ⟨b,o,none⟩)):eh P l w (.fieldAddr s x i) ((.pointer (some ⟨b,o+off,none⟩))):=fun d ty pos af=>by
  obtain ⟨hT⟩:=hT;unfold I5 at hT;split at hT
  ·rename_i fs hu;split at hT
   ·rename_i f hf;simp only [Bool.and_eq_true,beq_iff_eq,bne_iff_ne,ne_eq] at hT;obtain ⟨⟨⟨h1,h2⟩,h3⟩,h4⟩:=hT;split at h2
    ·rename_i x hq
     have hs:(P.info? f.type).map (·.size)=some k:=by rw [hq];simpa using h2
     simp [execOp,Instr.fieldAt,hx,run_underlying hu,hf,Instr.sureAddr,fieldPlace,iH hs,h3,pb,h1]
    ·cases h2
   ·cases hT
  ·cases hT
theorem R.Zl {x:Operand} {t:TypeId} [hT:Ty P t false 1] {a:Addr} {v:Value} (hx:ev l x=.pointer (some a)) (hv:w.cell? a=some v):eh P l w (.load t x) (v):=fun d ty pos af=>by simp [execOp,Instr.loadAt,hx,Instr.sureAddr,Fw hv]
theorem R.Zm {x:Operand} {t:TypeId} {k:Nat} [hT:Ty P t true k] {b o:Nat} {vs:List Value} (hx:ev l x=.pointer (some ⟨b,o,none⟩)) (hl:vs.length=k)
  (hv:∀ j v,vs[j]?=some v->w.cell? ⟨b,o+j,none⟩=some v):eh P l w (.load t x) ((.agg vs.toArray)):=fun d ty pos af=>by simp [execOp,Instr.loadAt,hx,Instr.sureAddr,nr hl hv]
end
def fF (H:Array Obj) (b o:Nat):Option Value :=
 match H[b]? with
 | some (.cells c _ _)=>c[o]?
 | _=>none
theorem eY (w:World) (b o:Nat):w.cell? ⟨b,o,none⟩=fF w.heap b o:=by
 unfold World.cell? fF
 cases w.heap[b]? with
 | none=>rfl
 | some x=>cases x <;> rfl
theorem DY {H:Array Obj} {b o:Nat} {v:Value} (h:fF H b o=some v):b < H.size:=by
 unfold fF at h
 cases hb:H[b]? with
 | none=>rw [hb] at h;cases h
 | some x=>exact (Array.getElem?_eq_some_iff.1 hb).1
theorem Ext.c {S:Nat->Prop} {w w':World} (hx:Ext S w w') {b o:Nat} {v:Value} (h:fF w.heap b o=some v) (hs:¬ S b):fF w'.heap b o=some v:=by
 unfold fF at *;rw [hx.block b (DY (H:=w.heap) (by unfold fF;exact h)) hs];exact h
theorem vN {H:Array Obj} {b o:Nat} {cs:Array Value} {E:TypeId} {fz:Nat × Nat} {v:Value} (hb:H[b]?=some (.cells cs E fz)) (hv:cs[o]?=some v):fF H b o=some v:=by
 unfold fF;rw [hb];exact hv
theorem Ext.drew {S:Nat->Prop} (w:World):Ext S w w.drew:=⟨rfl,rfl,rfl,Nat.le_refl _,fun _ _ _=>rfl⟩
theorem R.ld {P:Program} {l:List Value} {w:World} {x:Operand} {t:TypeId} [hT:Ty P t false 1] {b o:Nat} {v:Value} (hx:ev l x=.pointer (some ⟨b,o,none⟩)) (hv:fF w.heap b o=some v):eh P l w (.load t x) v:=R.Zl hx (by rw [eY];exact hv)
theorem R.Wg {P:Program} {l:List Value} {w:World} {x:Operand} {t:TypeId} {k:Nat} [hT:Ty P t true k] {b o:Nat} {vs:List Value} (hx:ev l x=.pointer (some ⟨b,o,none⟩)) (hl:vs.length=k)
  (hv:∀ j v,vs[j]?=some v->fF w.heap b (o+j)=some v):eh P l w (.load t x) (.agg vs.toArray):=R.Zm hx hl (fun j v h=>by rw [eY];exact hv j v h)
section
variable {H:Array Obj} {b o:Nat} {v0 v1 v2 v3 v4 v5:Value}
end
end Go.Xw
namespace Go.Xw
open Go.RowKit
class qS (P:Program) (t:TypeId) (z:outParam Value):Prop where
 is:(P.info? t).bind (·.zero)=some z
structure tF (w w':World) (b:Nat) (cs:Array Value) (E:TypeId):Prop where
 blk:w'.heap[b]?=some (.cells cs E (0,0))
 ext:Ext (·=b) w w'
 size:w'.heap.size=w.heap.size
def uA (cs:Array Value) (o:Nat):List Value->Array Value
 | []=>cs
 | v::r=>uA (cs.setIfInBounds o v) (o+1) r
def lr (vs:List Value):Bool:=vs.all (·.oneCell')
section
variable {P:Program} {w:World}
theorem Ab {t:TypeId} {z:Value} [h:qS P t z]:(zeroValue t).run P w=.ok z w:=by
 obtain ⟨h⟩:=h
 cases hq:P.info? t with
 | none=>simp [hq] at h
 | some i=>simp [hq] at h;simp [zeroValue,typeInfo,hq,h]
theorem tF.refl {b:Nat} {cs:Array Value} {E:TypeId} (hb:w.heap[b]?=some (.cells cs E (0,0))):tF w w b cs E:=⟨hb,Ext.refl _,rfl⟩
theorem tF.trans {w1 w2:World} {b:Nat} {cs yU:Array Value} {E:TypeId} (h:tF w w1 b cs E) (k:tF w1 w2 b yU E):tF w w2 b yU E :=
 ⟨k.blk,h.ext.trans k.ext,k.size.trans h.size⟩
theorem tF.setCell {b o:Nat} {cs:Array Value} {E:TypeId} (hb:w.heap[b]?=some (.cells cs E (0,0))) (v:Value) :
  tF w (w.setCell ⟨b,o,none⟩ v) b (cs.setIfInBounds o v) E :=
 ⟨heap_setCell_same w b o cs E v hb,⟨rfl,rfl,rfl,by simp,fun k _ hs=>heap_setCell_other w _ k v hs⟩,by simp⟩
theorem vy {b o:Nat} {E:TypeId}:∀ (vs:List Value) (i:Nat) (w:World) (cs:Array Value),w.heap[b]?=some (.cells cs E (0,0))->o+i+vs.length<=cs.size->lr vs=true ->
  ∃ w',(storeCells ⟨b,o,none⟩ vs i).run P w=.ok () w'/\tF w w' b (uA cs (o+i) vs) E
 | [],i,w,cs,hb,_,_=>⟨w,by simp [storeCells],tF.refl hb⟩
 | v::r,i,w,cs,hb,hl,h1=>by
  simp only [lr,all_cons,Bool.and_eq_true] at h1;simp only [length_cons] at hl;have hs:=tF.setCell (w:=w) (o:=o+i) hb v;obtain ⟨w',hr,bq⟩:=vy (b:=b) (o:=o) (E:=E) r (i+1) _ _ hs.blk (by simp;omega) h1.2;refine ⟨w',?_,hs.trans (by simpa [uA,Nat.add_assoc] using bq)⟩;have hc:w.cell? ⟨b,o+i,none⟩=cs[o+i]?:=cell_of_row w b (o+i) cs E (0,0) hb;have dp:∃ u,w.cell? ⟨b,o+i,none⟩=some u:=⟨cs[o+i]'(by omega),by rw [hc];simp⟩;obtain ⟨u,hu⟩:=dp;have hf:w.frozen? ⟨b,o+i,none⟩=false:=frozen_of_row w b _ cs E hb
  have Xm:(store ((⟨b,o,none⟩:Addr).add i) v).run P w=.ok () (w.setCell ⟨b,o+i,none⟩ v):=by
   rw [pb]
   cases v <;> first | (simp [Value.oneCell'] at h1;done) | simp [store,Sem.run,hu,hf]
  simp only [storeCells,Sem.run_bind,Xm,Result.andThen_ok,hr]
theorem Fx {t:TypeId} {agg:Bool} {k:Nat} [hT:Ty P t agg k] {b o:Nat} {E:TypeId} {cs:Array Value} {v:Value} (hb:w.heap[b]?=some (.cells cs E (0,0)))
  (hl:v.cells.size=k) (ho:o+k<=cs.size) (h1:lr v.cells.toList=true) :
  ∃ w',(storeVar t ⟨b,o,none⟩ v).run P w=.ok () w'/\tF w w' b (uA cs o v.cells.toList) E:=by
 obtain ⟨w',hr,hs⟩:=vy (P:=P) (o:=o) v.cells.toList 0 w cs hb (by simp;omega) h1;refine ⟨w',?_,by simpa using hs⟩;simp [storeVar,iH hT.siz,hl,hr]
end
def gI:List Value->Nat->List Value->List Value
 | cs,_,[]=>cs
 | cs,o,v::r=>gI (eM cs o v) (o+1) r
def ph (pl:Nat->Option (Nat × Nat)):List Value->List (Nat × Value)->Option (List Value)
 | cs,[]=>some cs
 | cs,(i,v)::r=>match pl i with
  | none=>none
  | some (o,k)=>if v.cells.size≠k || decide (o+v.cells.size > cs.length) then none else ph pl (gI cs o v.cells.toList) r
theorem Ad:∀ (vs:List Value) (cs:List Value) (o:Nat),(gI cs o vs).length=cs.length
 | [],_,_=>rfl
 | v::r,cs,o=>by
  rw [gI,Ad r];have:=congrArg Array.size (x6 cs o v);simpa using this.symm
theorem AA:∀ (vs:List Value) (cs:List Value) (o n:Nat),
  (vs.zipIdx n).foldl (fun (cs:Array Value) (x:Value × Nat)=>cs.setIfInBounds (o+x.2) x.1) cs.toArray=(gI cs (o+n) vs).toArray
 | [],cs,o,n=>by simp [gI]
 | v::r,cs,o,n=>by
  simp only [List.zipIdx_cons,List.foldl_cons,x6,gI];rw [AA r];rfl
theorem xk (pl:Nat->Option (Nat × Nat)):∀ (parts:List (Nat × Value)) (cs:List Value),
  Instr.fill pl cs.toArray parts=(ph pl cs parts).map List.toArray
 | [],cs=>by simp [Instr.fill,ph]
 | (i,v)::r,cs=>by
  simp only [Instr.fill,ph]
  cases hp:pl i with
  | none=>rfl
  | some x =>
   obtain ⟨o,k⟩:=x;simp only [size_toArray];split
   ·rfl
   ·have h:(v.cells.zipIdx.foldl (fun (cs:Array Value) (x:Value × Nat)=>cs.setIfInBounds (o+x.2) x.1) cs.toArray)=(gI cs o v.cells.toList).toArray:=by
     have:=AA v.cells.toList cs o 0;rw [<-Array.foldl_toList,Array.toList_zipIdx];exact this
    have h2:=xk pl r (gI cs o v.cells.toList);rw [<-h2,<-h]
def Qd (P:Program) (t:TypeId) (pl:List (Nat × Nat)):Bool :=
 match P.underlying t with
 | some (.struct fs)=>(fs.toList.map fun f=>(f.offset,(P.info? f.type).map (·.size)))==pl.map fun x=>(x.1,some x.2)
 | _=>false
class tE (P:Program) (t:TypeId) (pl:outParam (List (Nat × Nat))) (z:outParam (List Value)):Prop where
 is:Qd P t pl=true
 zero:(P.info? t).bind (·.zero)=some (.agg z.toArray)
section
variable {P:Program} {w:World}
theorem Bg {fs:List Field}:∀ {pl:List (Nat × Nat)},(fs.map fun f=>(f.offset,(P.info? f.type).map (·.size)))=(pl.map fun x=>(x.1,some x.2)) ->
  (List.mapM (m:=Sem) (fun (f:Field)=>Functor.map (Prod.mk f.offset) (sizeOf f.type)) fs).run P w=.ok pl w:=by
 induction fs with
 | nil=>intro pl h;cases pl with | nil=>simp | cons=>simp at h
 | cons f fs ih =>
  intro pl h
  cases pl with
  | nil=>simp at h
  | cons x pl =>
   simp only [List.map_cons,List.cons.injEq,Prod.mk.injEq] at h;obtain ⟨⟨h1,h2⟩,h3⟩:=h;have:=ih h3;have h5:=iH (w:=w) h2;simp [List.mapM_cons,Sem.run_bind,h5,this,h1]
theorem run_build {t:TypeId} {pl:List (Nat × Nat)} {z:List Value} [hT:tE P t pl z] {parts:List (Nat × Value)} {cs:List Value} (hf:ph (fun i=>pl[i]?) z parts=some cs) :
  (Instr.build t parts.toArray).run P w=.ok (.agg cs.toArray) w:=by
 obtain ⟨hi,hz⟩:=hT
 have ER:(zeroValue t).run P w=.ok (.agg z.toArray) w:=by
  haveI:qS P t (.agg z.toArray):=⟨hz⟩
  exact Ab
 unfold Qd at hi;split at hi
 ·rename_i fs hu;have hm:=Bg (P:=P) (w:=w) (eq_of_beq hi)
  have kp:(Array.mapM (m:=Sem) (fun (f:Field)=>Functor.map (Prod.mk f.offset) (sizeOf f.type)) fs).run P w=.ok pl.toArray w:=by
   rw [Array.mapM_eq_mapM_toList];simp [hm]
  have gV:=xk (fun i=>pl[i]?) parts z;rw [hf] at gV;simp [Instr.build,Sem.run_bind,ER,run_underlying hu,kp,Value.cells];simp [gV]
 ·cases hi
end
section
variable {P:Program} {Q:lh} {l:List Value} {w:World} {ops:Array Oper} {rest:List Oper} {d:Option Tmp} {ty:TypeId} {pos:String} {af:Array Edge}
theorem Bh (t:TypeId) (v:Value):(newVar t v).run P w=.ok ⟨w.heap.size,0,none⟩ (w.alloc (.cells v.cells t)):=by
 rfl
theorem WL.alloc {t:TypeId} {z:Value} [hT:qS P t z] (h:∀ b w',uG w w' b (.cells z.cells t)->WL P ops Q rest (put l d (.pointer (some ⟨b,0,none⟩))) w') :
  WL P ops Q (⟨d,.alloc t,ty,pos,af,none⟩::rest) l w :=
 WL.val (w':=w.alloc (.cells z.cells t)) (by simp [execOp,Instr.alloc,Ab (w:=w) (z:=z),Bh]) (h _ _ (uG.of w _))
theorem WL.box {t:TypeId} {x:Operand} {v:Value} (hx:ev l x=v) (h:∀ b w',uG w w' b (.cells v.cells t)->WL P ops Q rest (put l d (.pointer (some ⟨b,0,none⟩))) w') :
  WL P ops Q (⟨d,.box t x,ty,pos,af,none⟩::rest) l w :=
 WL.val (w':=w.alloc (.cells v.cells t)) (by simp [execOp,Instr.box,Bh,hx]) (h _ _ (uG.of w _))
theorem R.build {t:TypeId} {pl:List (Nat × Nat)} {z:List Value} [hT:tE P t pl z] {parts:List (Nat × Operand)} {cs:List Value}
  (hf:ph (fun i=>pl[i]?) z (parts.map fun x=>(x.1,ev l x.2))=some cs):eh P l w (.build t parts.toArray) (.agg cs.toArray):=fun d ty pos af=>by
  have hr:=run_build (P:=P) (w:=w) (t:=t) hf;simp only [execOp,map_toArray];simp [hr]
class o7 (P:Program) (t:TypeId) (e:outParam TypeId) (k:outParam Nat) (z:outParam (List Value)):Prop where
 und:P.underlying t=some (.slice e)
 siz:(P.info? e).map (·.size)=some k
 zero:(P.info? e).bind (·.zero)=some (if k=1 then z.headD undef else .agg z.toArray)
 zl:z.length=k
 pos:0 < k
 one:k=1->(z.headD undef).cells=#[z.headD undef]
theorem o7.cells {t e:TypeId} {k:Nat} {z:List Value} (h:o7 P t e k z):(if k=1 then z.headD undef else .agg z.toArray).cells=z.toArray:=by
 split
 ·rename_i hk;rw [h.one hk];have:=h.zl;rw [hk] at this
  match z,this with
  | [a],_=>rfl
 ·rfl
theorem WL.B7 {t e:TypeId} {k:Nat} {z:List Value} [hT:o7 P t e k z] {n:Nat} {parts:List (Nat × Operand)} {cs:List Value} (hn:n * k<=16777216)
  (hf:ph (fun i=>some (i * k,k)) ((List.range (n * k)).map fun j=>z.getD (j % k) undef) (parts.map fun x=>(x.1,ev l x.2))=some cs)
  (h:∀ b w',uG w w' b (.cells cs.toArray e)->WL P ops Q rest (put l d (.slice (some ⟨b,0,none⟩) n n)) w') :
  WL P ops Q (⟨d,.buildSlice t n parts.toArray,ty,pos,af,none⟩::rest) l w :=
 WL.val (w':=w.alloc (.cells cs.toArray e)) (by
  have hz:(zeroValue e).run P w=.ok (if k=1 then z.headD undef else .agg z.toArray) w:=by
   haveI:qS P e (if k=1 then z.headD undef else .agg z.toArray):=⟨hT.zero⟩
   exact Ab
  have hc:=hT.cells;generalize (if k=1 then z.headD undef else .agg z.toArray:Value)=zv at hz hc;have gV:=xk (fun i=>some (i * k,k)) (parts.map fun x=>(x.1,ev l x.2)) ((List.range (n * k)).map fun j=>z.getD (j % k) undef);rw [hf] at gV
  have AQ:¬ (16777216 < n * k):=by omega
  by_cases h0:n * k=0
  ·have X7:n=0:=by
    rcases Nat.mul_eq_zero.1 h0 with h | h
    ·exact h
    ·have:=hT.pos;omega
   subst X7;simp only [Nat.zero_mul,List.range_zero,map_nil] at gV;simp only [execOp,map_toArray];have ri:(Array.range 0)=#[]:=rfl;simp [Instr.buildSlice,run_underlying hT.und,iH hT.siz,ri,gV];rfl
  ·have he:(Array.range (n * k)).map (fun j=>z.toArray[j % z.toArray.size]!)=((List.range (n * k)).map fun j=>z.getD (j % k) undef).toArray:=by
    apply Array.ext';simp only [Array.toList_map,Array.toList_range];apply List.map_congr_left;intro j _;have hk:=hT.pos
    have ao:j % k < z.length:=by rw [hT.zl];exact Nat.mod_lt _ hk
    rw [List.getD_eq_getElem?_getD,List.getElem?_eq_getElem ao];simp [hT.zl];rw [List.getElem?_eq_getElem ao];rfl
   rw [<-he] at gV;simp only [execOp,map_toArray];simp [Instr.buildSlice,run_underlying hT.und,iH hT.siz,AQ,h0,hz,hc];simp only [size_toArray] at gV;simp at gV;simp [gV]
   rfl) (h _ _ (uG.of w _))
theorem WL.st {x y:Operand} {t:TypeId} {agg:Bool} {k:Nat} [hT:Ty P t agg k] {b o:Nat} {E:TypeId} {cs:Array Value} {v:Value} (hx:ev l x=.pointer (some ⟨b,o,none⟩)) (hy:ev l y=v)
  (hb:w.heap[b]?=some (.cells cs E (0,0))) (hl:v.cells.size=k) (ho:o+k<=cs.size) (h1:lr v.cells.toList=true)
  (h:∀ w',tF w w' b (uA cs o v.cells.toList) E->WL P ops Q rest (put l d undef) w'):WL P ops Q (⟨d,.store t x y,ty,pos,af,none⟩::rest) l w:=by
 obtain ⟨w',hr,hs⟩:=Fx (P:=P) (t:=t) hb hl ho h1;exact WL.Zr (w':=w') (by simp [execOp,Instr.storeAt,hx,hy,Instr.sureAddr,hr]) (h w' hs)
end
def D3 (P:Program) (f:FuncId):Bool :=
 match P.funcs[f]? with
 | some fn=>fn.name != "runtime.NumGoroutine" && fn.body.isSome
 | none=>false
class az (P:Program) (f:FuncId):Prop where
 ok:D3 P f=true
def oa (P:Program) (f:FuncId) (args:List Value) (w:World) (R:Value->World->Prop):Prop :=
 Calls P f args.toArray w fun e w'=>∃ v,e=.returned v/\R v w'
theorem oa.mono {P:Program} {f:FuncId} {args:List Value} {w:World} {R R':Value->World->Prop} (h:oa P f args w R) (hr:∀ v w',R v w'->R' v w'):oa P f args w R' :=
 Calls.mono h fun _ _ ⟨v,he,r⟩=>⟨v,he,hr _ _ r⟩
theorem ly {P:Program} {w:World} {f:FuncId} [h:az P f] (args:Array Value):(callFunc f args).run P w=.ok (.enter f args) w:=by
 obtain ⟨h⟩:=h;unfold D3 at h;split at h
 ·rename_i fn hf;simp only [Bool.and_eq_true,bne_iff_ne,ne_eq] at h
  have h2:fn.body.isNone=false:=by cases hb:fn.body <;> simp_all
  simp [callFunc,program,Sem.run,hf,h.1,h2];intro hn;simp [hn] at h2
 ·cases h
section
variable {P:Program} {Q:lh} {l:List Value} {w:World} {ops:Array Oper} {rest:List Oper} {d:Option Tmp} {ty:TypeId} {pos:String} {af:Array Edge}
theorem WL.calls {op:Op} {f:FuncId} {BB:List Value} (hr:(execOp (ev l) ⟨d,op,ty,pos,af,none⟩).run P w=.ok (.enter f BB.toArray) w) {R:Value->World->Prop}
  (hc:oa P f BB w R) (h:∀ v w',R v w'->WL P ops Q rest (put l d v) w'):WL P ops Q (⟨d,op,ty,pos,af,none⟩::rest) l w:=by
 refine wpList_plain rfl fun K hK=>?_
 simp only [Oper.wp,mT,hr,Oper.upon_enter];refine Calls.mono hc ?_;rintro e w' ⟨v,rfl,hv⟩;simp only [oK];exact hK _ _ (h v w' hv)
theorem WL.call {f:FuncId} [hf:az P f] {args:List Operand} {mj:Array TypeId} {BB:List Value} (ha:args.map (ev l)=BB) {R:Value->World->Prop}
  (hc:oa P f BB w R) (h:∀ v w',R v w'->WL P ops Q rest (put l d v) w'):WL P ops Q (⟨d,.call ⟨.value (.func f),args.toArray,mj⟩,ty,pos,af,none⟩::rest) l w :=
 WL.calls (by simp [execOp,resolve,ev,Deferred.ofValue,invoke,ly,ha]) hc h
end
def Fq:Nat->List Value
 | 0=>[]
 | n+1=>undef::Fq n
def frame:List Value->Nat->List Value
 | [],n=>Fq n
 | a::r,n=>a::frame r (n - 1)
theorem TR (n:Nat):Fq n=List.replicate n undef:=by
 induction n with
 | zero=>rfl
 | succ n ih=>rw [Fq,ih];rfl
theorem NN (args:List Value) (n:Nat):frame args n=args++List.replicate (n - args.length) undef:=by
 induction args generalizing n with
 | nil=>simp [frame,TR]
 | cons a r ih=>rw [frame,ih];simp [Nat.sub_sub,Nat.add_comm]
def Pv (P:Program) (fn:Func) (R:Value->World->Prop):lh
 | .normal,l,w | .ret,l,w=>∃ v,(results fn l.toArray).run P w=.ok v w/\R v w
 | _,_,_=>False
theorem oa.enter {P:Program} {f:FuncId} {fn:Func} {c:Code} {args:List Value} {w:World} {R:Value->World->Prop} {n:Nat} {l:List Value}
  (hf:P.funcs[f]?=some fn) (hn:fn.ntmps=n) (hb:fn.body=some c) (hl:frame args n=l) (h:W P c (Pv P fn R) l w):oa P f args w R:=by
 subst hl;refine calls_of_wp hf hb ?_
 have tQ:(args.toArray++Array.replicate (fn.ntmps - args.toArray.size) undef)=(frame args n).toArray:=by
  simp [NN,hn]
 rw [tQ];refine wp_mono h ?_;rintro e a w ⟨l,rfl,hq⟩
 cases e <;> simp only [Pv] at hq <;> simp only [bodyPost]
 ·obtain ⟨v,hr,hv⟩:=hq;exact ⟨rfl,v,hr,v,rfl,hv⟩
 ·obtain ⟨v,hr,hv⟩:=hq;exact ⟨rfl,v,hr,v,rfl,hv⟩
end Go.Xw
namespace Go.Xw
open Go.RowKit
def RZ (P:Program) (t e k gS:Nat):Bool :=
 (match P.underlying t with | some (.slice e')=>e'==e | _=>false) &&
 (match P.info? e with
  | some i=>(match i.zero with | some z=>z.cells.size==k | none=>false)&&i.size==k&&i.bytes==gS
  | none=>false)&&k != 0
class n7 (P:Program) (t:TypeId) (e:outParam TypeId) (k:outParam Nat) (gS:outParam Nat):Prop where
 is:RZ P t e k gS=true
theorem n7.parts {P:Program} {t e k gS:Nat} (h:n7 P t e k gS) :
  P.underlying t=some (.slice e)/\(∃ i z,P.info? e=some i/\i.zero=some z/\z.cells.size=k/\i.size=k/\i.bytes=gS)/\0 < k:=by
 obtain ⟨h⟩:=h;simp only [RZ,Bool.and_eq_true,bne_iff_ne,ne_eq] at h;obtain ⟨⟨h1,h2⟩,h3⟩:=h;refine ⟨?_,?_,by omega⟩
 ·split at h1
  ·rename_i e' hu;rw [hu];simp at h1;rw [h1]
  ·cases h1
 ·split at h2
  ·rename_i i hi;simp only [Bool.and_eq_true,beq_iff_eq] at h2;obtain ⟨⟨h4,h5⟩,h6⟩:=h2;split at h4
   ·rename_i z hz;exact ⟨i,z,hi,hz,by simpa using h4,h5,h6⟩
   ·cases h4
  ·cases h2
abbrev gQ (w:World) (base:Nat) (e k:Nat) (v:Value) (n:Nat) (xs:List Value):Prop:=w.ownsRow base e k v n xs
theorem gQ.nil (w:World) (base e k:Nat):gQ w base e k (.slice none 0 0) 0 []:=World.ownsRow_nil w base e k
theorem gQ.ext {S:Nat->Prop} {w w':World} {base e k:Nat} {v:Value} {n:Nat} {xs:List Value} (h:gQ w base e k v n xs) (hx:Ext S w w') (hs:∀ b,v.ownBlock=some b->¬ S b):gQ w' base e k v n xs:=by
 obtain ⟨h1,h2⟩:=h;refine ⟨h1,?_⟩
 rcases h2 with h2 | ⟨g,cap,cur,rfl,hb,hg,r⟩
 ·exact .inl h2
 ·exact .inr ⟨g,cap,cur,rfl,hb,hx.blk hg (hs g rfl),r⟩
theorem gQ.lt {w:World} {base e k:Nat} {v:Value} {n:Nat} {xs:List Value} (h:gQ w base e k v n xs) {b:Nat} (hv:v.ownBlock=some b):base<=b/\b < w.heap.size:=by
 obtain ⟨h1,h2⟩:=h
 rcases h2 with ⟨rfl,_⟩ | ⟨g,cap,cur,rfl,hb,hg,r⟩
 ·cases hv
 ·simp only [Value.ownBlock,Option.some.injEq] at hv;subst hv;exact ⟨hb,rp hg⟩
theorem gQ.shape {w:World} {base e k:Nat} {v:Value} {n:Nat} {xs:List Value} (h:gQ w base e k v n xs):∃ a c,v=.slice a n c:=by
 obtain ⟨h1,h2⟩:=h
 rcases h2 with ⟨rfl,rfl⟩ | ⟨g,cap,cur,rfl,_⟩
 ·exact ⟨_,_,rfl⟩
 ·exact ⟨_,_,rfl⟩
theorem gQ.base {w:World} {base Pu e k:Nat} {v:Value} {n:Nat} {xs:List Value} (h:gQ w base e k v n xs) (hb:Pu<=base):gQ w Pu e k v n xs:=by
 obtain ⟨h1,h2⟩:=h;refine ⟨h1,?_⟩
 rcases h2 with h2 | ⟨g,cap,cur,rfl,aY,r⟩
 ·exact .inl h2
 ·exact .inr ⟨g,cap,cur,rfl,Nat.le_trans hb aY,r⟩
theorem gQ.cells {w:World} {base e k:Nat} {v:Value} {n:Nat} {xs:List Value} (h:gQ w base e k v n xs) :
  xs.length=n * k/\(xs≠[]->∃ b c,v=.slice (some ⟨b,0,none⟩) n c/\base<=b/\b < w.heap.size/\∀ j u,xs[j]?=some u->w.cell? ⟨b,j,none⟩=some u):=by
 obtain ⟨h1,h2⟩:=h;refine ⟨h1,fun bN=>?_⟩
 rcases h2 with ⟨rfl,rfl⟩ | ⟨g,cap,cur,rfl,hb,hg,hn,hm,b6,ht⟩
 ·simp at h1;exact absurd h1 bN
 ·refine ⟨g,cap,rfl,hb,rp hg,fun j u hj=>?_⟩;rw [cell_of_row w g j cur e (0,0) hg];rw [<-ht] at hj;rw [getElem?_take] at hj;split at hj
  ·simpa using hj
  ·cases hj
theorem gQ.TG {w w':World} {b e k n:Nat} {cs:List Value} (h:uG w w' b (.cells cs.toArray e)) (hl:cs.length=n * k) (hm:n<=maxLen):gQ w' w.heap.size e k (.slice (some ⟨b,0,none⟩) n n) n cs :=
 ⟨hl,.inr ⟨b,n,cs.toArray,rfl,by rw [h.fresh];exact Nat.le_refl _,h.blk,Nat.le_refl _,hm,by simpa using hl,by simp [<-hl]⟩⟩
section
variable {P:Program} {Q:lh} {l:List Value} {w:World} {ops:Array Oper} {rest:List Oper} {d:Option Tmp} {ty:TypeId} {pos:String} {af:Array Edge}
theorem WL.app {s x:Operand} {t e k gS:Nat} [hT:n7 P t e k gS] {base n m c b o:Nat} {xs news:List Value} {v:Value} (hs:ev l s=v) (gw:gQ w base e k v n xs)
  (hx:ev l x=.slice (some ⟨b,o,none⟩) m c) (hl:news.length=m * k) (PQ:∀ j u,news[j]?=some u->w.cell? ⟨b,o+j,none⟩=some u) (h1:lr news=true)
  (Sv:n+m<=9223372036854775807) (xt:(n+m) * gS<=140737488355328) (AK:base<=w.heap.size)
  (h:∀ v' w',gQ w' base e k v' (n+m) (xs++news)->Ext (fun b=>v.ownBlock=some b) w w'->(∀ b,v'.ownBlock=some b->v.ownBlock=some b\/w.heap.size<=b)->(Ext iG w w'\/v'.ownBlock=v.ownBlock)->WL P ops Q rest (put l d v') w') :
  WL P ops Q (⟨d,.call ⟨.builtin .append,#[s,x],#[t,t]⟩,ty,pos,af,none⟩::rest) l w:=by
 obtain ⟨hu,⟨i,z,hi,hz,LP,b6,xr⟩,hk⟩:=hT.parts;obtain ⟨v',w',hr,h2,h3,h4⟩:=run_append_own (P:=P) w base t ty e i z k gS hu hi hz b6 xr LP hk v n xs gw ⟨b,o,none⟩ m c news hl
  (fun j u hj=>by rw [pb];exact PQ j u hj) (by simpa [lr] using h1) (by simpa [maxLen] using Sv) xt AK
 have gC:Ext (fun b=>v.ownBlock=some b) w w':=⟨h3.os,h3.tape,h3.output,h3.size,fun j hj hn=>h3.block j hj fun he=>hn he.symm⟩
 have xA:∀ j u,news[j]?=some u->w.cell? ((⟨b,o,none⟩:Addr).add j)=some u:=fun j u hj=>by rw [pb];exact PQ j u hj
 have jh:news.length=m * i.size:=by rw [b6];exact hl
 have NT:(n+m) * i.bytes<=140737488355328:=by rw [xr];exact xt
 refine WL.val (v:=v') (w':=w') (by simp [execOp,resolve,invoke,builtin,hs,hx,hr]) (h v' w' h2 gC ?_ ?_)
 ·intro b' aY;have AV:=gw.2
  rcases AV with ⟨rfl,rfl⟩ | ⟨g,cap,cur,rfl,og,hg,p7,y7,fG,AZ⟩
  ·by_cases hm:m=0
   ·have:=h4.2 ⟨rfl,hm⟩;subst this;cases aY
   ·have dj:=run_append_nil (P:=P) w t ty e i z hu hi hz ⟨b,o,none⟩ m c news jh xA (by omega) (by omega) (by simp only [Nat.zero_add] at NT;omega);rw [hr] at dj;cases dj;simp only [Value.ownBlock,Option.some.injEq] at aY;exact .inr (by omega)
  ·by_cases hroom:n+m<=cap
   ·have dj:=run_append_room (P:=P) w t ty e i hu hi g n cap cur hg ⟨b,o,none⟩ m c news jh xA (by simpa [lr] using h1) hroom
     (by rw [jh,fG,<-Nat.add_mul,b6];exact Nat.mul_le_mul_right _ hroom)
    rw [hr] at dj;cases dj;exact .inl aY
   ·have holds:∀ j u,xs[j]?=some u->w.cell? ((⟨g,0,none⟩:Addr).add j)=some u:=World.ownsRow.cells (g:=g) gw rfl;have dj:=run_append_grow (P:=P) w t ty e i z hu hi hz ⟨g,0,none⟩ n cap xs (by rw [b6];exact gw.1) holds ⟨b,o,none⟩ m c news jh xA (by omega) (by omega) (growslice_fits (by omega) NT);rw [hr] at dj;cases dj;simp only [Value.ownBlock,Option.some.injEq] at aY;exact .inr (by omega)
 ·have AV:=gw.2
  rcases AV with ⟨rfl,rfl⟩ | ⟨g,cap,cur,rfl,og,hg,p7,y7,fG,AZ⟩
  ·exact .inl (gC.mono fun k _ hk=>by cases hk)
  ·by_cases hroom:n+m<=cap
   ·have dj:=run_append_room (P:=P) w t ty e i hu hi g n cap cur hg ⟨b,o,none⟩ m c news jh xA (by simpa [lr] using h1) hroom
     (by rw [jh,fG,<-Nat.add_mul,b6];exact Nat.mul_le_mul_right _ hroom)
    rw [hr] at dj;cases dj;exact .inr rfl
   ·have holds:∀ j u,xs[j]?=some u->w.cell? ((⟨g,0,none⟩:Addr).add j)=some u:=World.ownsRow.cells (g:=g) gw rfl;have dj:=run_append_grow (P:=P) w t ty e i z hu hi hz ⟨g,0,none⟩ n cap xs (by rw [b6];exact gw.1) holds ⟨b,o,none⟩ m c news jh xA (by omega) (by omega) (growslice_fits (by omega) NT);rw [hr] at dj;cases dj;exact .inl ⟨rfl,rfl,rfl,by simp,fun k hk _=>Below.heap_alloc _ _ _ (by simpa using hk)⟩
theorem WL.push {x s:Operand} {t e k gS:Nat} {z:List Value} [hT:n7 P t e k gS] [hZ:o7 P t e k z] {base n:Nat} {xs vs:List Value} {v val:Value} {d1:Tmp} {MV:TypeId} {Fp:String} {Kl:Array Edge}
  (hx:ev l x=val) (hs:∀ u,ev (put l (some d1) u) s=v) (hd:∀ u,ev (put l (some d1) u) (.tmp d1)=u) (hc:val.cells=vs.toArray) (hk:vs.length=k) (h1:lr vs=true)
  (gw:gQ w base e k v n xs) (Sv:n+1<=9223372036854775807) (xt:(n+1) * gS<=140737488355328) (ZN:k<=16777216) (AK:base<=w.heap.size)
  (h:∀ u v' w',gQ w' base e k v' (n+1) (xs++vs)->Ext (fun b=>v.ownBlock=some b) w w'->(∀ b,v'.ownBlock=some b->v.ownBlock=some b\/w.heap.size<=b)->(Ext iG w w'\/v'.ownBlock=v.ownBlock)->WL P ops Q rest (put (put l (some d1) u) d v') w') :
  WL P ops Q (⟨some d1,.buildSlice t 1 #[(0,x)],MV,Fp,Kl,none⟩::⟨d,.call ⟨.builtin .append,#[s,.tmp d1],#[t,t]⟩,ty,pos,af,none⟩::rest) l w:=by
 have hkp:=hZ.pos
 have b6:val.cells.size=k:=by rw [hc];simpa using hk
 have cv:∀ (vs cs:List Value),vs.length=cs.length->gI cs 0 vs=vs:=by
  have gen:∀ (vs pre cs:List Value),vs.length=cs.length->gI (pre++cs) pre.length vs=pre++vs:=by
   intro vs
   induction vs with
   | nil=>intro pre cs hl;cases cs <;> simp_all [gI]
   | cons a r ih =>
    intro pre cs hl
    cases cs with
    | nil=>simp at hl
    | cons c cs =>
     have hu:eM (pre++c::cs) pre.length a=pre++a::cs:=by
      clear hl
      induction pre with
      | nil=>rfl
      | cons p pre ihp=>simp [eM,ihp]
     rw [gI,hu];have:=ih (pre++[a]) cs (by simpa using hl);simpa using this
  intro vs cs hl;exact gen vs [] cs hl
 have UN:ph (fun i=>some (i * k,k)) ((List.range (1 * k)).map fun j=>z.getD (j % k) undef) ([((0:Nat),x)].map fun y=>(y.1,ev l y.2))=some vs:=by
  simp only [List.map_cons,map_nil,ph,hx,b6];simp [hk,hc];exact cv vs _ (by simpa using hk)
 refine WL.B7 (n:=1) (parts:=[(0,x)]) (by omega) UN ?_;intro b2 w2 bH;have US:gQ w2 base e k v n xs:=gw.ext bH.ext (fun _ _ h=>h);refine WL.app (base:=base) (v:=v) (n:=n) (xs:=xs) (news:=vs) (m:=1) (hs _) US (hd _) (by omega) (fun j u hj=>?_) h1 Sv xt (Nat.le_trans AK bH.ext.size) ?_
 ·rw [Nat.zero_add];exact Kr bH.blk (by simpa using hj)
 ·intro v' w3 ho LO hb vb;refine h _ v' w3 ho ((bH.ext.mono (fun _ _ h=>h.elim)).trans LO) (fun b aY=>?_) (vb.imp (fun h5=>bH.ext.trans h5) id)
  rcases hb b aY with h4 | h4
  ·exact .inl h4
  ·exact .inr (Nat.le_trans bH.ext.size h4)
end
end Go.Xw
namespace Go.Xw
open Go.RowKit
section
variable {P:Program} {ops:Array Oper} {S:Nat->Prop}
end
def rG:List Oper->Nat->Oper
 | [],_=>default
 | o::_,0=>o
 | _::r,n+1=>rG r n
theorem Rc (ol:List Oper) (i:Nat) (o:Oper) (h:ol.toArray[i]?=some o):rG ol i=o:=by
 have h':ol[i]?=some o:=by simpa using h
 clear h
 induction ol generalizing i with
 | nil=>simp at h'
 | cons x r ih =>
  cases i with
  | zero=>simpa [rG] using h'
  | succ i=>exact ih i (by simpa using h')
section
variable {P:Program} {ops:Array Oper} {S:Nat->Prop} {Q:lh} {l:List Value} {w:World} {r:List (Oper × Bool)} {d:Option Tmp} {op:Op} {ty:TypeId} {pos:String} {af:Array Edge}
end
end Go.Xw
namespace Go.Xw
open Go.RowKit
def JQ:IntKind->IntKind->Bool
 | .i8,.i8 | .i16,.i16 | .i32,.i32 | .i64,.i64 | .u8,.u8 | .u16,.u16 | .u32,.u32 | .u64,.u64=>true
 | _,_=>false
theorem OJ {a b:IntKind} (h:JQ a b=true):a=b:=by cases a <;> cases b <;> first | rfl | cases h
def Ja (op:BinOp) (a b:Int):Option Value :=
 match op with
 | .eql=>some (.bool (a==b))
 | .neq=>some (.bool (a != b))
 | .lss=>some (.bool (decide (a < b)))
 | .leq=>some (.bool (decide (a<=b)))
 | .gtr=>some (.bool (decide (b < a)))
 | .geq=>some (.bool (decide (b<=a)))
 | _=>none
def I9 (op:BinOp):Value->Value->Option Value
 | .int k a,.int k' b=>match JQ k k' with
  | true=>Ja op a b
  | false=>none
 | _,_=>none
def vX (c:Op) (x:Value):Option Value :=
 match c with
 | .nilCheck _=>match x with
  | .pointer (some a)=>some (.pointer (some a))
  | _=>none
 | .unOp .not _ _=>match x with
  | .bool b=>some (.bool (!b))
  | _=>none
 | .extract _ i=>match x with
  | .tuple vs=>vs[i]?
  | _=>none
 | _=>none
def go (ρ:Operand->Value) (o:Op):Option Value :=
 match o with
 | .move x=>some (ρ x)
 | .assign x=>some (ρ x)
 | .makeFunc fn f c=>some (.func fn (f.map ρ) (c.map ρ))
 | .binOp op _ x y _=>I9 op (ρ x) (ρ y)
 | .nilCheck x=>vX o (ρ x)
 | .unOp _ _ x=>vX o (ρ x)
 | .extract x _=>vX o (ρ x)
 | _=>none
section
variable {P:Program} {l:List Value} {w:World}
theorem QT {o:Op} {v:Value} (h:go (ev l) o=some v):eh P l w o v:=by
 unfold go at h;split at h
 ·cases h;exact R.mv
 ·cases h;exact R.tH
 ·cases h;exact R.jn
 ·rename_i op t x y t';unfold I9 at h;split at h
  ·rename_i k a k' b hx hy;split at h
   ·rename_i hk;have:=OJ hk;subst this;unfold Ja at h
    split at h <;> first | (cases h;done) | skip
    ·cases h;exact R.eq hx hy
    ·cases h;exact R.ne hx hy
    ·cases h;exact R.lt hx hy
    ·cases h;exact R.le hx hy
    ·cases h;exact R.X6 hx hy
    ·cases h;exact R.ge hx hy
   ·cases h
  ·cases h
 ·unfold vX at h;simp only at h;split at h
  ·rename_i a hx;cases h;exact R.JH hx
  ·cases h
 ·rename_i op t x;unfold vX at h
  cases op <;> simp only at h <;> first | (cases h;done) | skip
  split at h
  ·rename_i b hx;cases h;exact R.not hx
  ·cases h
 ·unfold vX at h;simp only at h;split at h
  ·rename_i vs hx;exact R.extract hx h
  ·cases h
 ·cases h
theorem R.qh {x y:Operand} {t t':TypeId} {a b:Nat} (hx:ev l x=ii a) (hy:ev l y=ii b) (hb:a+b<=9223372036854775807):eh P l w (.binOp .add t x y t') (ii ((a+b:Nat):Int)):=R.add hx hy (by omega) (by omega)
theorem R.o9 {x y:Operand} {t t':TypeId} {a:Nat} (hx:ev l x=ii a) (hy:ev l y=ii 1) (hb:a+1<=9223372036854775807):eh P l w (.binOp .add t x y t') (ii ((a+1:Nat):Int)):=R.add hx hy (by omega) (by omega)
theorem R.vr {c a b:Operand} {t:Bool} (hc:ev l c=.bool t) (ht:t=true):eh P l w (.pick c a b) (ev l a):=by
 subst ht;exact R.pick hc
theorem R.vq {c a b:Operand} {t:Bool} (hc:ev l c=.bool t) (ht:t=false):eh P l w (.pick c a b) (ev l b):=by
 subst ht;exact R.pick hc
end
section
variable {P:Program} {Q:lh} {l:List Value} {w:World} {ops:Array Oper} {rest:List Oper} {d:Option Tmp} {op:Op} {ty:TypeId} {pos:String} {af:Array Edge} {v:Value} {S:Nat->Prop} {r:List (Oper × Bool)}
end
def uh (ops:List Oper) (l:List Value):Option (Nat × Bool)->Bool
 | none=>true
 | some (j,b)=>match (rG ops j).dst with
  | some t=>match nth l t with
   | .bool c=>c==b
   | _=>false
  | none=>false
def ju {α:Type}:List α->Nat->Bool
 | [],_=>false
 | _::_,0=>true
 | _::r,n+1=>ju r n
theorem A2 {α:Type}:∀ {l:List α} {n:Nat},ju l n=true->n < l.length
 | [],_,h=>by cases h
 | _::_,0,_=>by simp
 | _::r,n+1,h=>by have:=A2 (l:=r) (n:=n) h;simp;omega
def CZ:Option (Nat × Bool)->List Oper->List Value->Bool
 | some (j,_),ops,l=>ju ops j&&(match (rG ops j).dst with
  | some t=>ju l t&&(match nth l t with | .bool _=>true | .tuple _=>true | _=>false)
  | none=>false)
 | none,_,_=>true
theorem H5 (ol:List Oper) (j:Nat) (h:j < ol.length):ol.toArray[j]?=some (rG ol j):=by
 obtain ⟨o,ho⟩:∃ o,ol.toArray[j]?=some o:=⟨ol[j],by simp [h]⟩;rw [ho,Rc ol j o ho]
theorem TF (l:List Value) (t:Nat) (h:t < l.length):l[t]?=some (nth l t):=by
 induction l generalizing t with
 | nil=>simp at h
 | cons x l ih=>cases t with
  | zero=>rfl
  | succ t=>simpa [nth] using ih t (by simpa using h)
theorem vH {ops:Array Oper} {d:Option Tmp} {op:Op} {ty:TypeId} {pos:String} {af:Array Edge} {gd:Option (Nat × Bool)} {l:List Value} (hb:CZ gd ops.toList l=true) :
  Region.wanted ⟨d,op,ty,pos,af,gd⟩ (yielded ops (act l).tmps)=uh ops.toList l gd:=by
 cases gd with
 | none=>rfl
 | some x =>
  obtain ⟨j,b⟩:=x;simp only [CZ,Bool.and_eq_true] at hb;obtain ⟨h1,h2⟩:=hb;have hj:=H5 ops.toList j (A2 h1);simp only [Array.toArray_toList] at hj;simp only [Region.wanted,uh,yielded,hj,Option.bind_some]
  cases hd:(rG ops.toList j).dst with
  | none=>rw [hd] at h2;cases h2
  | some t =>
   rw [hd] at h2;simp only [Bool.and_eq_true] at h2;have ht:=TF l t (A2 h2.1);simp only [Option.bind_some,act]
   have EM:l.toArray[t]?=some (nth l t):=by simpa using ht
   rw [EM]
   cases hv:nth l t <;> rw [hv] at h2 <;> simp_all
def gv (ops:List Oper) (l:List Value) (gd:Nat × Bool):Option Bool :=
 match (rG ops gd.1).dst with
 | some t=>match nth l t with
  | .bool c=>some c
  | _=>none
 | none=>none
theorem M1 {ops:List Oper} {l:List Value} {gd:Nat × Bool} {c:Bool} (hv:gv ops l gd=some c) (hc:c=gd.2):uh ops l (some gd)=true:=by
 obtain ⟨j,b⟩:=gd;unfold gv at hv;unfold uh;simp only at hv hc |-;split at hv
 ·rename_i t ht;split at hv
  ·rename_i c' dp;cases hv;simp [hc]
  ·cases hv
 ·cases hv
theorem M0 {ops:List Oper} {l:List Value} {gd:Nat × Bool} {c:Bool} (hv:gv ops l gd=some c) (hc:c=!gd.2):uh ops l (some gd)=false:=by
 obtain ⟨j,b⟩:=gd;unfold gv at hv;unfold uh;simp only at hv hc |-;split at hv
 ·rename_i t ht;split at hv
  ·rename_i c' dp;cases hv;cases b <;> simp_all
  ·cases hv
 ·cases hv
theorem M2 {ops:List Oper} {l:List Value} {gd:Nat × Bool} (hv:gv ops l gd=none):uh ops l (some gd)=false:=by
 obtain ⟨j,b⟩:=gd;unfold gv at hv;unfold uh;simp only at hv |-;split at hv
 ·rename_i t ht;split at hv
  ·cases hv
  ·first | rfl | (split <;> simp_all)
 ·rfl
section
variable {P:Program} {Q:lh} {l:List Value} {w:World} {ops:Array Oper} {rest:List Oper} {d:Option Tmp} {op:Op} {ty:TypeId} {pos:String} {af:Array Edge} {v:Value} {S:Nat->Prop} {r:List (Oper × Bool)} {gd:Nat × Bool}
theorem GT {c:Bool} (hb:CZ (some gd) ops.toList l=true) (hv:gv ops.toList l gd=some c) (hc:c=gd.2) (h:WL P ops Q (⟨d,op,ty,pos,af,none⟩::rest) l w):WL P ops Q (⟨d,op,ty,pos,af,some gd⟩::rest) l w:=WL.gt ((vH hb).trans (M1 hv hc)) h
theorem GF {c:Bool} (hb:CZ (some gd) ops.toList l=true) (hv:gv ops.toList l gd=some c) (hc:c=!gd.2) (h:WL P ops Q rest (put l d undef) w):WL P ops Q (⟨d,op,ty,pos,af,some gd⟩::rest) l w:=WL.gf ((vH hb).trans (M0 hv hc)) h
theorem GU (hb:CZ (some gd) ops.toList l=true) (hv:gv ops.toList l gd=none) (h:WL P ops Q rest (put l d undef) w):WL P ops Q (⟨d,op,ty,pos,af,some gd⟩::rest) l w:=WL.gf ((vH hb).trans (M2 hv)) h
end
def JK:Value->Bool
 | .agg _=>false
 | .tuple _=>false
 | _=>true
theorem wC {v:Value} (h:JK v=true):v.cells=#[v]/\v.oneCell'=true:=by
 cases v <;> first | exact ⟨rfl,rfl⟩ | cases h
end Go.Xw
namespace Go.Xg
open Go.RowKit Go.Xw
inductive GV where
 | v (x:Value)
 | any
 | agg (cs:List GV)
 | tup (cs:List GV)
 | sl (k:Nat) (rows:List (List GV))
 | box (cs:List GV) (o:Nat)
 | loc (i o:Nat)
 | vec (i n:Nat)
 | vp (i n k idx off:Nat)
 | arr (i o n:Nat)
 | fn (f:Fn) (first cap:List GV)
abbrev Fz:=Nat->Nat->Option GV
inductive Bk where
 | no
 | fix (b:Nat)
 | gr (h:Value) (m:Nat)
def Bk.blk:Bk->Option Nat
 | .no=>none
 | .fix b=>some b
 | .gr h _=>h.ownBlock
abbrev Bt:=Nat->Bk
def cw (K K':Fz):Prop:=∀ b o g,K b o=some g->K' b o=some g
def sf:Bk->Bk->Prop
 | .no,_=>True
 | .fix b,x=>x=.fix b
 | .gr h m,x=>∃ h' m',x=.gr h' m'/\m<=m'/\(m'=m->h'=h)
def de (β bO:Bt):Prop:=∀ i,sf (β i) (bO i)
theorem cw.refl (K:Fz):cw K K:=fun _ _ _ h=>h
theorem cw.trans {a b c:Fz} (h:cw a b) (k:cw b c):cw a c:=fun x y z hz=>k x y z (h x y z hz)
theorem sf.refl (x:Bk):sf x x:=by cases x with | no=>trivial | fix b=>rfl | gr h m=>exact ⟨h,m,rfl,Nat.le_refl _,fun _=>rfl⟩
theorem sf.trans {a b c:Bk} (h:sf a b) (k:sf b c):sf a c:=by
 cases a with
 | no=>trivial
 | fix x=>cases h;exact k
 | gr x m =>
  obtain ⟨x',m',rfl,h1,h2⟩:=h;obtain ⟨x2,m2,rfl,h3,h4⟩:=k
  exact ⟨x2,m2,rfl,Nat.le_trans h1 h3,fun he=>by
   have:m'=m:=by omega
   rw [h4 (by omega),h2 this]⟩
theorem de.refl (β:Bt):de β β:=fun i=>sf.refl _
theorem de.trans {a b c:Bt} (h:de a b) (k:de b c):de a c:=fun i=>(h i).trans (k i)
inductive Rel (K:Fz) (β:Bt):Value->GV->Prop
 | v (x:Value):Rel K β x (.v x)
 | any (x:Value):Rel K β x .any
 | agg (vs:List Value) (cs:List GV) (hl:vs.length=cs.length) (h:∀ (i:Nat) v g,vs[i]?=some v->cs[i]?=some g->Rel K β v g):Rel K β (.agg vs.toArray) (.agg cs)
 | tup (vs:List Value) (cs:List GV) (hl:vs.length=cs.length) (h:∀ (i:Nat) v g,vs[i]?=some v->cs[i]?=some g->Rel K β v g):Rel K β (.tuple vs.toArray) (.tup cs)
 | sl0 (a:Option Addr) (c k:Nat):Rel K β (.slice a 0 c) (.sl k [])
 | sl (b o c k:Nat) (rows:List (List GV)) (h:∀ (i:Nat) r,rows[i]?=some r->r.length=k/\∀ (j:Nat) g,r[j]?=some g->K b (o+i * k+j)=some g) (hc:rows.length<=c):Rel K β (.slice (some ⟨b,o,none⟩) rows.length c) (.sl k rows)
 | box (b o' o:Nat) (cs:List GV) (h:∀ (j:Nat) g,cs[j]?=some g->K b (o'+j)=some g):Rel K β (.pointer (some ⟨b,o'+o,none⟩)) (.box cs o)
 | loc (i o b:Nat) (h:β i=.fix b):Rel K β (.pointer (some ⟨b,o,none⟩)) (.loc i o)
 | vec (i n:Nat) (a:Option Addr) (c:Nat) (h:∃ h m,β i=.gr h m/\n<=m/\(m=n->.slice a n c=h)):Rel K β (.slice a n c) (.vec i n)
 | vp (i n k idx off:Nat) (x:Value) (h:∃ h m,β i=.gr h m/\n<=m/\(m=n->∃ b,h.ownBlock=some b/\x=.pointer (some ⟨b,idx * k+off,none⟩))):Rel K β x (.vp i n k idx off)
 | arr (i o n b c:Nat) (h:β i=.fix b):Rel K β (.slice (some ⟨b,o,none⟩) n c) (.arr i o n)
 | fn (f:Fn) (xs ys:List Value) (first cap:List GV) (hl:xs.length=first.length) (jh:ys.length=cap.length) (h:∀ (i:Nat) v g,xs[i]?=some v->first[i]?=some g->Rel K β v g)
   (h':∀ (i:Nat) v g,ys[i]?=some v->cap[i]?=some g->Rel K β v g):Rel K β (.func f xs.toArray ys.toArray) (.fn f first cap)
theorem Rel.mono {K K':Fz} {β bO:Bt} {x:Value} {g:GV} (h:Rel K β x g) (hk:cw K K') (hb:de β bO):Rel K' bO x g:=by
 induction h with
 | v x=>exact .v x
 | any x=>exact .any x
 | agg vs cs hl h ih=>exact .agg vs cs hl ih
 | tup vs cs hl h ih=>exact .tup vs cs hl ih
 | sl0 a c k=>exact .sl0 a c k
 | sl b o c k rows h hc=>exact .sl b o c k rows (fun i r hr=>⟨(h i r hr).1,fun j g hg=>hk _ _ _ ((h i r hr).2 j g hg)⟩) hc
 | box b o' o cs h=>exact .box b o' o cs fun j g hg=>hk _ _ _ (h j g hg)
 | loc i o b h=>exact .loc i o b (by have:=hb i;rw [h] at this;exact this)
 | vec i n a c h =>
  obtain ⟨h0,m,h1,h2,h3⟩:=h;have h4:=hb i;rw [h1] at h4;obtain ⟨h',m',h5,h6,h7⟩:=h4;exact .vec i n a c ⟨h',m',h5,by omega,fun he=>by rw [h7 (by omega)];exact h3 (by omega)⟩
 | vp i n k idx off x h =>
  obtain ⟨h0,m,h1,h2,h3⟩:=h;have h4:=hb i;rw [h1] at h4;obtain ⟨h',m',h5,h6,h7⟩:=h4;exact .vp i n k idx off x ⟨h',m',h5,by omega,fun he=>by rw [h7 (by omega)];exact h3 (by omega)⟩
 | arr i o n b c h=>exact .arr i o n b c (by have:=hb i;rw [h] at this;exact this)
 | fn f xs ys first cap hl jh h h' ih ih'=>exact .fn f xs ys first cap hl jh ih ih'
def GV.pc:GV->Bool
 | .v _=>true
 | .sl _ _=>true
 | .box _ _=>true
 | _=>false
theorem Rel.pc {K:Fz} {β bO:Bt} {x:Value} {g:GV} (h:Rel K β x g) (hp:g.pc=true):Rel K bO x g:=by
 cases h <;> first | (cases hp;done) | skip
 ·exact .v _
 ·exact .sl0 _ _ _
 ·rename_i h hc;exact .sl _ _ _ _ _ h hc
 ·rename_i h;exact .box _ _ _ _ h
def GV.one:GV->Bool
 | .v x=>JK x
 | .any=>false
 | .agg _=>false
 | .tup _=>false
 | .vp _ _ _ _ _=>false
 | _=>true
theorem Rel.one {K:Fz} {β:Bt} {x:Value} {g:GV} (h:Rel K β x g) (ho:g.one=true):JK x=true:=by
 cases h <;> first | exact ho | rfl | (cases ho;done)
abbrev aU (K:Fz) (β:Bt) (vs:List Value) (gs:List GV):Prop:=vs.length=gs.length/\∀ (i:Nat) v g,vs[i]?=some v->gs[i]?=some g->Rel K β v g
theorem aU.mono {K K':Fz} {β bO:Bt} {vs:List Value} {gs:List GV} (h:aU K β vs gs) (hk:cw K K') (hb:de β bO):aU K' bO vs gs:=⟨h.1,fun i v g h1 h2=>(h.2 i v g h1 h2).mono hk hb⟩
theorem aU.nil {K:Fz} {β:Bt}:aU K β [] []:=⟨rfl,fun i v g h=>by simp at h⟩
theorem aU.cons {K:Fz} {β:Bt} {v:Value} {g:GV} {vs:List Value} {gs:List GV} (h:Rel K β v g) (hs:aU K β vs gs):aU K β (v::vs) (g::gs):=by
 refine ⟨by simp [hs.1],fun i x y h1 h2=>?_⟩
 cases i with
 | zero=>cases h1;cases h2;exact h
 | succ i=>exact hs.2 i x y h1 h2
theorem aU.ou {K:Fz} {β:Bt} {v:Value} {g:GV} {vs:List Value} {gs:List GV} (h:aU K β (v::vs) (g::gs)):Rel K β v g/\aU K β vs gs :=
 ⟨h.2 0 v g rfl rfl,by simpa using h.1,fun i x y h1 h2=>h.2 (i+1) x y h1 h2⟩
theorem aU.app {K:Fz} {β:Bt} {vs us:List Value} {gs hs:List GV} (h:aU K β vs gs) (k:aU K β us hs):aU K β (vs++us) (gs++hs):=by
 induction vs generalizing gs with
 | nil =>
  have:gs=[]:=by have:=h.1;simp at this;exact eq_nil_of_length_eq_zero this.symm
  subst this;exact k
 | cons v vs ih =>
  cases gs with
  | nil=>have:=h.1;simp at this
  | cons g gs=>obtain ⟨h1,h2⟩:=h.ou;exact .cons h1 (ih h2)
theorem aU.at {K:Fz} {β:Bt} {vs:List Value} {gs:List GV} (h:aU K β vs gs) {i:Nat} {g:GV} (hg:gs[i]?=some g):∃ v,vs[i]?=some v/\Rel K β v g:=by
 have hi:i < vs.length:=by rw [h.1];exact (List.getElem?_eq_some_iff.1 hg).1
 exact ⟨vs[i],by simp [hi],h.2 i _ g (by simp [hi]) hg⟩
theorem aU.take {K:Fz} {β:Bt} {vs:List Value} {gs:List GV} (h:aU K β vs gs) (n:Nat):aU K β (vs.take n) (gs.take n):=by
 refine ⟨by simp [h.1],fun i x y h1 h2=>?_⟩;rw [getElem?_take] at h1 h2;split at h1
 ·rename_i hi;rw [if_pos hi] at h2;exact h.2 i x y h1 h2
 ·cases h1
theorem aU.drop {K:Fz} {β:Bt} {vs:List Value} {gs:List GV} (h:aU K β vs gs) (n:Nat):aU K β (vs.drop n) (gs.drop n):=by
 refine ⟨by simp [h.1],fun i x y h1 h2=>?_⟩;rw [getElem?_drop] at h1 h2;exact h.2 _ x y h1 h2
def cq:List GV->Nat->GV
 | [],_=>.any
 | g::_,0=>g
 | _::l,n+1=>cq l n
def bg:List GV->Nat->GV->List GV
 | [],_,_=>[]
 | _::l,0,g=>g::l
 | x::l,n+1,g=>x::bg l n g
def aM (l:List GV):Operand->GV
 | .tmp t=>cq l t
 | .const v=>.v v
 | .global g=>.v (.pointer (some ⟨g,0,none⟩))
 | .func f=>.v (.func (.func f) #[] #[])
def bf (l:List GV) (d:Option Tmp) (g:GV):List GV:=match d with | some d=>bg l d g | none=>l
inductive FR (K:Fz) (β:Bt):List GV->List Value->Prop
 | nil:FR K β [] []
 | cons {g:GV} {v:Value} {gs:List GV} {vs:List Value} (h:Rel K β v g) (t:FR K β gs vs):FR K β (g::gs) (v::vs)
theorem FR.mono {K K':Fz} {β bO:Bt} {gs:List GV} {vs:List Value} (h:FR K β gs vs) (hk:cw K K') (hb:de β bO):FR K' bO gs vs:=by
 induction h with
 | nil=>exact .nil
 | cons h t ih=>exact .cons (h.mono hk hb) ih
theorem FR.nth {K:Fz} {β:Bt} {gs:List GV} {vs:List Value} (h:FR K β gs vs) (t:Nat):Rel K β (nth vs t) (cq gs t):=by
 induction h generalizing t with
 | nil=>exact .any _
 | cons h _ ih=>cases t with | zero=>exact h | succ t=>exact ih t
theorem FR.ev {K:Fz} {β:Bt} {gs:List GV} {vs:List Value} (h:FR K β gs vs) (x:Operand):Rel K β (ev vs x) (aM gs x):=by
 cases x with
 | tmp t=>exact h.nth t
 | const v=>exact .v _
 | global g=>exact .v _
 | func f=>exact .v _
theorem FR.eM {K:Fz} {β:Bt} {gs:List GV} {vs:List Value} (h:FR K β gs vs) (t:Nat) {v:Value} {g:GV} (hv:Rel K β v g):FR K β (bg gs t g) (eM vs t v):=by
 induction h generalizing t with
 | nil=>exact .nil
 | cons h ht ih=>cases t with | zero=>exact .cons hv ht | succ t=>exact .cons h (ih t)
theorem FR.put {K:Fz} {β:Bt} {gs:List GV} {vs:List Value} (h:FR K β gs vs) (d:Option Tmp) {v:Value} {g:GV} (hv:Rel K β v g):FR K β (bf gs d g) (put vs d v):=by
 cases d with | none=>exact h | some d=>exact h.eM d hv
theorem FR.args {K:Fz} {β:Bt} {gs:List GV} {vs:List Value} (h:FR K β gs vs) (xs:List Operand):aU K β (xs.map (Xw.ev vs)) (xs.map (aM gs)):=by
 induction xs with
 | nil=>exact .nil
 | cons x xs ih=>exact .cons (h.ev x) ih
inductive Ob where
 | gone
 | box (E:TypeId) (cs:List GV)
 | vec (E:TypeId) (k fz:Nat) (rows:List (List GV))
 | vech (E:TypeId) (k:Nat) (rows:List (List GV)) (x:Value)
 | lost
def jj (K:Fz) (w:World):Prop:=∀ b o g,K b o=some g->g.pc=true/\∃ v,fF w.heap b o=some v/\Rel K (fun _=>.no) v g
def gi (k:Nat) (rows:List (List GV)):Prop:=∀ r∈rows,r.length=k/\∀ g∈r,g.pc=true
def jT (K:Fz) (β:Bt) (w:World) (i:Nat):Ob->Prop
 | .gone=>β i=.no
 | .box E cs=>∃ b vs,β i=.fix b/\w.heap[b]?=some (.cells vs.toArray E (0,0))/\aU K β vs cs/\∀ o,K b o=none
 | .vec E k fz rows=>∃ h xs,β i=.gr h rows.length/\gQ w 0 E k h rows.length xs/\aU K β xs rows.flatten/\gi k rows /\
   (∀ b,h.ownBlock=some b->(∀ o,fz * k<=o->K b o=none)/\∀ o g,o < fz * k->rows.flatten[o]?=some g->K b o=some g)/\fz<=rows.length
 | .vech E k rows x=>∃ xs,β i=.gr x rows.length/\gQ w 0 E k x rows.length xs/\aU K β xs rows.flatten/\gi k rows/\∀ b,x.ownBlock=some b->∀ o,K b o=none
 | .lost=>∀ b,(β i).blk=some b->b < w.heap.size
def vt:List Int:=(List.range 20).map fun i=>((10 ^ i:Nat):Int)
def vA:List Int:=(List.range 256).map fun i=>if i=9\/i=10\/i=11\/i=12\/i=13\/i=32 then 1 else 0
def w8 (m:Int):Fz:=fun b o =>
 if b=0 then (match o with | 0=>some (.v (.int .i64 m)) | _=>none)
 else if b=1 then vt[o]?.map fun z=>.v (.int .u64 z)
 else if b=2 then vA[o]?.map fun z=>.v (.int .u8 z)
 else none
def sk (w:World) (b n:Nat):Prop:=∃ cs E z,w.heap[b]?=some (.cells cs E z)/\cs.size=n
theorem sk.lt {w:World} {b n:Nat} (h:sk w b n):b < w.heap.size:=by obtain ⟨cs,E,z,h,_⟩:=h;exact rp h
structure eW (K:Fz) (β:Bt) (w:World):Prop where
 le:∃ m,cw (w8 m) K
 pow:sk w 1 20
 spc:sk w 2 256
 free:∀ i b,(β i).blk=some b->b≠1/\b≠2
theorem eW.step {S:Nat->Prop} {K K':Fz} {β bO:Bt} {w w':World} (h:eW K β w) (hx:Ext S w w') (hS:∀ b,S b->∃ i,(β i).blk=some b) (hk:cw K K') (qd:∀ i b,(bO i).blk=some b->(∃ j,(β j).blk=some b)\/w.heap.size<=b):eW K' bO w':=by
 obtain ⟨⟨m,h1⟩,h2,h3,h4⟩:=h
 have key:∀ {b n:Nat},sk w b n->¬ S b->sk w' b n:=fun ⟨cs,E,z,a,e⟩ hn=>⟨cs,E,z,hx.blk a hn,e⟩
 refine ⟨⟨m,h1.trans hk⟩,key h2 (fun hs=>?_),key h3 (fun hs=>?_),fun i b hb=>?_⟩
 ·obtain ⟨i,hi⟩:=hS _ hs;exact (h4 i _ hi).1 rfl
 ·obtain ⟨i,hi⟩:=hS _ hs;exact (h4 i _ hi).2 rfl
 ·rcases qd i b hb with ⟨j,hj⟩ | hs
  ·exact h4 j b hj
  ·have:=h2.lt;have:=h3.lt;exact ⟨by omega,by omega⟩
structure Bs where
 w0:World
 foot:Nat->Prop
 K0:Fz
 β0:Bt
 m:Nat
structure Inv (B:Bs) (K:Fz) (β:Bt) (Γ:List Ob) (w:World):Prop where
 ext:Ext B.foot B.w0 w
 kle:cw B.K0 K
 ble:de B.β0 β
 loc:∀ i,B.m<=i->B.β0 i=.no
 fz:jj K w
 ob:∀ i x,Γ[i]?=some x->jT K β w i x
 out:∀ i,Γ.length<=i->β i=.no
 dis:∀ i j b,(β i).blk=some b->(β j).blk=some b->i=j
 own:∀ i b,(β i).blk=some b->B.foot b\/B.w0.heap.size<=b
 kn:∀ b o g,K b o=some g->B.K0 b o=some g\/B.foot b\/B.w0.heap.size<=b
 tab:eW K β w
section
variable {B:Bs} {K:Fz} {β:Bt} {Γ:List Ob} {w:World}
theorem jT.lt {i:Nat} {x:Ob} (h:jT K β w i x) {b:Nat} (hb:(β i).blk=some b):b < w.heap.size:=by
 cases x with
 | gone=>simp only [jT] at h;rw [h] at hb;cases hb
 | box E cs =>
  obtain ⟨b',vs,h1,h2,_⟩:=h;rw [h1] at hb;cases hb;exact rp h2
 | vec E k fz rows =>
  obtain ⟨h',xs,h1,h2,_⟩:=h;rw [h1] at hb;exact (h2.lt hb).2
 | vech E k rows x =>
  obtain ⟨xs,h1,h2,_⟩:=h;rw [h1] at hb;exact (h2.lt hb).2
 | lost=>exact h b hb
theorem Inv.lt (h:Inv B K β Γ w) {i b:Nat} (hb:(β i).blk=some b):b < w.heap.size:=by
 by_cases hi:i < Γ.length
 ·exact (h.ob i Γ[i] (by simp [hi])).lt hb
 ·rw [h.out i (by omega)] at hb;cases hb
theorem jj.lt (h:jj K w) {b o:Nat} {g:GV} (hg:K b o=some g):b < w.heap.size:=by
 obtain ⟨_,v,hv,_⟩:=h b o g hg;exact DY hv
def blocks (β:Bt):Nat->Prop:=fun b=>∃ i,(β i).blk=some b
def cur (K:Fz) (β:Bt) (Γ:List Ob) (w:World):Bs:=⟨w,blocks β,K,β,Γ.length⟩
theorem Inv.here (h:Inv B K β Γ w):Inv (cur K β Γ w) K β Γ w :=
 ⟨Ext.refl w,cw.refl K,de.refl β,h.out,h.fz,h.ob,h.out,h.dis,fun i b hb=>.inl ⟨i,hb⟩,fun _ _ _ h=>.inl h,h.tab⟩
theorem Inv.Mx {K':Fz} {bO:Bt} {aD Wn:List Ob} {w':World} (h:Inv B K β Γ w) (k:Inv (cur K β Wn w) K' bO aD w'):Inv B K' bO aD w' :=
 ⟨h.ext.step k.ext (fun j hj=>by obtain ⟨i,hi⟩:=hj;exact (h.own i j hi).symm),h.kle.trans k.kle,h.ble.trans k.ble,h.loc,k.fz,k.ob,k.out,k.dis,
  fun i b hb=>by
   rcases k.own i b hb with h1 | h1
   ·obtain ⟨j,hj⟩:=h1;exact h.own j b hj
   ·exact .inr (Nat.le_trans h.ext.size h1),
  fun b o g hg=>by
   rcases k.kn b o g hg with h1 | ⟨j,hj⟩ | h1
   ·exact h.kn b o g h1
   ·exact .inr (h.own j b hj)
   ·exact .inr (.inr (Nat.le_trans h.ext.size h1)),k.tab⟩
theorem jT.ext {S:Nat->Prop} {K':Fz} {bO:Bt} {w':World} {i:Nat} {x:Ob} (h:jT K β w i x) (hx:Ext S w w') (hs:∀ b,(β i).blk=some b->¬ S b) (hk:cw K K') (hb:de β bO)
  (he:bO i=β i) (hn:∀ b o,(β i).blk=some b->K b o=none->K' b o=none):jT K' bO w' i x:=by
 cases x with
 | gone=>simp only [jT] at h |-;rw [he,h]
 | box E cs =>
  obtain ⟨b,vs,h1,h2,h3,h4⟩:=h
  have ej:(β i).blk=some b:=by rw [h1];rfl
  exact ⟨b,vs,he.trans h1,hx.blk h2 (hs b ej),h3.mono hk hb,fun o=>hn b o ej (h4 o)⟩
 | vec E k fz rows =>
  obtain ⟨h',xs,h1,h2,h3,h4,h5,h6⟩:=h
  have ej:∀ b,h'.ownBlock=some b->(β i).blk=some b:=fun b hb=>by rw [h1];exact hb
  exact ⟨h',xs,he.trans h1,h2.ext hx (fun b aY=>hs b (ej b aY)),h3.mono hk hb,h4,fun b aY=>⟨fun o ho=>hn b o (ej b aY) ((h5 b aY).1 o ho),fun o g ho hg=>hk _ _ _ ((h5 b aY).2 o g ho hg)⟩,h6⟩
 | vech E k rows x =>
  obtain ⟨xs,h1,h2,h3,h4,h5⟩:=h
  have ej:∀ b,x.ownBlock=some b->(β i).blk=some b:=fun b hb=>by rw [h1];exact hb
  exact ⟨xs,he.trans h1,h2.ext hx (fun b aY=>hs b (ej b aY)),h3.mono hk hb,h4,fun b aY o=>hn b o (ej b aY) (h5 b aY o)⟩
 | lost=>exact fun b aY=>Nat.lt_of_lt_of_le (h b (by rw [<-he];exact aY)) hx.size
theorem jj.ext {S:Nat->Prop} {w':World} (h:jj K w) (hx:Ext S w w') (hs:∀ b o g,K b o=some g->¬ S b):jj K w':=fun b o g hg=>by
 obtain ⟨h1,v,hv,hr⟩:=h b o g hg;exact ⟨h1,v,hx.c hv (hs b o g hg),hr⟩
theorem Inv.same {w':World} (h:Inv B K β Γ w) (hx:Ext iG w w'):Inv B K β Γ w' :=
 ⟨h.ext.step hx (fun j hj=>hj.elim),h.kle,h.ble,h.loc,h.fz.ext hx (fun _ _ _ _ h=>h),fun i x hi=>(h.ob i x hi).ext hx (fun _ _ h=>h) (cw.refl K) (de.refl β) rfl (fun _ _ _ h=>h),h.out,h.dis,h.own,h.kn,h.tab.step hx (fun _ h=>h.elim) (cw.refl K) (fun i b h=>.inl ⟨i,h⟩)⟩
def gH (p:Nat->Bool) (β:Bt):Bt:=fun i=>match p i with
 | true=>β i
 | false=>.no
theorem iT {p:Nat->Bool} {β:Bt} {i:Nat} (h:p i=true):gH p β i=β i:=by simp [gH,h]
theorem Cg {p:Nat->Bool} {β:Bt} {i:Nat} (h:p i=false):gH p β i=.no:=by simp [gH,h]
end
end Go.Xg
namespace Go.Xg
open Go.RowKit Go.Xw
section
variable {B:Bs} {K:Fz} {β:Bt} {Γ:List Ob} {w:World}
def eT (β:Bt) (i:Nat) (x:Bk):Bt:=fun j=>if j=i then x else β j
theorem bh {i:Nat} {x:Bk}:eT β i x i=x:=by simp [eT]
theorem bQ {i j:Nat} {x:Bk} (h:j≠i):eT β i x j=β j:=by simp [eT,h]
theorem oY {i j b:Nat} {x:Bk} (h:(eT β i x j).blk=some b):x.blk=some b\/(β j).blk=some b:=by
 by_cases hj:j=i
 ·subst hj;rw [bh] at h;exact .inl h
 ·rw [bQ hj] at h;exact .inr h
theorem gJ {i:Nat} {x:Bk} (h:sf (β i) x):de β (eT β i x):=fun j=>by
 by_cases hj:j=i
 ·subst hj;rw [bh];exact h
 ·rw [bQ hj];exact sf.refl _
theorem aU.self {vs:List Value}:aU K β vs (vs.map .v):=⟨by simp,fun i v g h1 h2=>by
 rw [getElem?_map,h1] at h2;cases h2;exact .v _⟩
theorem Inv.add {w':World} {b:Nat} {vs:List Value} {cs:List GV} {E:TypeId} (h:Inv B K β Γ w) (hn:uG w w' b (.cells vs.toArray E)) (hr:aU K β vs cs) :
  Inv B K (eT β Γ.length (.fix b)) (Γ++[.box E cs]) w':=by
 have bV:β Γ.length=.no:=h.out _ (Nat.le_refl _);have hle:de β (eT β Γ.length (.fix b)):=gJ (by rw [bV];trivial)
 have ao:∀ i b',(β i).blk=some b'->b'≠b:=fun i b' aY=>by have:=h.lt aY;have:=hn.fresh;omega
 have hK:∀ o,K b o=none:=fun o=>by
  cases hk:K b o with
  | none=>rfl
  | some g=>have:=h.fz.lt hk;have:=hn.fresh;omega
 refine ⟨h.ext.step hn.ext (fun j hj=>hj.elim),h.kle,h.ble.trans hle,h.loc,h.fz.ext hn.ext (fun _ _ _ _ h=>h),fun i x hi=>?_,fun i hi=>?_,fun i j b' hi hj=>?_,fun i b' hi=>?_,h.kn,h.tab.step hn.ext (fun _ h=>h.elim) (cw.refl K) (fun i b2 hi=>by rcases oY hi with h1 | h1;(· cases h1;exact .inr (by have:=hn.fresh;omega));exact .inl ⟨i,h1⟩)⟩
 ·by_cases u7:i < Γ.length
  ·rw [getElem?_append_left u7] at hi
   have bN:i≠Γ.length:=by omega
   exact (h.ob i x hi).ext hn.ext (fun _ _ h=>h) (cw.refl K) hle (bQ bN) (fun _ _ _ h=>h)
  ·have:i=Γ.length:=by have:=(List.getElem?_eq_some_iff.1 hi).1;simp at this;omega
   subst this;simp at hi;subst hi;exact ⟨b,vs,bh,hn.blk,hr.mono (cw.refl K) hle,hK⟩
 ·simp at hi;rw [bQ (by omega)];exact h.out i (by omega)
 ·by_cases h1:i=Γ.length <;> by_cases h2:j=Γ.length
  ·omega
  ·subst h1;rw [bh] at hi;rw [bQ h2] at hj;cases hi;exact absurd rfl (ao j _ hj)
  ·subst h2;rw [bh] at hj;rw [bQ h1] at hi;cases hj;exact absurd rfl (ao i _ hi)
  ·rw [bQ h1] at hi;rw [bQ h2] at hj;exact h.dis i j b' hi hj
 ·by_cases h1:i=Γ.length
  ·subst h1;rw [bh] at hi;cases hi;exact .inr (by have:=hn.fresh;have:=h.ext.size;omega)
  ·rw [bQ h1] at hi;exact h.own i b' hi
theorem Inv.Bz {w':World} {E k:Nat} {x:Value} {xs:List Value} {rows:List (List GV)} (h:Inv B K β Γ w) (hx:Ext iG w w') (ho:gQ w' 0 E k x rows.length xs) (hf:∀ b,x.ownBlock=some b->w.heap.size<=b)
  (hr:aU K β xs rows.flatten) (hk:gi k rows):Inv B K (eT β Γ.length (.gr x rows.length)) (Γ++[.vec E k 0 rows]) w':=by
 have bV:β Γ.length=.no:=h.out _ (Nat.le_refl _);have hle:de β (eT β Γ.length (.gr x rows.length)):=gJ (by rw [bV];trivial)
 have ao:∀ i b',(β i).blk=some b'->x.ownBlock≠some b':=fun i b' aY he=>by have:=h.lt aY;have:=hf b' he;omega
 have hK:∀ b,x.ownBlock=some b->∀ o,K b o=none:=fun b hb o=>by
  cases hk:K b o with
  | none=>rfl
  | some g=>have:=h.fz.lt hk;have:=hf b hb;omega
 refine ⟨h.ext.step hx (fun j hj=>hj.elim),h.kle,h.ble.trans hle,h.loc,h.fz.ext hx (fun _ _ _ _ h=>h),fun i y hi=>?_,fun i hi=>?_,fun i j b' hi hj=>?_,fun i b' hi=>?_,h.kn,h.tab.step hx (fun _ h=>h.elim) (cw.refl K) (fun i b2 hi=>by rcases oY hi with h1 | h1;(· exact .inr (hf b2 h1));exact .inl ⟨i,h1⟩)⟩
 ·by_cases u7:i < Γ.length
  ·rw [getElem?_append_left u7] at hi
   have bN:i≠Γ.length:=by omega
   exact (h.ob i y hi).ext hx (fun _ _ h=>h) (cw.refl K) hle (bQ bN) (fun _ _ _ h=>h)
  ·have:i=Γ.length:=by have:=(List.getElem?_eq_some_iff.1 hi).1;simp at this;omega
   subst this;simp at hi;subst hi;exact ⟨x,xs,bh,ho,hr.mono (cw.refl K) hle,hk,fun b hb=>⟨fun o _=>hK b hb o,fun o g ho _=>by omega⟩,Nat.zero_le _⟩
 ·simp at hi;rw [bQ (by omega)];exact h.out i (by omega)
 ·by_cases h1:i=Γ.length <;> by_cases h2:j=Γ.length
  ·omega
  ·subst h1;rw [bh] at hi;rw [bQ h2] at hj;exact absurd hi (ao j _ hj)
  ·subst h2;rw [bh] at hj;rw [bQ h1] at hi;exact absurd hj (ao i _ hi)
  ·rw [bQ h1] at hi;rw [bQ h2] at hj;exact h.dis i j b' hi hj
 ·by_cases h1:i=Γ.length
  ·subst h1;rw [bh] at hi;exact .inr (Nat.le_trans h.ext.size (hf b' hi))
  ·rw [bQ h1] at hi;exact h.own i b' hi
def kF (K:Fz) (b:Nat) (cs:List GV):Fz:=fun b' o=>if b'=b then cs[o]? else K b' o
theorem uI {b o:Nat} {cs:List GV} {g:GV} (h:cs[o]?=some g):kF K b cs b o=some g:=by simp [kF,h]
theorem Inv.tM {w':World} {b:Nat} {vs:List Value} {cs:List GV} {E:TypeId} (h:Inv B K β Γ w) (hn:uG w w' b (.cells vs.toArray E)) (hr:aU K β vs cs) (hp:∀ g∈cs,g.pc=true) :
  cw K (kF K b cs)/\Inv B (kF K b cs) β Γ w':=by
 have SB:∀ o,K b o=none:=fun o=>by
  cases hk:K b o with
  | none=>rfl
  | some g=>have:=h.fz.lt hk;have:=hn.fresh;omega
 have hle:cw K (kF K b cs):=fun b' o g hg=>by
  by_cases hb:b'=b
  ·subst hb;rw [SB] at hg;cases hg
  ·simp [kF,hb,hg]
 refine ⟨hle,h.ext.step hn.ext (fun j hj=>hj.elim),h.kle.trans hle,h.ble,h.loc,fun b' o g hg=>?_,fun i x hi=>?_,h.out,h.dis,h.own,fun b' o g hg=>?_,h.tab.step hn.ext (fun _ h=>h.elim) hle (fun i b2 h=>.inl ⟨i,h⟩)⟩
 ·by_cases hb:b'=b
  ·subst hb;simp [kF] at hg;obtain ⟨v,hv,eO⟩:=hr.at hg;have xC:=hp g (mem_of_getElem? hg);exact ⟨xC,v,vN hn.blk (by simpa using hv),(eO.mono hle (de.refl β)).pc xC⟩
  ·have lj:K b' o=some g:=by simpa [kF,hb] using hg
   obtain ⟨h1,v,h2,h3⟩:=h.fz b' o g lj;exact ⟨h1,v,hn.ext.c h2 (fun h=>h),h3.mono hle (de.refl _)⟩
 ·refine (h.ob i x hi).ext hn.ext (fun _ _ h=>h) hle (de.refl β) rfl (fun b' o hb hk=>?_)
  have:b'≠b:=by have:=h.lt hb;have:=hn.fresh;omega
  simp [kF,this,hk]
 ·by_cases hb:b'=b
  ·exact .inr (.inr (by have:=hn.fresh;have:=h.ext.size;omega))
  ·exact h.kn b' o g (by simpa [kF,hb] using hg)
theorem Inv.store {w':World} {i b:Nat} {E:TypeId} {cs yU:List GV} {Ug:List Value} (h:Inv B K β Γ w) (hi:Γ[i]?=some (.box E cs)) (hb:β i=.fix b) (hs:tF w w' b Ug.toArray E)
  (hr:aU K β Ug yU):Inv B K β (Γ.set i (.box E yU)) w':=by
 obtain ⟨b0,vs,h1,h2,h3,h4⟩:=h.ob i _ hi;rw [hb] at h1;cases h1
 have ej:(β i).blk=some b:=by rw [hb];rfl
 refine ⟨h.ext.step hs.ext (fun j hj=>?_),h.kle,h.ble,h.loc,h.fz.ext hs.ext (fun b' o g hg he=>?_),fun j x hj=>?_,fun j hj=>h.out j (by simpa using hj),h.dis,h.own,h.kn,h.tab.step hs.ext (fun j hj=>⟨i,by subst hj;exact ej⟩) (cw.refl K) (fun i b2 h=>.inl ⟨i,h⟩)⟩
 ·subst hj;exact (h.own i _ ej).symm
 ·subst he;rw [h4] at hg;cases hg
 ·rw [getElem?_set] at hj;split at hj
  ·rename_i gx;split at hj
   ·cases hj;subst gx
    exact ⟨b,Ug,hb,hs.blk,hr,h4⟩
   ·cases hj
  ·rename_i gx;refine (h.ob j x hj).ext hs.ext (fun b' aY he=>?_) (cw.refl K) (de.refl β) rfl (fun _ _ _ h=>h);subst he;exact gx (h.dis i j _ ej aY)
def AD (K:Fz) (x:Value) (n:Nat) (fl:List GV):Fz:=fun b o=>if x.ownBlock=some b/\o < n then fl[o]? else K b o
theorem yt {x:Value} {n b o:Nat} {fl:List GV} (h1:x.ownBlock=some b) (h2:o < n):AD K x n fl b o=fl[o]?:=by unfold AD;rw [if_pos ⟨h1,h2⟩]
theorem vY {x:Value} {n b o:Nat} {fl:List GV} (h:¬ (x.ownBlock=some b/\o < n)):AD K x n fl b o=K b o:=by unfold AD;rw [if_neg h]
theorem AE {x:Value} {n b o:Nat} {fl:List GV} {g:GV} (h:AD K x n fl b o=some g):(x.ownBlock=some b/\o < n/\fl[o]?=some g)\/(¬ (x.ownBlock=some b/\o < n)/\K b o=some g):=by
 by_cases hc:x.ownBlock=some b/\o < n
 ·rw [yt hc.1 hc.2] at h;exact .inl ⟨hc.1,hc.2,h⟩
 ·rw [vY hc] at h;exact .inr ⟨hc,h⟩
theorem Inv.grow {w':World} {i:Nat} {E k fz:Nat} {rows news:List (List GV)} {h0 x:Value} {xs ns:List Value} (h:Inv B K β Γ w) (hi:Γ[i]?=some (.vec E k fz rows)) (hb:β i=.gr h0 rows.length)
  (rL:gQ w 0 E k h0 rows.length xs/\aU K β xs rows.flatten) (ho:gQ w' 0 E k x (rows.length+news.length) (xs++ns)) (hx:Ext (fun b=>h0.ownBlock=some b) w w') (hf:∀ b,x.ownBlock=some b->h0.ownBlock=some b\/w.heap.size<=b)
  (hr:aU K β ns news.flatten) (hk:gi k news) (bN:news≠[]) (kX:∀ b,h0.ownBlock=some b->∀ o v,o < fz * k->fF w.heap b o=some v->fF w'.heap b o=some v) :
  ∃ K',cw K K'/\de β (eT β i (.gr x (rows++news).length))/\Inv B K' (eT β i (.gr x (rows++news).length)) (Γ.set i (.vec E k fz (rows++news))) w':=by
 obtain ⟨sD,xs',h1,h2,h3,h4,h5,h6⟩:=h.ob i _ hi;rw [hb] at h1;cases h1;clear h2 h3
 have hlen:news.length≠0:=fun h=>bN (eq_nil_of_length_eq_zero h)
 have hle:de β (eT β i (.gr x (rows++news).length)):=gJ (by rw [hb];exact ⟨x,_,rfl,by simp,fun he=>by rw [List.length_append] at he;omega⟩)
 have xq:∀ b,h0.ownBlock=some b->(β i).blk=some b:=fun b aY=>by rw [hb];exact aY
 have Jc:rows.flatten.length=rows.length * k:=by rw [<-rL.2.1];exact rL.1.1
 have ZM:fz * k<=rows.flatten.length:=by rw [Jc];exact Nat.mul_le_mul_right k h6
 have CO:cw K (AD K x (fz * k) rows.flatten):=fun b o g hg=>by
  by_cases hc:x.ownBlock=some b/\o < fz * k
  ·rw [yt hc.1 hc.2]
   rcases hf b hc.1 with h7 | h7
   ·have PT:o < rows.flatten.length:=by omega
    have:=(h5 b h7).2 o rows.flatten[o] hc.2 (by simp [PT]);rw [this] at hg;cases hg;simp [PT]
   ·have:=h.fz.lt hg;omega
  ·rw [vY hc];exact hg
 refine ⟨AD K x (fz * k) rows.flatten,CO,hle,h.ext.step hx (fun j hj=>(h.own i j (xq j hj)).symm),h.kle.trans CO,h.ble.trans hle,h.loc,fun b o g hg=>?_,fun j y hj=>?_,fun j hj=>?_,fun j j' b hj lI=>?_,fun j b hj=>?_,fun b o g hg=>?_,h.tab.step hx (fun j hj=>⟨i,xq j hj⟩) CO (fun j b2 hi=>by rcases oY hi with h1 | h1;(· exact (hf b2 h1).imp (fun h2=>⟨i,xq b2 h2⟩) id);exact .inl ⟨j,h1⟩)⟩
 ·rcases AE hg with ⟨aY,zd,hg⟩ | ⟨hc,hg⟩
  ·have xC:g.pc=true:=by
    obtain ⟨r,gD,dj⟩:=List.mem_flatten.1 (mem_of_getElem? hg);exact (h4 r gD).2 g dj
   obtain ⟨v,hv,eO⟩:=rL.2.at hg;obtain ⟨b2,c,rl,_,_,jB⟩:=ho.cells.2 (by intro h0;have:xs=[]:=(List.append_eq_nil_iff.1 h0).1;rw [this] at hv;simp at hv)
   have eG:b2=b:=by rw [rl] at aY;cases aY;rfl
   subst eG;have ao:o < xs.length:=(List.getElem?_eq_some_iff.1 hv).1;refine ⟨xC,v,?_,(eO.mono CO hle).pc xC⟩;rw [<-eY];exact jB o v (by rw [getElem?_append_left ao];exact hv)
  ·obtain ⟨hp,v,hv,eO⟩:=h.fz b o g hg;refine ⟨hp,v,?_,eO.mono CO (de.refl _)⟩
   by_cases h7:h0.ownBlock=some b
   ·by_cases h8:o < fz * k
    ·exact kX b h7 o v h8 hv
    ·rw [(h5 b h7).1 o (by omega)] at hg;cases hg
   ·exact hx.c hv h7
 ·rw [getElem?_set] at hj;split at hj
  ·rename_i gx;split at hj
   ·cases hj;subst gx
    refine ⟨x,xs++ns,bh,by simpa using ho,?_,?_,fun b aY=>⟨fun o zd=>?_,fun o g zd hg=>?_⟩,by simp;omega⟩
    ·rw [List.flatten_append];exact (rL.2.mono CO hle).app (hr.mono CO hle)
    ·intro r LI
     rcases List.mem_append.1 LI with h7 | h7
     ·exact h4 r h7
     ·exact hk r h7
    ·rw [vY (by omega)]
     rcases hf b aY with h7 | h7
     ·exact (h5 b h7).1 o zd
     ·cases ln:K b o with
      | none=>rfl
      | some g=>have:=h.fz.lt ln;omega
    ·rw [yt aY zd];rw [List.flatten_append,getElem?_append_left (by omega)] at hg;exact hg
   ·cases hj
  ·rename_i gx;refine (h.ob j y hj).ext hx (fun b aY he=>?_) CO hle (bQ (fun he=>gx he.symm)) (fun b o aY ln=>?_)
   ·exact gx (h.dis i j b (xq b he) aY)
   ·rw [vY];exact ln;rintro ⟨h7,_⟩
    rcases hf b h7 with h8 | h8
    ·exact gx (h.dis i j b (xq b h8) aY)
    ·have:=h.lt aY;omega
 ·have lI:Γ.length<=j:=by simpa using hj
  have:i < Γ.length:=(List.getElem?_eq_some_iff.1 hi).1;rw [bQ (by omega)];exact h.out j lI
 ·have key:∀ j b,j≠i->(β j).blk=some b->x.ownBlock≠some b:=fun j b EB aY he=>by
   rcases hf b he with h7 | h7
   ·exact EB (h.dis j i b aY (xq b h7))
   ·have:=h.lt aY;omega
  by_cases h1:j=i <;> by_cases h2:j'=i
  ·omega
  ·subst h1;rw [bh] at hj;rw [bQ h2] at lI;exact absurd hj (key j' b h2 lI)
  ·subst h2;rw [bh] at lI;rw [bQ h1] at hj;exact absurd lI (key j b h1 hj)
  ·rw [bQ h1] at hj;rw [bQ h2] at lI;exact h.dis j j' b hj lI
 ·by_cases h1:j=i
  ·subst h1;rw [bh] at hj
   rcases hf b hj with h7 | h7
   ·exact h.own j b (xq b h7)
   ·exact .inr (Nat.le_trans h.ext.size h7)
  ·rw [bQ h1] at hj;exact h.own j b hj
 ·rcases AE hg with ⟨aY,_,_⟩ | ⟨_,hg⟩
  ·rcases hf b aY with h7 | h7
   ·exact .inr (h.own i b (xq b h7))
   ·exact .inr (.inr (Nat.le_trans h.ext.size h7))
  ·exact h.kn b o g hg
theorem Inv.hY {i E k fz:Nat} {rows:List (List GV)} (h:Inv B K β Γ w) (hi:Γ[i]?=some (.vec E k fz rows)) :
  ∃ K',cw K K'/\(∀ x b,β i=.gr x rows.length->x.ownBlock=some b->∀ (o:Nat) g,rows.flatten[o]?=some g->K' b o=some g)/\Inv B K' β (Γ.set i (.vec E k rows.length rows)) w:=by
 obtain ⟨x,xs,h1,h2,h3,h4,h5,h6⟩:=h.ob i _ hi
 have Jc:rows.flatten.length=rows.length * k:=by rw [<-h3.1];exact h2.1
 have ej:∀ b,x.ownBlock=some b->(β i).blk=some b:=fun b hb=>by rw [h1];exact hb
 have hle:cw K (AD K x (rows.length * k) rows.flatten):=fun b o g hg=>by
  by_cases hc:x.ownBlock=some b/\o < rows.length * k
  ·rw [yt hc.1 hc.2]
   have ao:o < rows.flatten.length:=by omega
   by_cases ho:o < fz * k
   ·have:=(h5 b hc.1).2 o rows.flatten[o] ho (by simp [ao]);rw [this] at hg;cases hg;simp [ao]
   ·rw [(h5 b hc.1).1 o (by omega)] at hg;cases hg
  ·rw [vY hc];exact hg
 refine ⟨AD K x (rows.length * k) rows.flatten,hle,fun x' b HI hb o g hg=>?_,h.ext,h.kle.trans hle,h.ble,h.loc,fun b o g hg=>?_,fun j y hj=>?_,fun j hj=>h.out j (by simpa using hj),h.dis,h.own,fun b o g hg=>?_,h.tab.step (S:=iG) (Ext.refl w) (fun _ h=>h.elim) hle (fun i b2 h=>.inl ⟨i,h⟩)⟩
 ·rw [h1] at HI;cases HI;rw [yt hb (by rw [<-Jc];exact (List.getElem?_eq_some_iff.1 hg).1)];exact hg
 ·rcases AE hg with ⟨aY,zd,hg⟩ | ⟨hc,hg⟩
  ·have xC:g.pc=true:=by
    obtain ⟨r,gD,dj⟩:=List.mem_flatten.1 (mem_of_getElem? hg);exact (h4 r gD).2 g dj
   obtain ⟨v,hv,eO⟩:=h3.at hg;obtain ⟨b2,c,rl,_,_,jB⟩:=h2.cells.2 (by intro h0;rw [h0] at hv;simp at hv)
   have eG:b2=b:=by rw [rl] at aY;cases aY;rfl
   subst eG;exact ⟨xC,v,by rw [<-eY];exact jB o v hv,(eO.mono hle (de.refl β)).pc xC⟩
  ·obtain ⟨h7,v,h8,h9⟩:=h.fz b o g hg;exact ⟨h7,v,h8,h9.mono hle (de.refl _)⟩
 ·rw [getElem?_set] at hj;split at hj
  ·rename_i gx;split at hj
   ·cases hj;subst gx
    refine ⟨x,xs,h1,h2,h3.mono hle (de.refl β),h4,fun b hb=>⟨fun o ho=>?_,fun o g ho hg=>?_⟩,Nat.le_refl _⟩
    ·rw [vY (by omega)];exact (h5 b hb).1 o (Nat.le_trans (Nat.mul_le_mul_right k h6) ho)
    ·rw [yt hb ho];exact hg
   ·cases hj
  ·rename_i gx;refine (h.ob j y hj).ext (Ext.refl w) (fun _ _ h=>h) hle (de.refl β) rfl (fun b o aY ln=>?_) (S:=iG);rw [vY];exact ln;rintro ⟨h7,_⟩;exact gx (h.dis i j b (ej b h7) aY)
 ·rcases AE hg with ⟨aY,_,_⟩ | ⟨_,hg⟩
  ·exact .inr (h.own i b (ej b aY))
  ·exact h.kn b o g hg
end
end Go.Xg
namespace Go.Xg
open Go.RowKit Go.Xw
mutual
def dx (f:Nat->Nat):GV->GV
 | .v x=>.v x
 | .any=>.any
 | .agg cs=>.agg (lx f cs)
 | .tup cs=>.tup (lx f cs)
 | .sl k rows=>.sl k rows
 | .box cs o=>.box cs o
 | .loc i o=>.loc (f i) o
 | .vec i n=>.vec (f i) n
 | .vp i n k idx off=>.vp (f i) n k idx off
 | .arr i o n=>.arr (f i) o n
 | .fn g a c=>.fn g (lx f a) (lx f c)
def lx (f:Nat->Nat):List GV->List GV
 | []=>[]
 | g::gs=>dx f g::lx f gs
end
theorem jI (f:Nat->Nat) (gs:List GV):lx f gs=gs.map (dx f):=by
 induction gs with
 | nil=>rfl
 | cons g gs ih=>simp [lx,ih]
theorem Rel.Bn {K:Fz} {β:Bt} {f:Nat->Nat} {x:Value} {g:GV} (h:Rel K (fun j=>β (f j)) x g):Rel K β x (dx f g):=by
 induction h with
 | v x=>exact .v x
 | any x=>exact .any x
 | agg vs cs hl h ih =>
  rw [dx,jI]
  refine .agg vs _ (by simpa using hl) fun i v g h1 h2=>?_
  rw [getElem?_map] at h2
  cases hc:cs[i]? with
  | none=>rw [hc] at h2;cases h2
  | some c=>rw [hc] at h2;cases h2;exact ih i v c h1 hc
 | tup vs cs hl h ih =>
  rw [dx,jI]
  refine .tup vs _ (by simpa using hl) fun i v g h1 h2=>?_
  rw [getElem?_map] at h2
  cases hc:cs[i]? with
  | none=>rw [hc] at h2;cases h2
  | some c=>rw [hc] at h2;cases h2;exact ih i v c h1 hc
 | sl0 a c k=>exact .sl0 a c k
 | sl b o c k rows h hc=>exact .sl b o c k rows h hc
 | box b o' o cs h=>exact .box b o' o cs h
 | loc i o b h=>exact .loc _ o b h
 | vec i n a c h=>exact .vec _ n a c h
 | vp i n k idx off x h=>exact .vp _ n k idx off x h
 | arr i o n b c h=>exact .arr _ o n b c h
 | fn g xs ys first cap hl jh h h' ih ih' =>
  rw [dx,jI,jI];refine .fn g xs ys _ _ (by simpa using hl) (by simpa using jh) (fun i v g h1 h2=>?_) (fun i v g h1 h2=>?_)
  ·rw [getElem?_map] at h2
   cases hc:first[i]? with
   | none=>rw [hc] at h2;cases h2
   | some c=>rw [hc] at h2;cases h2;exact ih i v c h1 hc
  ·rw [getElem?_map] at h2
   cases hc:cap[i]? with
   | none=>rw [hc] at h2;cases h2
   | some c=>rw [hc] at h2;cases h2;exact ih' i v c h1 hc
theorem Rel.Bc {K:Fz} {β:Bt} {f:Nat->Nat} {x:Value} {g:GV} (h:Rel K β x (dx f g)):Rel K (fun j=>β (f j)) x g:=by
 generalize he:dx f g=g' at h
 induction h generalizing g with
 | v x =>
  cases g <;> simp only [dx] at he <;> first | (cases he;done) | skip
  cases he;exact .v x
 | any x =>
  cases g <;> simp only [dx] at he <;> first | (cases he;done) | skip
  exact .any x
 | agg vs cs hl h ih =>
  cases g <;> simp only [dx] at he <;> first | (cases he;done) | skip
  rename_i ds;rw [jI] at he;cases he
  exact .agg vs ds (by simpa using hl) fun i v g h1 h2=>ih i v (dx f g) h1 (by rw [getElem?_map,h2];rfl) rfl
 | tup vs cs hl h ih =>
  cases g <;> simp only [dx] at he <;> first | (cases he;done) | skip
  rename_i ds;rw [jI] at he;cases he
  exact .tup vs ds (by simpa using hl) fun i v g h1 h2=>ih i v (dx f g) h1 (by rw [getElem?_map,h2];rfl) rfl
 | sl0 a c k =>
  cases g <;> simp only [dx] at he <;> first | (cases he;done) | skip
  cases he;exact .sl0 a c _
 | sl b o c k rows h hc =>
  cases g <;> simp only [dx] at he <;> first | (cases he;done) | skip
  cases he;exact .sl b o c k rows h hc
 | box b o' o cs h =>
  cases g <;> simp only [dx] at he <;> first | (cases he;done) | skip
  cases he;exact .box b o' o cs h
 | loc i o b h =>
  cases g <;> simp only [dx] at he <;> first | (cases he;done) | skip
  cases he;exact .loc _ o b h
 | vec i n a c h =>
  cases g <;> simp only [dx] at he <;> first | (cases he;done) | skip
  cases he;exact .vec _ n a c h
 | vp i n k idx off x h =>
  cases g <;> simp only [dx] at he <;> first | (cases he;done) | skip
  cases he;exact .vp _ n k idx off x h
 | arr i o n b c h =>
  cases g <;> simp only [dx] at he <;> first | (cases he;done) | skip
  cases he;exact .arr _ o n b c h
 | fn g' xs ys first cap hl jh h h' ih ih' =>
  cases g <;> simp only [dx] at he <;> first | (cases he;done) | skip
  rename_i f' ds es;rw [jI,jI] at he;cases he;exact .fn _ xs ys ds es (by simpa using hl) (by simpa using jh) (fun i v g h1 h2=>ih i v (dx f g) h1 (by rw [getElem?_map,h2];rfl) rfl)
   (fun i v g h1 h2=>ih' i v (dx f g) h1 (by rw [getElem?_map,h2];rfl) rfl)
mutual
def GV.ok (p:Nat->Bool):GV->Bool
 | .loc i _=>p i
 | .vec i _=>p i
 | .vp i _ _ _ _=>p i
 | .arr i _ _=>p i
 | .agg cs=>Db p cs
 | .tup cs=>Db p cs
 | .fn _ a c=>Db p a&&Db p c
 | .v _=>true
 | .any=>true
 | .sl _ _=>true
 | .box _ _=>true
def Db (p:Nat->Bool):List GV->Bool
 | []=>true
 | g::gs=>GV.ok p g&&Db p gs
end
def below (n:Nat):Nat->Bool:=fun i=>Nat.blt i n
def other (n:Nat):Nat->Bool:=fun i=>!Nat.beq i n
abbrev GV.lt (n:Nat) (g:GV):Bool:=g.ok (below n)
theorem vm {p:Nat->Bool} {gs:List GV} (h:Db p gs=true) {g:GV} (hg:g∈gs):g.ok p=true:=by
 induction gs with
 | nil=>cases hg
 | cons x gs ih =>
  simp only [Db,Bool.and_eq_true] at h
  rcases List.mem_cons.1 hg with rfl | hg
  ·exact h.1
  ·exact ih h.2 hg
theorem Rel.res {K:Fz} {β:Bt} {p:Nat->Bool} {x:Value} {g:GV} (h:Rel K β x g) (hl:g.ok p=true):Rel K (gH p β) x g:=by
 induction h with
 | v x=>exact .v x
 | any x=>exact .any x
 | agg vs cs oS h ih=>simp only [GV.ok] at hl;exact .agg vs cs oS fun i v g h1 h2=>ih i v g h1 h2 (vm hl (mem_of_getElem? h2))
 | tup vs cs oS h ih=>simp only [GV.ok] at hl;exact .tup vs cs oS fun i v g h1 h2=>ih i v g h1 h2 (vm hl (mem_of_getElem? h2))
 | sl0 a c k=>exact .sl0 a c k
 | sl b o c k rows h hc=>exact .sl b o c k rows h hc
 | box b o' o cs h=>exact .box b o' o cs h
 | loc i o b h=>simp only [GV.ok] at hl;exact .loc _ o b (by rw [iT hl,h])
 | vec i m a c h=>simp only [GV.ok] at hl;exact .vec _ m a c (by rw [iT hl];exact h)
 | vp i m k idx off x h=>simp only [GV.ok] at hl;exact .vp _ m k idx off x (by rw [iT hl];exact h)
 | arr i o m b c h=>simp only [GV.ok] at hl;exact .arr _ o m b c (by rw [iT hl,h])
 | fn g' xs ys first cap oS jh h h' ih ih' =>
  simp only [GV.ok,Bool.and_eq_true] at hl
  exact .fn _ xs ys first cap oS jh (fun i v g h1 h2=>ih i v g h1 h2 (vm hl.1 (mem_of_getElem? h2))) (fun i v g h1 h2=>ih' i v g h1 h2 (vm hl.2 (mem_of_getElem? h2)))
def Ob.ok (p:Nat->Bool):Ob->Bool
 | .box _ cs=>Db p cs
 | _=>true
def Ob.dx (f:Nat->Nat):Ob->Ob
 | .box E cs=>.box E (lx f cs)
 | x=>x
def C8 (p:Nat->Bool):List Ob->Bool
 | []=>true
 | x::r=>Ob.ok p x&&C8 p r
abbrev Bb (n:Nat) (Γ:List Ob):Bool:=C8 (below n) Γ
theorem H7 {p:Nat->Bool} {gs:List Ob} (h:C8 p gs=true) {g:Ob} (hg:g∈gs):g.ok p=true:=by
 induction gs with
 | nil=>cases hg
 | cons x gs ih =>
  simp only [C8,Bool.and_eq_true] at h
  rcases List.mem_cons.1 hg with rfl | hg
  ·exact h.1
  ·exact ih h.2 hg
def JO (p:Nat->Bool):List GV->List GV
 | []=>[]
 | g::gs=>(match GV.ok p g with | true=>g | false=>.any)::JO p gs
abbrev Ww (n:Nat) (fr:List GV):List GV:=JO (below n) fr
theorem FR.res {K:Fz} {β:Bt} {p:Nat->Bool} {fr:List GV} {l:List Value} (h:FR K β fr l):FR K (gH p β) (JO p fr) l:=by
 induction h with
 | nil=>exact .nil
 | cons h t ih =>
  rw [JO];split
  ·rename_i hl;exact .cons (h.res hl) ih
  ·exact .cons (.any _) ih
theorem jT.res {K:Fz} {β:Bt} {w:World} {p:Nat->Bool} {i:Nat} {x:Ob} (h:jT K β w i x) (hi:p i=true) (hx:x.ok p=true):jT K (gH p β) w i x:=by
 cases x with
 | gone=>simp only [jT] at h |-;rw [iT hi,h]
 | box E cs =>
  obtain ⟨b,vs,h1,h2,h3,h4⟩:=h;exact ⟨b,vs,by rw [iT hi,h1],h2,⟨h3.1,fun i v g h5 h6=>(h3.2 i v g h5 h6).res (vm hx (mem_of_getElem? h6))⟩,h4⟩
 | vec E k fz rows =>
  obtain ⟨h0,xs,h1,h2,h3,h4,h5⟩:=h;refine ⟨h0,xs,by rw [iT hi,h1],h2,⟨h3.1,fun i v g h6 h7=>(h3.2 i v g h6 h7).pc ?_⟩,h4,h5⟩;obtain ⟨r,gD,dj⟩:=List.mem_flatten.1 (mem_of_getElem? h7);exact (h4 r gD).2 g dj
 | vech E k rows x =>
  obtain ⟨xs,h1,h2,h3,h4,h5⟩:=h;refine ⟨xs,by rw [iT hi,h1],h2,⟨h3.1,fun i v g h6 h7=>(h3.2 i v g h6 h7).pc ?_⟩,h4,h5⟩;obtain ⟨r,gD,dj⟩:=List.mem_flatten.1 (mem_of_getElem? h7);exact (h4 r gD).2 g dj
 | lost=>exact fun b hb=>h b (by rw [iT hi] at hb;exact hb)
section
variable {B:Bs} {K:Fz} {β:Bt} {Γ:List Ob} {w:World}
theorem BD {n i:Nat} (h:i < n):below n i=true:=by simpa [below] using h
theorem Qw {n i:Nat} (h:n<=i):below n i=false:=by
 cases hb:below n i with
 | false=>rfl
 | true=>simp [below] at hb;omega
theorem Inv.cut {n:Nat} (h:Inv B K β Γ w) (hm:B.m<=n) (hl:Bb n (Γ.take n)=true):Inv B K (gH (below n) β) (Γ.take n) w:=by
 have dH:∀ i b,(gH (below n) β i).blk=some b->(β i).blk=some b:=fun i b hi=>by
  simp only [gH] at hi;split at hi
  ·exact hi
  ·cases hi
 refine ⟨h.ext,h.kle,fun i=>?_,h.loc,h.fz,fun i x hi=>?_,fun i hi=>?_,fun i j b hi hj=>h.dis i j b (dH i b hi) (dH j b hj),fun i b hi=>h.own i b (dH i b hi),h.kn,h.tab.step (S:=iG) (Ext.refl w) (fun _ h=>h.elim) (cw.refl K) (fun i b2 h2=>.inl ⟨i,dH i b2 h2⟩)⟩
 ·by_cases gW:i < n
  ·rw [iT (BD gW)];exact h.ble i
  ·rw [h.loc i (by omega)];trivial
 ·have ao:=H7 hl (mem_of_getElem? hi);rw [getElem?_take] at hi;split at hi
  ·rename_i gW;exact (h.ob i x hi).res (BD gW) ao
  ·cases hi
 ·by_cases gW:i < n
  ·rw [iT (BD gW)];exact h.out i (by simp at hi;omega)
  ·exact Cg (Qw (by omega))
theorem H8 {i:Nat}:other i i=false:=by simp [other]
theorem vn {i j:Nat} (h:j≠i):other i j=true:=by
 cases hb:Nat.beq j i with
 | false=>simp [other,hb]
 | true=>exact absurd (Nat.eq_of_beq_eq_true hb) h
theorem Inv.freeze {i:Nat} {E:TypeId} {cs:List GV} (h:Inv B K β Γ w) (hi:Γ[i]?=some (.box E cs)) (hp:∀ g∈cs,g.pc=true) (bV:C8 (other i) (Γ.set i .gone)=true) (hm:B.m<=i) :
  ∃ K',cw K K'/\(∀ b,β i=.fix b->∀ (j:Nat) g,cs[j]?=some g->K' b j=some g)/\Inv B K' (gH (other i) β) (Γ.set i .gone) w:=by
 obtain ⟨b,vs,h1,h2,h3,h4⟩:=h.ob i _ hi
 have ej:(β i).blk=some b:=by rw [h1];rfl
 have hle:cw K (kF K b cs):=fun b' o g hg=>by
  by_cases hb:b'=b
  ·subst hb;rw [h4] at hg;cases hg
  ·simp [kF,hb,hg]
 have dH:∀ j b',(gH (other i) β j).blk=some b'->j≠i/\(β j).blk=some b':=fun j b' hj=>by
  by_cases hji:j=i
  ·subst hji;rw [Cg H8] at hj;cases hj
  ·rw [iT (vn hji)] at hj;exact ⟨hji,hj⟩
 refine ⟨kF K b cs,hle,fun b' aY j g hg=>?_,h.ext,h.kle.trans hle,fun j=>?_,h.loc,fun b' o g hg=>?_,fun j x hj=>?_,fun j hj=>?_,fun j j' b' hj lI=>?_,fun j b' hj=>?_,fun b' o g hg=>?_,h.tab.step (S:=iG) (Ext.refl w) (fun _ h=>h.elim) hle (fun i b2 h2=>.inl ⟨i,(dH i b2 h2).2⟩)⟩
 ·rw [h1] at aY;cases aY;exact uI hg
 ·by_cases hji:j=i
  ·subst hji;rw [h.loc j hm];trivial
  ·rw [iT (vn hji)];exact h.ble j
 ·by_cases hb:b'=b
  ·subst hb;simp [kF] at hg;obtain ⟨v,hv,eO⟩:=h3.at hg;have xC:=hp g (mem_of_getElem? hg);exact ⟨xC,v,vN h2 (by simpa using hv),(eO.mono hle (de.refl β)).pc xC⟩
  ·have lj:K b' o=some g:=by simpa [kF,hb] using hg
   obtain ⟨h5,v,h6,h7⟩:=h.fz b' o g lj;exact ⟨h5,v,h6,h7.mono hle (de.refl _)⟩
 ·have fc:=H7 bV (mem_of_getElem? hj);rw [getElem?_set] at hj;split at hj
  ·rename_i gx;split at hj
   ·cases hj;subst gx;exact Cg H8
   ·cases hj
  ·rename_i gx;refine jT.res ?_ (vn (fun he=>gx he.symm)) fc;refine (h.ob j x hj).ext (Ext.refl w) (fun _ _ h=>h) hle (de.refl β) rfl (fun b' o aY hk=>?_) (S:=iG)
   have:b'≠b:=fun he=>by subst he;exact gx (h.dis i j _ ej aY)
   simp [kF,this,hk]
 ·have:i < Γ.length:=(List.getElem?_eq_some_iff.1 hi).1
  have lI:Γ.length<=j:=by simpa using hj
  rw [iT (vn (by omega))];exact h.out j lI
 ·exact h.dis j j' b' (dH j b' hj).2 (dH j' b' lI).2
 ·exact h.own j b' (dH j b' hj).2
 ·by_cases hb:b'=b
  ·subst hb;exact .inr (h.own i _ ej)
  ·exact h.kn b' o g (by simpa [kF,hb] using hg)
end
abbrev dR:=Exit->List GV->List Ob->Prop
def gl (B:Bs) (Q:dR):lh:=fun e l w=>∃ K β fr Γ,Inv B K β Γ w/\FR K β fr l/\Q e fr Γ
def GW (P:Program) (m:Nat) (c:Code) (Q:dR) (fr:List GV) (Γ:List Ob):Prop :=
 ∀ B K β w l,B.m=m->Inv B K β Γ w->FR K β fr l->W P c (gl B Q) l w
def GL (P:Program) (m:Nat) (ops:Array Oper) (Q:dR) (rest:List Oper) (fr:List GV) (Γ:List Ob):Prop :=
 ∀ B K β w l,B.m=m->Inv B K β Γ w->FR K β fr l->WL P ops (gl B Q) rest l w
def aQ (next:List GV->List Ob->Prop) (Q:dR):dR
 | .normal,fr,Γ=>next fr Γ
 | e,fr,Γ=>Q e fr Γ
def aR (id:Nat) (Q:dR):dR
 | .exit A1,fr,Γ=>if A1=id then Q .normal fr Γ else Q (.exit A1) fr Γ
 | e,fr,Γ=>Q e fr Γ
def Wk (m:Nat) (fr:List GV) (Γ:List Ob) (bM:List GV) (aD:List Ob):Prop :=
 ∀ B K β w l,B.m=m->Inv B K β Γ w->FR K β fr l->∃ K' bO,Inv B K' bO aD w/\FR K' bO bM l
section
variable {P:Program} {m:Nat} {Q:dR} {fr:List GV} {Γ:List Ob} {ops:Array Oper} {rest:List Oper}
theorem Wk.trans {bM Lb:List GV} {aD Dr:List Ob} (h:Wk m fr Γ bM aD) (k:Wk m bM aD Lb Dr):Wk m fr Γ Lb Dr:=fun B K β w l hm hI hF=>by
 obtain ⟨K',bO,bc,uZ⟩:=h B K β w l hm hI hF;exact k B K' bO w l hm bc uZ
theorem GW.wk {c:Code} {bM:List GV} {aD:List Ob} (h:Wk m fr Γ bM aD) (k:GW P m c Q bM aD):GW P m c Q fr Γ:=fun B K β w l hm hI hF=>by
 obtain ⟨K',bO,bc,uZ⟩:=h B K β w l hm hI hF;exact k B K' bO w l hm bc uZ
theorem GL.wk {bM:List GV} {aD:List Ob} (h:Wk m fr Γ bM aD) (k:GL P m ops Q rest bM aD):GL P m ops Q rest fr Γ:=fun B K β w l hm hI hF=>by
 obtain ⟨K',bO,bc,uZ⟩:=h B K β w l hm hI hF;exact k B K' bO w l hm bc uZ
theorem Wk.cut {n:Nat} (hm:m<=n) (hl:Bb n (Γ.take n)=true):Wk m fr Γ (Ww n fr) (Γ.take n):=fun B K β w l hB hI hF =>
 ⟨K,gH (below n) β,hI.cut (by omega) hl,hF.res⟩
inductive sn:List GV->List GV->Prop
 | nil:sn [] []
 | any {f:GV} {fs gs:List GV} (h:sn fs gs):sn (f::fs) (.any::gs)
 | eq {f g:GV} {fs gs:List GV} (he:f=g) (h:sn fs gs):sn (f::fs) (g::gs)
theorem FR.XH {K:Fz} {β:Bt} {l:List Value} {fr bM:List GV} (h:sn fr bM) (k:FR K β fr l):FR K β bM l:=by
 induction h generalizing l with
 | nil=>exact k
 | any h ih=>cases k with | cons k1 k2=>exact .cons (.any _) (ih k2)
 | eq he h ih=>subst he;cases k with | cons k1 k2=>exact .cons k1 (ih k2)
theorem Wk.av {bM:List GV} (h:sn fr bM):Wk m fr Γ bM Γ:=fun B K β w l _ hI hF=>⟨K,β,hI,hF.XH h⟩
theorem GW.seq {x y:Code} (h:GW P m x (aQ (GW P m y Q) Q) fr Γ):GW P m (.seq x y) Q fr Γ:=fun B K β w l hm hI hF=>by
 refine W.seq (W.mono (h B K β w l hm hI hF) ?_);rintro e l w ⟨K,β,fr,Γ,hI,hF,hq⟩
 cases e with
 | normal=>exact hq B K β w l hm hI hF
 | _=>exact ⟨K,β,fr,Γ,hI,hF,hq⟩
theorem GW.skip (h:Q .normal fr Γ):GW P m .skip Q fr Γ:=fun B K β w l hm hI hF=>W.skip ⟨K,β,fr,Γ,hI,hF,h⟩
theorem GW.exit {n:Nat} (h:Q (.exit n) fr Γ):GW P m (.exit n) Q fr Γ:=fun B K β w l hm hI hF=>W.exit ⟨K,β,fr,Γ,hI,hF,h⟩
theorem GW.ret (h:Q .ret fr Γ):GW P m .ret Q fr Γ:=fun B K β w l hm hI hF=>W.ret ⟨K,β,fr,Γ,hI,hF,h⟩
theorem GW.block {id:Nat} {c:Code} (h:GW P m c (aR id Q) fr Γ):GW P m (.block id c) Q fr Γ:=fun B K β w l hm hI hF=>by
 refine W.block (W.mono (h B K β w l hm hI hF) ?_);rintro e l w ⟨K,β,fr,Γ,hI,hF,hq⟩
 cases e with
 | exit A1 =>
  simp only [aR] at hq;simp only [Tq];split <;> rename_i hh
  ·rw [if_pos hh] at hq;exact ⟨K,β,fr,Γ,hI,hF,hq⟩
  ·rw [if_neg hh] at hq;exact ⟨K,β,fr,Γ,hI,hF,hq⟩
 | _=>exact ⟨K,β,fr,Γ,hI,hF,hq⟩
theorem Rel.eg {K:Fz} {β:Bt} {x a:Value} (h:Rel K β x (.v a)):x=a:=by cases h;rfl
theorem FR.gU {K:Fz} {β:Bt} {l:List Value} {x:Operand} {a:Value} (h:FR K β fr l) (hx:aM fr x=.v a):Xw.ev l x=a:=Rel.eg (by rw [<-hx];exact h.ev x)
theorem GW.cond {c:Operand} {x y:Code} {t:Bool} (hc:aM fr c=.v (.bool t)) (ht:t=true->GW P m x Q fr Γ) (hf:t=false->GW P m y Q fr Γ):GW P m (.cond c x y) Q fr Γ:=fun B K β w l hm hI hF =>
 W.cond (hF.gU hc) (fun h=>ht h B K β w l hm hI hF) (fun h=>hf h B K β w l hm hI hF)
theorem Pn {c:Operand} {x y:Code} {t:Bool} (hc:aM fr c=.v (.bool t)) (ht:t=true) (h:GW P m x Q fr Γ):GW P m (.cond c x y) Q fr Γ:=GW.cond hc (fun _=>h) (fun h2=>by rw [ht] at h2;cases h2)
theorem Pm {c:Operand} {x y:Code} {t:Bool} (hc:aM fr c=.v (.bool t)) (ht:t=false) (h:GW P m y Q fr Γ):GW P m (.cond c x y) Q fr Γ:=GW.cond hc (fun h2=>by rw [ht] at h2;cases h2) (fun _=>h)
theorem GW.mono {c:Code} {Q':dR} (h:GW P m c Q fr Γ) (hq:∀ e fr Γ,Q e fr Γ->Q' e fr Γ):GW P m c Q' fr Γ:=fun B K β w l hm hI hF =>
 W.mono (h B K β w l hm hI hF) fun e l w ⟨K,β,fr,Γ,hI,hF,q⟩=>⟨K,β,fr,Γ,hI,hF,hq _ _ _ q⟩
def yP (m:Nat) (K:List GV->List Ob->Prop) (fr:List GV) (Γ:List Ob):Prop:=∃ bM aD,Wk m fr Γ bM aD/\K bM aD
theorem GW.loop {c:Code} {α:Type} (μ:α->Nat) (I:α->List GV->List Ob->Prop) (x:α) (h0:yP m (I x) fr Γ)
  (round:∀ x fr Γ,I x fr Γ->GW P m c (aQ (fun bM aD=>∃ y,yP m (I y) bM aD/\μ y < μ x) Q) fr Γ):GW P m (.loop c) Q fr Γ:=fun B K β w l hm hI hF=>by
 obtain ⟨bM,aD,hw,h0⟩:=h0;obtain ⟨K',bO,bc,uZ⟩:=hw B K β w l hm hI hF;refine W.loop μ (fun x l w=>∃ K β fr Γ,Inv B K β Γ w/\FR K β fr l/\I x fr Γ) x ⟨K',bO,bM,aD,bc,uZ,h0⟩ ?_;rintro x l w ⟨K,β,fr,Γ,hI,hF,hi⟩;refine W.mono (round x fr Γ hi B K β w l hm hI hF) ?_;rintro e l w ⟨K,β,fr,Γ,hI,hF,hq⟩
 cases e with
 | normal =>
  obtain ⟨y,⟨bM,aD,hw,hy⟩,ao⟩:=hq;obtain ⟨K',bO,bc,uZ⟩:=hw B K β w l hm hI hF;exact ⟨y,⟨K',bO,bM,aD,bc,uZ,hy⟩,ao⟩
 | _=>exact ⟨K,β,fr,Γ,hI,hF,hq⟩
theorem GW.region {id:Nat} {ol:List Oper} (h:GL P m ol.toArray Q ol fr Γ):GW P m (.region id ol.toArray false) Q fr Γ:=fun B K β w l hm hI hF=>W.region (h B K β w l hm hI hF)
theorem GL.nil (h:Q .normal fr Γ):GL P m ops Q [] fr Γ:=fun B K β w l hm hI hF=>WL.nil ⟨K,β,fr,Γ,hI,hF,h⟩
end
section
variable {next:List GV->List Ob->Prop} {Q:dR} {fr:List GV} {Γ:List Ob} {id A1:Nat}
theorem aJ (h:next fr Γ):aQ next Q .normal fr Γ:=h
theorem Eh (h:Q (.exit id) fr Γ):aQ next Q (.exit id) fr Γ:=h
theorem cL (h:Q .ret fr Γ):aQ next Q .ret fr Γ:=h
theorem b7 (h:Q .normal fr Γ):aR id Q .normal fr Γ:=h
theorem cK (h:Q .ret fr Γ):aR id Q .ret fr Γ:=h
theorem Hu (h:Q .normal fr Γ):aR id Q (.exit id) fr Γ:=by simpa [aR] using h
end
def GC (P:Program) (f:FuncId) (gs:List GV) (Γ:List Ob) (R:GV->List Ob->Prop):Prop :=
 ∀ B K β w vs,B.m=Γ.length->Inv B K β Γ w->aU K β vs gs->oa P f vs w fun v w'=>∃ K' bO g aD,Inv B K' bO aD w'/\Rel K' bO v g/\R g aD
abbrev GF (P:Program) (f:FuncId) (gs:List GV) (Γ:List Ob) (g:GV) (aD:List Ob):Prop:=GC P f gs Γ fun x Δ=>x=g/\Δ=aD
def Eg:Nat->List GV
 | 0=>[]
 | n+1=>.v undef::Eg n
def xl:List GV->Nat->List GV
 | [],n=>Eg n
 | a::r,n=>a::xl r (n - 1)
theorem FR.Fq {K:Fz} {β:Bt} (n:Nat):FR K β (Eg n) (Fq n):=by
 induction n with
 | zero=>exact .nil
 | succ n ih=>exact .cons (.v _) ih
theorem FR.frame {K:Fz} {β:Bt} {vs:List Value} {gs:List GV} (h:aU K β vs gs) (n:Nat):FR K β (xl gs n) (frame vs n):=by
 induction gs generalizing vs n with
 | nil =>
  have:vs=[]:=eq_nil_of_length_eq_zero h.1;subst this;exact FR.Fq n
 | cons g gs ih =>
  cases vs with
  | nil=>have:=h.1;simp at this
  | cons v vs=>obtain ⟨h1,h2⟩:=h.ou;exact .cons h1 (ih h2 _)
def sC (P:Program) (fn:Func) (m:Nat) (R:GV->List Ob->Prop):dR:=fun e fr Γ =>
 (e=.normal\/e=.ret)/\∀ B K β w l,B.m=m->Inv B K β Γ w->FR K β fr l->∃ v K' bO g aD,(results fn l.toArray).run P w=.ok v w/\Inv B K' bO aD w/\Rel K' bO v g/\R g aD
theorem GC.enter {P:Program} {f:FuncId} {fn:Func} {c:Code} {gs:List GV} {Γ:List Ob} {R:GV->List Ob->Prop} {n:Nat} {fr:List GV}
  (hf:P.funcs[f]?=some fn) (hn:fn.ntmps=n) (hb:fn.body=some c) (hl:xl gs n=fr) (h:GW P Γ.length c (sC P fn Γ.length R) fr Γ):GC P f gs Γ R:=fun B K β w vs hm hI hF=>by
 subst hl;refine oa.enter hf hn hb rfl (W.mono (h B K β w _ hm hI (FR.frame hF n)) ?_);rintro e l w ⟨K,β,fr,Γ,hI,hF,he,hq⟩;obtain ⟨v,K',bO,g,aD,h1,h2,h3,h4⟩:=hq B K β w l hm hI hF
 rcases he with rfl | rfl
 ·exact ⟨v,h1,K',bO,g,aD,h2,h3,h4⟩
 ·exact ⟨v,h1,K',bO,g,aD,h2,h3,h4⟩
section
variable {P:Program} {fn:Func} {m:Nat} {R:GV->List Ob->Prop} {fr:List GV} {Γ:List Ob} {e:Exit}
theorem Sm {n:Nat} (hr:fn.results=#[]) (he:e=.normal\/e=.ret) (hm:m<=n) (hl:Bb n (Γ.take n)=true) (h:R (.tup []) (Γ.take n)):sC P fn m R e fr Γ :=
 ⟨he,fun B K β w l hB hI hF=>⟨.tuple #[],K,gH (below n) β,.tup [],Γ.take n,by rw [results_none hr],hI.cut (by omega) hl,.tup [] [] rfl (fun i v g h=>by simp at h),h⟩⟩
theorem ql {n:Nat} {t:Tmp} {g:GV} (hr:fn.results=#[.tmp t]) (he:e=.normal\/e=.ret) (hg:cq fr t=g) (hm:m<=n) (hl:Bb n (Γ.take n)=true) (fa:g.lt n=true) (h:R g (Γ.take n)):sC P fn m R e fr Γ :=
 ⟨he,fun B K β w l hB hI hF=>⟨nth l t,K,gH (below n) β,g,Γ.take n,by rw [results_tmp hr,jG],hI.cut (by omega) hl,by rw [<-hg] at fa |-;exact (hF.nth t).res fa,h⟩⟩
theorem Sn {n:Nat} {t u:Tmp} {g g':GV} (hr:fn.results=#[.tmp t,.tmp u]) (he:e=.normal\/e=.ret) (hg:cq fr t=g) (lj:cq fr u=g') (hm:m<=n) (hl:Bb n (Γ.take n)=true) (fa:(GV.tup [g,g']).lt n=true) (h:R (.tup [g,g']) (Γ.take n)):sC P fn m R e fr Γ :=
 ⟨he,fun B K β w l hB hI hF=>⟨.tuple #[nth l t,nth l u],K,gH (below n) β,.tup [g,g'],Γ.take n,by rw [results_tmp2 hr,jG,jG],hI.cut (by omega) hl,by
  refine Rel.res ?_ fa;subst hg lj;have hc:aU K β [nth l t,nth l u] [cq fr t,cq fr u]:=.cons (hF.nth t) (.cons (hF.nth u) .nil)
  exact .tup [nth l t,nth l u] _ hc.1 hc.2,h⟩⟩
theorem So {n:Nat} {t u s:Tmp} {g g' g2:GV} (hr:fn.results=#[.tmp t,.tmp u,.tmp s]) (he:e=.normal\/e=.ret) (hg:cq fr t=g) (lj:cq fr u=g') (fY:cq fr s=g2) (hm:m<=n) (hl:Bb n (Γ.take n)=true) (fa:(GV.tup [g,g',g2]).lt n=true)
  (h:R (.tup [g,g',g2]) (Γ.take n)):sC P fn m R e fr Γ :=
 ⟨he,fun B K β w l hB hI hF=>⟨.tuple #[nth l t,nth l u,nth l s],K,gH (below n) β,.tup [g,g',g2],Γ.take n,by
   rw [<-jG l t,<-jG l u,<-jG l s];simp [results,hr],hI.cut (by omega) hl,by
  refine Rel.res ?_ fa;subst hg lj fY;have hc:aU K β [nth l t,nth l u,nth l s] [cq fr t,cq fr u,cq fr s]:=.cons (hF.nth t) (.cons (hF.nth u) (.cons (hF.nth s) .nil))
  exact .tup [nth l t,nth l u,nth l s] _ hc.1 hc.2,h⟩⟩
theorem Sq {n:Nat} {t:Tmp} {T:TypeId} {k:Nat} [hT:Ty P T true k] {i:Nat} {E:TypeId} {cs:List GV} (hr:fn.results=#[.cell t T]) (he:e=.normal\/e=.ret) (hg:cq fr t=.loc i 0) (br:Γ[i]?=some (.box E cs)) (hk:cs.length=k)
  (hm:m<=n) (hl:Bb n (Γ.take n)=true) (fa:(GV.agg cs).lt n=true) (h:R (.agg cs) (Γ.take n)):sC P fn m R e fr Γ :=
 ⟨he,fun B K β w l hB hI hF=>by
  obtain ⟨b,vs,h1,h2,h3,h4⟩:=hI.ob i _ br
  have hp:nth l t=.pointer (some ⟨b,0,none⟩):=by
   have:=hF.nth t;rw [hg] at this;generalize nth l t=v at this
   cases this with
   | loc _ _ b' aY=>rw [h1] at aY;cases aY;rfl
  have kW:l.toArray.getD t undef=.pointer (some ⟨b,0,none⟩):=by rw [jG,hp]
  have Ew:=nr (P:=P) (w:=w) (t:=T) (b:=b) (o:=0) (vs:=vs) (k:=k) (by rw [h3.1,hk]) (fun j v hj=>by
   rw [Nat.zero_add,cell_of_row w b j _ E (0,0) h2];simpa using hj)
  have zQ:l[t]?.getD undef=.pointer (some ⟨b,0,none⟩):=by simpa using kW
  exact ⟨.agg vs.toArray,K,gH (below n) β,.agg cs,Γ.take n,by simp [results,hr,zQ,asAddr,Ew],hI.cut (by omega) hl,Rel.res (.agg vs cs h3.1 h3.2) fa,h⟩⟩
end
end Go.Xg
namespace Go.Xg
open Go.RowKit Go.Xw
def YG (P:Program) (op:Op) (fr:List GV) (Γ:List Ob) (g:GV):Prop :=
 ∀ B K β w l,Inv B K β Γ w->FR K β fr l->∃ v,eh P l w op v/\Rel K β v g
section
variable {P:Program} {m:Nat} {Q:dR} {fr:List GV} {Γ:List Ob} {ops:Array Oper} {rest:List Oper} {d:Option Tmp} {op:Op} {ty:TypeId} {pos:String} {af:Array Edge}
theorem GL.q {g:GV} (hy:YG P op fr Γ g) (h:GL P m ops Q rest (bf fr d g) Γ):GL P m ops Q (⟨d,op,ty,pos,af,none⟩::rest) fr Γ:=fun B K β w l hm hI hF=>by
 obtain ⟨v,hr,hv⟩:=hy B K β w l hI hF;exact WL.v hr (h B K β w _ hm hI (hF.put d hv))
theorem tD {bM:List GV} {aD:List Ob} (h1:fr=bM) (h2:Γ=aD) (h:GL P m ops Q rest bM aD):GL P m ops Q rest fr Γ:=by subst h1;subst h2;exact h
theorem GN {bM:List GV} (h1:fr=bM) (h:GL P m ops Q rest bM Γ):GL P m ops Q rest fr Γ:=by subst h1;exact h
theorem YG.v1 {x:Operand} {a v:Value} (hx:aM fr x=.v a) (h:∀ l w,ev l x=a->eh P l w op v):YG P op fr Γ (.v v):=fun B K β w l hI hF=>⟨v,h l w (hF.gU hx),.v v⟩
theorem YG.v2 {x y:Operand} {a b v:Value} (hx:aM fr x=.v a) (hy:aM fr y=.v b) (h:∀ l w,ev l x=a->ev l y=b->eh P l w op v):YG P op fr Γ (.v v):=fun B K β w l hI hF=>⟨v,h l w (hF.gU hx) (hF.gU hy),.v v⟩
theorem YG.mv {x:Operand}:YG P (.move x) fr Γ (aM fr x):=fun B K β w l hI hF=>⟨_,R.mv,hF.ev x⟩
theorem YG.tH {x:Operand}:YG P (.assign x) fr Γ (aM fr x):=fun B K β w l hI hF=>⟨_,R.tH,hF.ev x⟩
theorem YG.jn {fn:Fn} {first cap:List Operand}:YG P (.makeFunc fn first.toArray cap.toArray) fr Γ (.fn fn (first.map (aM fr)) (cap.map (aM fr))):=fun B K β w l hI hF =>
 ⟨_,R.jn,by
  have h1:=hF.args first
  have h2:=hF.args cap
  simpa using Rel.fn fn _ _ _ _ h1.1 h2.1 h1.2 h2.2⟩
def BU:GV->Value
 | .v x=>x
 | _=>.nilFunc
def Ss (ρ:Operand->Value) (op:Op):Option Value :=
 match op with
 | .binOp _ _ _ _ _=>go ρ op
 | .unOp _ _ _=>go ρ op
 | _=>none
theorem QU {K:Fz} {β:Bt} {x:Value} {g:GV} (h:Rel K β x g):BU g=x\/BU g=.nilFunc:=by
 cases h <;> first | exact .inl rfl | exact .inr rfl
theorem YG.go {v:Value} (h:Ss (fun x=>BU (aM fr x)) op=some v):YG P op fr Γ (.v v):=fun B K β w l hI hF=>by
 refine ⟨v,QT ?_,.v v⟩
 have key:∀ x,BU (aM fr x)=ev l x\/BU (aM fr x)=.nilFunc:=fun x=>QU (hF.ev x)
 unfold Ss at h;split at h
 ·rename_i o t x y t';simp only [Xw.go] at h |-
  rcases key x with hx | hx <;> rcases key y with hy | hy <;> rw [hx,hy] at h
  ·exact h
  ·cases hv:ev l x <;> rw [hv] at h <;> cases h
  ·cases h
  ·cases h
 ·rename_i o t x;simp only [Xw.go,vX] at h |-
  rcases key x with hx | hx <;> rw [hx] at h
  ·exact h
  ·cases o <;> simp only at h <;> cases h
 ·cases h
theorem YG.vr {c a b:Operand} {t:Bool} (hc:aM fr c=.v (.bool t)) (ht:t=true):YG P (.pick c a b) fr Γ (aM fr a):=fun B K β w l hI hF=>⟨_,R.vr (hF.gU hc) ht,hF.ev a⟩
theorem YG.vq {c a b:Operand} {t:Bool} (hc:aM fr c=.v (.bool t)) (ht:t=false):YG P (.pick c a b) fr Γ (aM fr b):=fun B K β w l hI hF=>⟨_,R.vq (hF.gU hc) ht,hF.ev b⟩
theorem YG.sY {x:Operand} {i o:Nat} (hx:aM fr x=.loc i o):YG P (.nilCheck x) fr Γ (.loc i o):=fun B K β w l hI hF=>by
 have h:=hF.ev x;rw [hx] at h;generalize hv:ev l x=v at h
 cases h with | loc _ _ b hb=>exact ⟨_,R.JH hv,.loc i o b hb⟩
theorem YG.sX {x:Operand} {cs:List GV} {o:Nat} (hx:aM fr x=.box cs o):YG P (.nilCheck x) fr Γ (.box cs o):=fun B K β w l hI hF=>by
 have h:=hF.ev x;rw [hx] at h;generalize hv:ev l x=v at h
 cases h with | box b o' _ _ hb=>exact ⟨_,R.JH hv,.box b o' o cs hb⟩
theorem YG.qt {x:Operand} {t:TypeId} [hT:o8 P t] {s:ae} (hx:aM fr x=.v (sv s)):YG P (.call ⟨.builtin .len,#[x],#[t]⟩) fr Γ (.v (ii s.length)):=YG.v1 hx fun l w h=>R.qt h
theorem YG.pG {x:Operand} {t e:TypeId} {k:Nat} [hT:mF P t e k] {k':Nat} {rows:List (List GV)} (hx:aM fr x=.sl k' rows):YG P (.call ⟨.builtin .len,#[x],#[t]⟩) fr Γ (.v (ii rows.length)):=fun B K β w l hI hF=>by
 have h:=hF.ev x;rw [hx] at h;generalize hv:ev l x=v at h
 cases h with
 | sl0 a c=>exact ⟨_,R.Jz hv,.v _⟩
 | sl b o c _ _ h _=>exact ⟨_,R.Jz hv,.v _⟩
theorem YG.sT {x:Operand} {t e:TypeId} {k:Nat} [hT:mF P t e k] {i n:Nat} (hx:aM fr x=.vec i n):YG P (.call ⟨.builtin .len,#[x],#[t]⟩) fr Γ (.v (ii n)):=fun B K β w l hI hF=>by
 have h:=hF.ev x;rw [hx] at h;generalize hv:ev l x=v at h
 cases h with | vec _ _ a c h=>exact ⟨_,R.Jz hv,.v _⟩
theorem YG.sS {x:Operand} {t e:TypeId} {k:Nat} [hT:mF P t e k] {a:Option Addr} {n c:Nat} (hx:aM fr x=.v (.slice a n c)):YG P (.call ⟨.builtin .len,#[x],#[t]⟩) fr Γ (.v (ii n)):=YG.v1 hx fun l w h=>R.Jz h
theorem YG.uS {x y:Operand} {t t':TypeId} {a b:ae} (hx:aM fr x=.v (sv a)) (hy:aM fr y=.v (sv b)):YG P (.binOp .eql t x y t') fr Γ (.v (.bool (a==b))):=YG.v2 hx hy fun l w h k=>R.uS h k
theorem YG.vk {x y:Operand} {t t':TypeId} {a b:ae} (hx:aM fr x=.v (sv a)) (hy:aM fr y=.v (sv b)):YG P (.binOp .neq t x y t') fr Γ (.v (.bool (!(a==b)))):=YG.v2 hx hy fun l w h k=>R.vk h k
theorem YG.qs {x y:Operand} {t:TypeId} [hT:o8 P t] {s:ae} {k:IntKind} {i:Nat} {c:UInt8} (hx:aM fr x=.v (sv s)) (hy:aM fr y=.v (.int k i)) (hc:s[i]?=some c):YG P (.index t x y) fr Γ (.v (.int .u8 c.toNat)):=YG.v2 hx hy fun l w h k=>R.qs h k hc
theorem YG.add {x y:Operand} {t t':TypeId} {a b:Int} (hx:aM fr x=.v (ii a)) (hy:aM fr y=.v (ii b)) (hb : -9223372036854775808<=a+b/\a+b<=9223372036854775807):YG P (.binOp .add t x y t') fr Γ (.v (ii (a+b))):=YG.v2 hx hy fun l w h k=>R.add h k hb.1 hb.2
theorem YG.qh {x y:Operand} {t t':TypeId} {a b:Nat} (hx:aM fr x=.v (ii a)) (hy:aM fr y=.v (ii b)) (hb:a+b<=9223372036854775807):YG P (.binOp .add t x y t') fr Γ (.v (ii ((a+b:Nat):Int))):=YG.v2 hx hy fun l w h k=>R.qh h k hb
theorem YG.o9 {x y:Operand} {t t':TypeId} {a:Nat} (hx:aM fr x=.v (ii a)) (hy:aM fr y=.v (ii 1)) (hb:a+1<=9223372036854775807):YG P (.binOp .add t x y t') fr Γ (.v (ii ((a+1:Nat):Int))):=YG.v2 hx hy fun l w h k=>R.o9 h k hb
theorem YG.sub {x y:Operand} {t t':TypeId} {a b:Int} (hx:aM fr x=.v (ii a)) (hy:aM fr y=.v (ii b)) (hb : -9223372036854775808<=a - b/\a - b<=9223372036854775807):YG P (.binOp .sub t x y t') fr Γ (.v (ii (a - b))):=YG.v2 hx hy fun l w h k=>R.sub h k hb.1 hb.2
theorem YG.mul {x y:Operand} {t t':TypeId} {a b:Int} (hx:aM fr x=.v (ii a)) (hy:aM fr y=.v (ii b)) (hb : -9223372036854775808<=a * b/\a * b<=9223372036854775807):YG P (.binOp .mul t x y t') fr Γ (.v (ii (a * b))):=YG.v2 hx hy fun l w h k=>R.mul h k hb.1 hb.2
theorem YG.cat {x y:Operand} {t t':TypeId} {a b:ae} (hx:aM fr x=.v (sv a)) (hy:aM fr y=.v (sv b)) (hb:a.length+b.length<=9223372036854775807):YG P (.binOp .add t x y t') fr Γ (.v (sv (a++b))):=YG.v2 hx hy fun l w h k=>R.cat h k hb
theorem YG.tl {x:Operand} {t:TypeId} [hT:o8 P t] {s:ae} {lo hi:Operand} {k k':IntKind} {i j:Nat} (hx:aM fr x=.v (sv s)) (ig:aM fr lo=.v (.int k i)) (AM:aM fr hi=.v (.int k' j)) (hb:i<=j/\j<=s.length):YG P (.slice t x (some lo) (some hi) none) fr Γ (.v (sv ((s.take j).drop i))) :=
 fun B K β w l hI hF=>⟨_,R.OT (hF.gU hx) ⟨k,hF.gU ig⟩ ⟨k',hF.gU AM⟩ hb.1 hb.2,.v _⟩
theorem YG.tj {x:Operand} {t:TypeId} [hT:o8 P t] {s:ae} {lo:Operand} {k:IntKind} {i:Nat} (hx:aM fr x=.v (sv s)) (ig:aM fr lo=.v (.int k i)) (hb:i<=s.length):YG P (.slice t x (some lo) none none) fr Γ (.v (sv (s.drop i))) :=
 fun B K β w l hI hF=>⟨_,by
  have:=R.OT (P:=P) (w:=w) (l:=l) (t:=t) (lo:=some lo) (hi:=none) (i:=i) (j:=s.length) (hF.gU hx) ⟨k,hF.gU ig⟩ rfl hb (Nat.le_refl _);rw [List.take_length] at this
  exact this,.v _⟩
theorem YG.th {x:Operand} {t:TypeId} [hT:o8 P t] {s:ae} {hi:Operand} {k:IntKind} {j:Nat} (hx:aM fr x=.v (sv s)) (AM:aM fr hi=.v (.int k j)) (hb:j<=s.length):YG P (.slice t x none (some hi) none) fr Γ (.v (sv (s.take j))) :=
 fun B K β w l hI hF=>⟨_,R.OT (P:=P) (w:=w) (l:=l) (t:=t) (lo:=none) (hi:=some hi) (i:=0) (j:=j) (hF.gU hx) rfl ⟨k,hF.gU AM⟩ (Nat.zero_le _) hb,.v _⟩
theorem YG.ext {x:Operand} {i:Nat} {cs:List GV} {g:GV} (hx:aM fr x=.tup cs) (hg:cs[i]?=some g):YG P (.extract x i) fr Γ g:=fun B K β w l hI hF=>by
 have h:=hF.ev x;rw [hx] at h;generalize hv:ev l x=v at h
 cases h with
 | tup vs _ hl h =>
  have hi:i < vs.length:=by rw [hl];exact (List.getElem?_eq_some_iff.1 hg).1
  exact ⟨vs[i],R.extract hv (by simp [hi]),h i _ g (by simp [hi]) hg⟩
theorem YG.oA {x y:Operand} {t e:TypeId} {k:Nat} [hT:mF P t e k] {rows:List (List GV)} {kk:IntKind} {i:Nat} {r:List GV} (hx:aM fr x=.sl k rows) (hy:aM fr y=.v (.int kk i)) (hr:rows[i]?=some r):YG P (.indexAddr t x y) fr Γ (.box r 0):=fun B K β w l hI hF=>by
 have h:=hF.ev x;rw [hx] at h;have hi:=(List.getElem?_eq_some_iff.1 hr).1;generalize hv:ev l x=v at h
 cases h with
 | sl0 a c=>simp at hi
 | sl b o c _ _ h _=>exact ⟨_,R.qp hv (hF.gU hy) hi,.box b (o+i * k) 0 r (h i r hr).2⟩
theorem YG.sB {x:Operand} {s:TypeId} {f off k:Nat} {agg:Bool} [hT:dn P s f off k agg] {i o:Nat} (hx:aM fr x=.loc i o):YG P (.fieldAddr s x f) fr Γ (.loc i (o+off)):=fun B K β w l hI hF=>by
 have h:=hF.ev x;rw [hx] at h;generalize hv:ev l x=v at h
 cases h with | loc _ _ b hb=>exact ⟨_,R.NL hv,.loc i _ b hb⟩
theorem YG.sy {x:Operand} {s:TypeId} {f off k:Nat} {agg:Bool} [hT:dn P s f off k agg] {cs:List GV} {o:Nat} (hx:aM fr x=.box cs o):YG P (.fieldAddr s x f) fr Γ (.box cs (o+off)):=fun B K β w l hI hF=>by
 have h:=hF.ev x;rw [hx] at h;generalize hv:ev l x=v at h
 cases h with | box b o' _ _ hb=>exact ⟨_,R.NL hv,by rw [Nat.add_assoc];exact .box b o' _ cs hb⟩
theorem YG.xN {x:Operand} {t:TypeId} [hT:Ty P t false 1] {i o:Nat} {E:TypeId} {cs:List GV} {g:GV} (hx:aM fr x=.loc i o) (br:Γ[i]?=some (.box E cs)) (hg:cs[o]?=some g):YG P (.load t x) fr Γ g:=fun B K β w l hI hF=>by
 have h:=hF.ev x;rw [hx] at h;generalize hv:ev l x=v at h
 cases h with
 | loc _ _ b hb =>
  obtain ⟨b',vs,h1,h2,h3,h4⟩:=hI.ob i _ br;rw [hb] at h1;cases h1;obtain ⟨u,hu,hr⟩:=h3.at hg;exact ⟨u,R.ld hv (vN h2 (by simpa using hu)),hr⟩
theorem YG.xL {x:Operand} {t:TypeId} [hT:Ty P t false 1] {cs:List GV} {o:Nat} {g:GV} (hx:aM fr x=.box cs o) (hg:cs[o]?=some g):YG P (.load t x) fr Γ g:=fun B K β w l hI hF=>by
 have h:=hF.ev x;rw [hx] at h;generalize hv:ev l x=v at h
 cases h with
 | box b o' _ _ hb =>
  obtain ⟨hp,u,hu,hr⟩:=hI.fz _ _ _ (hb o g hg);exact ⟨u,R.ld hv hu,hr.pc hp⟩
theorem s9 {k:Nat} {rows:List (List GV)} (hk:gi k rows) {i j:Nat} {r:List GV} {g:GV} (hr:rows[i]?=some r) (hg:r[j]?=some g):rows.flatten[i * k+j]?=some g:=by
 induction rows generalizing i with
 | nil=>simp at hr
 | cons a rows ih =>
  have ha:a.length=k:=(hk a (mem_cons_self)).1
  cases i with
  | zero =>
   cases hr;have hj:=(List.getElem?_eq_some_iff.1 hg).1;rw [Nat.zero_mul,Nat.zero_add,flatten_cons,getElem?_append_left hj];exact hg
  | succ i =>
   rw [flatten_cons,List.getElem?_append_right (by rw [ha,Nat.succ_mul];omega),ha];rw [show (i+1) * k+j - k=i * k+j by rw [Nat.succ_mul];omega];exact ih (fun r hr=>hk r (mem_cons_of_mem _ hr)) (by simpa using hr)
theorem YG.sR {x:Operand} {t:TypeId} {k:Nat} [hT:Ty P t true k] {i o:Nat} {E:TypeId} {cs gs:List GV} (hx:aM fr x=.loc i o) (br:Γ[i]?=some (.box E cs)) (hg:(cs.drop o).take k=gs) (hk:gs.length=k):YG P (.load t x) fr Γ (.agg gs):=fun B K β w l hI hF=>by
 have h:=hF.ev x;rw [hx] at h;generalize hv:ev l x=v at h
 cases h with
 | loc _ _ b hb =>
  obtain ⟨b',vs,h1,h2,h3,h4⟩:=hI.ob i _ br;rw [hb] at h1;cases h1;have h5:=(h3.drop o).take k;rw [hg] at h5;refine ⟨.agg ((vs.drop o).take k).toArray,R.Wg hv (by rw [h5.1,hk]) (fun j v hj=>?_),.agg _ _ h5.1 h5.2⟩;rw [getElem?_take] at hj;split at hj
  ·rw [getElem?_drop] at hj;exact vN h2 (by simpa using hj)
  ·cases hj
theorem vP {K:Fz} {β:Bt} {H:Array Obj} {b:Nat}:∀ (gs:List GV) (o:Nat),(∀ (j:Nat) g,gs[j]?=some g->∃ v,fF H b (o+j)=some v/\Rel K β v g)->∃ vs:List Value,aU K β vs gs/\∀ (j:Nat) v,vs[j]?=some v->fF H b (o+j)=some v
 | [],o,_=>⟨[],.nil,fun j v h=>by simp at h⟩
 | g::gs,o,h=>by
  obtain ⟨v,hv,hr⟩:=h 0 g rfl;obtain ⟨vs,h1,h2⟩:=vP gs (o+1) (fun j g' hg=>by rw [show o+1+j=o+(j+1) by omega];exact h (j+1) g' hg);refine ⟨v::vs,.cons hr h1,fun j u hj=>?_⟩
  cases j with
  | zero=>cases hj;exact hv
  | succ j=>rw [show o+(j+1)=o+1+j by omega];exact h2 j u hj
theorem YG.sQ {x:Operand} {t:TypeId} {k:Nat} [hT:Ty P t true k] {cs gs:List GV} {o:Nat} (hx:aM fr x=.box cs o) (hg:(cs.drop o).take k=gs) (hk:gs.length=k):YG P (.load t x) fr Γ (.agg gs):=fun B K β w l hI hF=>by
 have h:=hF.ev x;rw [hx] at h;generalize hv:ev l x=v at h
 cases h with
 | box b o' _ _ hb =>
  obtain ⟨vs,h1,h2⟩:=vP (K:=K) (β:=β) (H:=w.heap) (b:=b) gs (o'+o) (fun j g hj=>by
   have lI:cs[o+j]?=some g:=by
    rw [<-hg,getElem?_take] at hj;split at hj
    ·rw [getElem?_drop] at hj;exact hj
    ·cases hj
   obtain ⟨hp,u,hu,hr⟩:=hI.fz _ _ _ (hb (o+j) g lI)
   exact ⟨u,by rw [Nat.add_assoc];exact hu,hr.pc hp⟩)
  exact ⟨.agg vs.toArray,R.Wg hv (by rw [h1.1,hk]) h2,.agg _ _ h1.1 h1.2⟩
def ma:GV->Option (List GV)
 | .v x=>match JK x with
  | true=>some [.v x]
  | false=>none
 | .agg cs=>some cs
 | .any=>none
 | .tup _=>none
 | .vp _ _ _ _ _=>none
 | .sl k rows=>some [.sl k rows]
 | .box cs o=>some [.box cs o]
 | .loc i o=>some [.loc i o]
 | .vec i n=>some [.vec i n]
 | .arr i o n=>some [.arr i o n]
 | .fn f a c=>some [.fn f a c]
def nJ:List GV->Nat->List GV->List GV
 | cs,_,[]=>cs
 | cs,o,v::r=>nJ (bg cs o v) (o+1) r
def yo (pl:Nat->Option (Nat × Nat)):List GV->List (Nat × GV)->Option (List GV)
 | cs,[]=>some cs
 | cs,(i,g)::r=>match pl i with
  | none=>none
  | some (o,k)=>match ma g with
   | none=>none
   | some gs=>if gs.length≠k || decide (o+gs.length > cs.length) then none else yo pl (nJ cs o gs) r
theorem Rel.cells {K:Fz} {β:Bt} {x:Value} {g:GV} {gs:List GV} (h:Rel K β x g) (hg:ma g=some gs):∃ vs:List Value,x.cells=vs.toArray/\aU K β vs gs:=by
 have one:∀ {x:Value} {g:GV},Rel K β x g->x.cells=#[x]->∃ vs:List Value,x.cells=vs.toArray/\aU K β vs [g]:=fun hr hc=>⟨[_],hc,.cons hr .nil⟩
 cases h with
 | v x =>
  simp only [ma] at hg;split at hg
  ·rename_i ho;cases hg;exact one (.v _) (wC ho).1
  ·cases hg
 | any x=>cases hg
 | agg vs cs hl h=>cases hg;exact ⟨vs,rfl,hl,h⟩
 | tup vs cs hl h=>cases hg
 | sl0 a c k=>cases hg;exact one (.sl0 a c k) rfl
 | sl b o c k rows h hc=>cases hg;exact one (.sl b o c k rows h hc) rfl
 | box b o' o cs h=>cases hg;exact one (.box b o' o cs h) rfl
 | loc i o b h=>cases hg;exact one (.loc i o b h) rfl
 | vec i n a c h=>cases hg;exact one (.vec i n a c h) rfl
 | vp i n k idx off x h=>cases hg
 | arr i o n b c h=>cases hg;exact one (.arr i o n b c h) rfl
 | fn f xs ys first cap hl jh h h'=>cases hg;exact one (.fn f xs ys first cap hl jh h h') rfl
def lZ:List GV->Bool
 | []=>true
 | g::gs=>g.one&&lZ gs
def rv:List GV->Bool
 | []=>true
 | g::gs=>g.pc&&rv gs
theorem mo {gs:List GV} (h:rv gs=true):∀ g∈gs,g.pc=true:=by
 induction gs with
 | nil=>intro g hg;cases hg
 | cons x gs ih =>
  simp only [rv,Bool.and_eq_true] at h;intro g hg
  rcases List.mem_cons.1 hg with rfl | hg
  ·exact h.1
  ·exact ih h.2 g hg
theorem aU.lr {K:Fz} {β:Bt} {vs:List Value} {gs:List GV} (h:aU K β vs gs) (ho:lZ gs=true):lr vs=true:=by
 induction gs generalizing vs with
 | nil=>have:vs=[]:=eq_nil_of_length_eq_zero h.1;subst this;rfl
 | cons g gs ih =>
  cases vs with
  | nil=>have:=h.1;simp at this
  | cons v vs =>
   simp only [lZ,Bool.and_eq_true] at ho;obtain ⟨h1,h2⟩:=h.ou;have h3:=(wC (h1.one ho.1)).2;have h4:=ih h2 ho.2;simp only [Xw.lr,all_cons,Bool.and_eq_true] at h4 |-;exact ⟨h3,h4⟩
end
end Go.Xg
namespace Go.Xg
open Go.RowKit Go.Xw
theorem aU.gI {K:Fz} {β:Bt} {us:List Value} {hs:List GV} (k:aU K β us hs):∀ {vs:List Value} {gs:List GV} (o:Nat),aU K β vs gs->aU K β (gI vs o us) (nJ gs o hs):=by
 have hu:∀ {vs:List Value} {gs:List GV} (o:Nat) {v:Value} {g:GV},Rel K β v g->aU K β vs gs->aU K β (eM vs o v) (bg gs o g):=by
  intro vs
  induction vs with
  | nil =>
   intro gs o v g hv h;have:gs=[]:=eq_nil_of_length_eq_zero h.1.symm;subst this;exact .nil
  | cons x vs ih =>
   intro gs o v g hv h
   cases gs with
   | nil=>have:=h.1;simp at this
   | cons y gs =>
    obtain ⟨h1,h2⟩:=h.ou
    cases o with
    | zero=>exact .cons hv h2
    | succ o=>exact .cons h1 (ih o hv h2)
 induction us generalizing hs with
 | nil =>
  intro vs gs o h;have:hs=[]:=eq_nil_of_length_eq_zero k.1.symm;subst this;exact h
 | cons u us ih =>
  intro vs gs o h
  cases hs with
  | nil=>have:=k.1;simp at this
  | cons g hs =>
   obtain ⟨h1,h2⟩:=k.ou;exact ih h2 (o+1) (hu o h1 h)
theorem vW {K:Fz} {β:Bt} {pl:Nat->Option (Nat × Nat)} {l:List Value} {fr:List GV} (hF:FR K β fr l):∀ (parts:List (Nat × Operand)) (vs:List Value) (gs cs:List GV),aU K β vs gs ->
  yo pl gs (parts.map fun x=>(x.1,aM fr x.2))=some cs->∃ us,ph pl vs (parts.map fun x=>(x.1,ev l x.2))=some us/\aU K β us cs
 | [],vs,gs,cs,h,hf=>by cases hf;exact ⟨vs,rfl,h⟩
 | (i,x)::r,vs,gs,cs,h,hf=>by
  simp only [List.map_cons,yo] at hf;simp only [List.map_cons,ph]
  cases hp:pl i with
  | none=>rw [hp] at hf;cases hf
  | some y =>
   obtain ⟨o,k⟩:=y;rw [hp] at hf;simp only at hf |-
   cases hg:ma (aM fr x) with
   | none=>rw [hg] at hf;cases hf
   | some hs =>
    rw [hg] at hf;simp only at hf;obtain ⟨us,jr,kx⟩:=(hF.ev x).cells hg
    have b6:(ev l x).cells.size=hs.length:=by rw [jr];simpa using kx.1
    rw [b6,h.1];split at hf
    ·cases hf
    ·rename_i hc;rw [if_neg hc]
     have ko:(ev l x).cells.toList=us:=by rw [jr]
     rw [ko];exact vW hF r _ _ cs (kx.gI o h) hf
section
variable {P:Program} {m:Nat} {Q:dR} {fr:List GV} {Γ:List Ob} {ops:Array Oper} {rest:List Oper} {d:Option Tmp} {op:Op} {ty:TypeId} {pos:String} {af:Array Edge}
def ji (z:List Value):List GV:=z.map .v
theorem YG.build {t:TypeId} {pl:List (Nat × Nat)} {z:List Value} [hT:tE P t pl z] {parts:List (Nat × Operand)} {cs:List GV} (hf:yo (fun i=>pl[i]?) (ji z) (parts.map fun x=>(x.1,aM fr x.2))=some cs) :
  YG P (.build t parts.toArray) fr Γ (.agg cs):=fun B K β w l hI hF=>by
 obtain ⟨us,h1,h2⟩:=vW hF parts z _ cs aU.self hf;exact ⟨_,R.build h1,.agg us cs h2.1 h2.2⟩
theorem mc {K:Fz} {β:Bt} {l:List Value} {t:Nat} (h:FR K β fr l) (ht:ju fr t=true):ju l t=true:=by
 induction h generalizing t with
 | nil=>cases ht
 | cons _ _ ih=>cases t with | zero=>rfl | succ t=>exact ih ht
theorem r6 {l:List Value} {t:Nat} (h:ju l t=true) (u:Value):nth (eM l t u) t=u:=by
 induction l generalizing t with
 | nil=>cases h
 | cons x l ih=>cases t with | zero=>rfl | succ t=>exact ih h
theorem nM {l:List Value} {t t':Nat} (h:t'≠t) (u:Value):nth (eM l t u) t'=nth l t':=by
 induction l generalizing t t' with
 | nil=>rfl
 | cons x l ih=>cases t with
  | zero=>cases t' with | zero=>exact absurd rfl h | succ t'=>rfl
  | succ t=>cases t' with | zero=>rfl | succ t'=>exact ih (fun e=>h (by rw [e]))
theorem GL.alloc {t:TypeId} {z:Value} {cs:List GV} [hT:qS P t z] (hz:ji z.cells.toList=cs) (h:GL P m ops Q rest (bf fr d (.loc Γ.length 0)) (Γ++[.box t cs])):GL P m ops Q (⟨d,.alloc t,ty,pos,af,none⟩::rest) fr Γ:=fun B K β w l hm hI hF=>by
 refine WL.alloc (z:=z) fun b w' hn=>?_
 have bc:=hI.add (vs:=z.cells.toList) (cs:=cs) (E:=t) (by simpa using hn) (by rw [<-hz];exact aU.self);exact h B K _ w' _ hm bc ((hF.mono (cw.refl K) (gJ (by rw [hI.out _ (Nat.le_refl _)];trivial))).put d (.loc _ 0 b bh))
theorem GL.box {t:TypeId} {x:Operand} {cs:List GV} (hx:ma (aM fr x)=some cs) (h:GL P m ops Q rest (bf fr d (.loc Γ.length 0)) (Γ++[.box t cs])):GL P m ops Q (⟨d,.box t x,ty,pos,af,none⟩::rest) fr Γ:=fun B K β w l hm hI hF=>by
 obtain ⟨vs,h1,h2⟩:=(hF.ev x).cells hx
 refine WL.box rfl fun b w' hn=>?_
 rw [h1] at hn;have bc:=hI.add hn h2;exact h B K _ w' _ hm bc ((hF.mono (cw.refl K) (gJ (by rw [hI.out _ (Nat.le_refl _)];trivial))).put d (.loc _ 0 b bh))
def oset:List Ob->Nat->Ob->List Ob
 | [],_,_=>[]
 | _::l,0,x=>x::l
 | y::l,n+1,x=>y::oset l n x
theorem aV (l:List Ob) (i:Nat) (x:Ob):oset l i x=l.set i x:=by
 induction l generalizing i with
 | nil=>rfl
 | cons y l ih=>cases i with | zero=>rfl | succ i=>simp [oset,ih]
theorem ud:∀ (us:List Value) (vs:List Value) (o:Nat),uA vs.toArray o us=(gI vs o us).toArray
 | [],vs,o=>rfl
 | u::us,vs,o=>by rw [uA,gI,x6];exact ud us _ _
theorem GL.st {x y:Operand} {t:TypeId} {agg:Bool} {k:Nat} [hT:Ty P t agg k] {i o:Nat} {E:TypeId} {cs gs:List GV} (hx:aM fr x=.loc i o) (br:Γ[i]?=some (.box E cs)) (hy:ma (aM fr y)=some gs) (hk:gs.length=k) (h1:lZ gs=true)
  (hl:Nat.ble (o+k) cs.length=true) (h:GL P m ops Q rest (bf fr d (.v undef)) (oset Γ i (.box E (nJ cs o gs)))):GL P m ops Q (⟨d,.store t x y,ty,pos,af,none⟩::rest) fr Γ:=fun B K β w l hm hI hF=>by
 have hr:=hF.ev x;rw [hx] at hr;generalize hv:ev l x=v at hr
 cases hr with
 | loc _ _ b hb =>
  obtain ⟨b',vs,h2,h3,h4,h5⟩:=hI.ob i _ br;rw [hb] at h2;cases h2;obtain ⟨us,jr,kx⟩:=(hF.ev y).cells hy
  have jh:o+k<=cs.length:=by simpa using hl
  refine WL.st (t:=t) hv rfl h3 (by rw [jr];simpa [hk] using kx.1) (by rw [size_toArray,h4.1];exact jh) (by rw [jr];simpa using kx.lr h1) fun w' hs=>?_
  rw [jr,List.toList_toArray,ud] at hs;have bc:=hI.store br hb hs (kx.gI o h4);rw [<-aV] at bc;exact h B K β w' _ hm bc (hF.put d (.v _))
def chunk:Nat->Nat->List GV->List (List GV)
 | 0,_,_=>[]
 | n+1,k,gs=>gs.take k::chunk n k (gs.drop k)
theorem vQ {k:Nat}:∀ (n:Nat) (gs:List GV),gs.length=n * k->(chunk n k gs).flatten=gs/\(chunk n k gs).length=n/\∀ r∈chunk n k gs,r.length=k/\∀ g∈r,g∈gs
 | 0,gs,h=>by
  have:gs=[]:=eq_nil_of_length_eq_zero (by simpa using h);subst this;exact ⟨rfl,rfl,fun r hr=>by cases hr⟩
 | n+1,gs,h=>by
  have hk:k<=gs.length:=by rw [h,Nat.succ_mul];omega
  obtain ⟨h1,h2,h3⟩:=vQ (k:=k) n (gs.drop k) (by rw [List.length_drop,h,Nat.succ_mul];omega);refine ⟨by rw [chunk,flatten_cons,h1,List.take_append_drop],by rw [chunk,length_cons,h2],fun r hr=>?_⟩;rw [chunk] at hr
  rcases List.mem_cons.1 hr with rfl | hr
  ·exact ⟨by simp [hk],fun g hg=>List.mem_of_mem_take hg⟩
  ·obtain ⟨h4,h5⟩:=h3 r hr;exact ⟨h4,fun g hg=>List.mem_of_mem_drop (h5 g hg)⟩
def zs:Nat->List Value->List GV
 | 0,_=>[]
 | n+1,z=>ji z++zs n z
theorem F6 {K:Fz} {β:Bt} {n k:Nat} {z:List Value} (hz:z.length=k) (hk:0 < k):aU K β ((List.range (n * k)).map fun j=>z.getD (j % k) undef) (zs n z):=by
 induction n with
 | zero=>simpa [zs] using aU.nil
 | succ n ih =>
  have he:(List.range ((n+1) * k)).map (fun j=>z.getD (j % k) undef)=(List.range k).map (fun j=>z.getD (j % k) undef)++(List.range (n * k)).map fun j=>z.getD (j % k) undef:=by
   rw [Nat.succ_mul,Nat.add_comm,List.range_add,List.map_append,List.map_map]
   congr 1
   apply List.map_congr_left;intro j _;simp
  rw [he,zs];refine aU.app ?_ ih
  have:(List.range k).map (fun j=>z.getD (j % k) undef)=z:=by
   apply List.ext_getElem
   ·simp [hz]
   ·intro j h1 h2;simp at h1;simp [Nat.mod_eq_of_lt h1,List.getElem?_eq_getElem h2]
  rw [this];exact aU.self
theorem GL.Wh {t e:TypeId} {k:Nat} {z:List Value} [hT:o7 P t e k z] {n:Nat} {parts:List (Nat × Operand)} {cs:List GV} (hn:Nat.ble (n * k) 16777216=true) (hf:yo (fun i=>some (i * k,k)) (zs n z) (parts.map fun x=>(x.1,aM fr x.2))=some cs)
  (hl:Nat.beq cs.length (n * k)=true) (hp:rv cs=true) (h:GL P m ops Q rest (bf fr d (.sl k (chunk n k cs))) Γ):GL P m ops Q (⟨d,.buildSlice t n parts.toArray,ty,pos,af,none⟩::rest) fr Γ:=fun B K β w l hm hI hF=>by
 obtain ⟨us,h1,h2⟩:=vW hF parts _ _ cs (F6 (n:=n) hT.zl hT.pos) hf
 have jh:cs.length=n * k:=by simpa using hl
 refine WL.B7 (by simpa using hn) h1 fun b w' rK=>?_
 obtain ⟨hle,bc⟩:=hI.tM rK h2 (mo hp);obtain ⟨c1,c2,c3⟩:=vQ n cs jh;refine h B _ β w' _ hm bc ((hF.mono hle (de.refl β)).put d ?_)
 have jO:gi k (chunk n k cs):=fun r hr=>⟨(c3 r hr).1,fun g hg=>mo hp g ((c3 r hr).2 g hg)⟩
 have:=Rel.sl (K:=kF K b cs) (β:=β) b 0 n k (chunk n k cs) (fun i r hr=>⟨(jO r (mem_of_getElem? hr)).1,fun j g hg=>by
  rw [Nat.zero_add];exact uI (by have:=s9 jO hr hg;rw [c1] at this;exact this)⟩) (by rw [c2];exact Nat.le_refl _)
 rw [c2] at this;exact this
theorem GL.Wi {t e:TypeId} {k:Nat} {z:List Value} [hT:o7 P t e k z] {n:Nat} {parts:List (Nat × Operand)} {cs:List GV} (hn:Nat.ble (n * k) 16777216=true) (hf:yo (fun i=>some (i * k,k)) (zs n z) (parts.map fun x=>(x.1,aM fr x.2))=some cs)
  (hl:Nat.beq cs.length (n * k)=true) (hp:rv cs=true) (h:GL P m ops Q rest (bf fr d (.vec Γ.length n)) (Γ++[.vec e k 0 (chunk n k cs)])):GL P m ops Q (⟨d,.buildSlice t n parts.toArray,ty,pos,af,none⟩::rest) fr Γ:=fun B K β w l hm hI hF=>by
 obtain ⟨us,h1,h2⟩:=vW hF parts _ _ cs (F6 (n:=n) hT.zl hT.pos) hf
 have jh:cs.length=n * k:=by simpa using hl
 have AQ:n * k<=16777216:=by simpa using hn
 have bH:n<=16777216:=Nat.le_trans (Nat.le_mul_of_pos_right n hT.pos) AQ
 refine WL.B7 AQ h1 fun b w' rK=>?_
 obtain ⟨c1,c2,c3⟩:=vQ n cs jh
 have jO:gi k (chunk n k cs):=fun r hr=>⟨(c3 r hr).1,fun g hg=>mo hp g ((c3 r hr).2 g hg)⟩
 have how:=gQ.TG rK (n:=n) (k:=k) (by rw [h2.1,jh]) (by simp only [maxLen];omega);have bc:=hI.Bz (x:=.slice (some ⟨b,0,none⟩) n n) (xs:=us) (rows:=chunk n k cs) rK.ext (by rw [c2];exact how.base (Nat.zero_le _)) (fun b' aY=>by cases aY;rw [rK.fresh];exact Nat.le_refl _) (by rw [c1];exact h2) jO;refine h B K _ w' _ hm bc ((hF.mono (cw.refl K) (gJ (by rw [hI.out _ (Nat.le_refl _)];trivial))).put d ?_);exact .vec _ n _ n ⟨_,_,bh,by rw [c2];exact Nat.le_refl _,fun _=>rfl⟩
def OK (x:Operand) (t:Tmp):Bool :=
 match x with
 | .tmp t'=>!Nat.beq t' t
 | _=>true
theorem Sb {l:List Value} {x:Operand} {t:Tmp} (h:OK x t=true) (u:Value):ev (put l (some t) u) x=ev l x:=by
 cases x with
 | tmp t'=>exact nM (fun e=>by subst e;simp [OK] at h) u
 | _=>rfl
theorem GL.push {x s:Operand} {t e k gS:Nat} {z:List Value} [hT:n7 P t e k gS] [hZ:o7 P t e k z] {d1:Tmp} {MV:TypeId} {Fp:String} {Kl:Array Edge} {i n fz:Nat} {rows:List (List GV)} {gs:List GV}
  (hx:ma (aM fr x)=some gs) (hk:Nat.beq gs.length k=true) (h1:lZ gs=true) (hp:rv gs=true) (hs:aM fr s=.vec i n) (Tb:OK s d1=true) (hd:ju fr d1=true) (br:Γ[i]?=some (.vec e k fz rows)) (hn:rows.length=n)
  (hb:(n+1<=9223372036854775807/\(n+1) * gS<=140737488355328)/\k<=16777216)
  (h:GL P m ops Q rest (bf (bf fr (some d1) .any) d (.vec i (n+1))) (oset Γ i (.vec e k fz (rows++[gs])))) :
  GL P m ops Q (⟨some d1,.buildSlice t 1 #[(0,x)],MV,Fp,Kl,none⟩::⟨d,.call ⟨.builtin .append,#[s,.tmp d1],#[t,t]⟩,ty,pos,af,none⟩::rest) fr Γ:=fun B K β w l hm hI hF=>by
 subst hn;obtain ⟨us,jr,kx⟩:=(hF.ev x).cells hx;obtain ⟨h0,xs,o1,o2,o3,o4,o5,o6⟩:=hI.ob i _ br;have sK:=hF.ev s;rw [hs] at sK
 have qc:ev l s=h0:=by
  generalize hv:ev l s=v at sK
  cases sK with
  | vec _ _ a c hh =>
   obtain ⟨h',m',e1,e2,e3⟩:=hh;rw [o1] at e1;cases e1;exact e3 rfl
 have Lv:=mc hF hd
 have ln:gs.length=k:=by simpa using hk
 refine WL.push (base:=0) (v:=h0) (vs:=us) (val:=ev l x) (xs:=xs) (n:=rows.length) rfl (fun u=>by rw [Sb Tb];exact qc) (fun u=>r6 Lv u) jr (by rw [kx.1,ln]) (kx.lr h1) o2 hb.1.1 hb.1.2 hb.2 (Nat.zero_le _) ?_;intro u v' w' how gC tQ vb
 obtain ⟨K',hK,qd,bc⟩:=hI.grow br o1 ⟨o2,o3⟩ (news:=[gs]) (ns:=us) how gC tQ (by simpa using kx) (fun r hr=>by simp at hr;subst hr;exact ⟨ln,mo hp⟩) (by simp) (fun b aY o v ho hv=>by
  rcases vb with h7 | h7
  ·exact h7.c hv (fun h=>h)
  ·have ig:o < xs.length:=by rw [o2.1];exact Nat.lt_of_lt_of_le ho (Nat.mul_le_mul_right k o6)
   obtain ⟨b2,c2,oQ,_,_,jB⟩:=o2.cells.2 (by intro h0;rw [h0] at ig;simp at ig)
   have eG:b2=b:=by rw [oQ] at aY;cases aY;rfl
   subst eG;have CY:=jB o xs[o] (by simp [ig]);rw [eY,hv] at CY;cases CY;obtain ⟨b3,c3,Lx,_,_,Lt⟩:=how.cells.2 (by intro h0;have:xs=[]:=(List.append_eq_nil_iff.1 h0).1;rw [this] at ig;simp at ig)
   have xp:b3=b2:=by rw [Lx,aY] at h7;cases h7;rfl
   subst xp
   rw [<-eY];exact Lt o _ (by rw [getElem?_append_left ig];simp [ig]))
 rw [<-aV] at bc;refine h B K' _ w' _ hm bc (((hF.mono hK qd).put (some d1) (.any u)).put d ?_);obtain ⟨a,c,rfl⟩:=how.shape;exact .vec i _ a c ⟨_,_,bh,by simp,fun _=>rfl⟩
theorem Wk.B9 {t:Nat} {a:Option Addr} {c:Nat} (E k:Nat) (ht:cq fr t=.v (.slice none 0 0)):Wk m fr Γ (bg fr t (.vec Γ.length 0)) (Γ++[.vec E k 0 []]):=fun B K β w l hm hI hF=>by
 have bV:β Γ.length=.no:=hI.out _ (Nat.le_refl _);have bc:=hI.Bz (w':=w) (E:=E) (k:=k) (x:=.slice none 0 0) (xs:=[]) (rows:=[]) (Ext.refl w) (gQ.nil w 0 E k) (fun b hb=>by cases hb) aU.nil (fun r hr=>by cases hr);refine ⟨K,_,bc,?_⟩;have uZ:=hF.mono (cw.refl K) (gJ (i:=Γ.length) (x:=.gr (.slice none 0 0) ([]:List (List GV)).length) (by rw [bV];trivial));have hv:nth l t=.slice none 0 0:=Rel.eg (by rw [<-ht];exact hF.nth t)
 have hu:∀ (l:List Value) (t:Nat) (v:Value),nth l t=v->(∃ a n c,v=.slice a n c)->eM l t v=l:=by
  intro l
  induction l with
  | nil=>intro t v _ _;rfl
  | cons x l ih =>
   intro t v h1 h2
   cases t with
   | zero=>simp only [nth] at h1;subst h1;rfl
   | succ t=>simp only [nth] at h1;simp only [eM];rw [ih t v h1 h2]
 have:=uZ.eM t (v:=.slice none 0 0) (g:=.vec Γ.length 0) (.vec _ 0 none 0 ⟨_,_,bh,Nat.le_refl _,fun _=>rfl⟩);rw [hu l t _ hv ⟨_,_,_,rfl⟩] at this;exact this
theorem Ai {l:List Value} {t:Nat} (h:ju l t=true):eM l t (nth l t)=l:=by
 induction l generalizing t with
 | nil=>cases h
 | cons x l ih=>cases t with | zero=>rfl | succ t=>simp only [eM,nth];rw [ih h]
theorem Wk.hY {t i n E k fz:Nat} {rows:List (List GV)} (ht:cq fr t=.vec i n) (gW:ju fr t=true) (br:Γ[i]?=some (.vec E k fz rows)) (hn:rows.length=n):Wk m fr Γ (bg fr t (.sl k rows)) (oset Γ i (.vec E k n rows)):=fun B K β w l hm hI hF=>by
 subst hn;obtain ⟨h0,xs,o1,o2,o3,o4,o5,o6⟩:=hI.ob i _ br;obtain ⟨K',hK,wR,bc⟩:=hI.hY br;rw [<-aV] at bc;refine ⟨K',β,bc,?_⟩;have hr:=hF.nth t;rw [ht] at hr
 have eO:Rel K' β (nth l t) (.sl k rows):=by
  generalize nth l t=v at hr
  cases hr with
  | vec _ _ a c hh =>
   obtain ⟨h',m',e1,e2,e3⟩:=hh;rw [o1] at e1;cases e1;have e4:=e3 rfl
   rcases o2.2 with ⟨e5,e6⟩ | ⟨g,cap,cu,e5,_,_,p7,_⟩
   ·have:rows=[]:=eq_nil_of_length_eq_zero e6;subst this;exact .sl0 _ _ _
   ·rw [e5] at e4;cases e4;refine .sl g 0 _ k rows (fun j r hr=>⟨(o4 r (mem_of_getElem? hr)).1,fun q g' lj=>?_⟩) p7;rw [Nat.zero_add];exact wR _ g o1 (by rw [e5];rfl) _ g' (s9 o4 hr lj)
 have:=(hF.mono hK (de.refl β)).eM t eO;rw [Ai (mc hF gW)] at this;exact this
def lS (i:Nat) (cs:List GV):GV->GV
 | .loc j o=>match Nat.beq j i with
  | true=>.box cs o
  | false=>.loc j o
 | g=>match g.ok (other i) with
  | true=>g
  | false=>.any
theorem Rel.X2 {K K':Fz} {β:Bt} {i b:Nat} {cs:List GV} {x:Value} {g:GV} (h:Rel K β x g) (hk:cw K K') (hb:β i=.fix b) (hc:∀ (j:Nat) g,cs[j]?=some g->K' b j=some g):Rel K' (gH (other i) β) x (lS i cs g):=by
 have gen:∀ {g:GV},Rel K β x g->Rel K' (gH (other i) β) x (match g.ok (other i) with | true=>g | false=>.any):=by
  intro g h;split
  ·rename_i ho;exact (h.mono hk (de.refl β)).res ho
  ·exact .any _
 cases g with
 | loc j o =>
  simp only [lS];split
  ·rename_i hj
   have hj:j=i:=by simpa using hj
   subst hj
   cases h with
   | loc _ _ b' aY =>
    rw [hb] at aY;cases aY;have:=Rel.box (K:=K') (β:=gH (other j) β) b 0 o cs (fun q g hg=>by rw [Nat.zero_add];exact hc q g hg);rw [Nat.zero_add] at this;exact this
  ·rename_i hj
   have hj:j≠i:=by intro e;subst e;simp at hj
   exact (h.mono hk (de.refl β)).res (vn hj)
 | _=>exact gen h
def mx (i:Nat) (cs:List GV):List GV->List GV
 | []=>[]
 | g::gs=>lS i cs g::mx i cs gs
theorem Wk.freeze {i:Nat} {E:TypeId} {cs:List GV} (br:Γ[i]?=some (.box E cs)) (hp:rv cs=true) (bV:C8 (other i) (oset Γ i .gone)=true) (hm:m<=i):Wk m fr Γ (mx i cs fr) (oset Γ i .gone):=fun B K β w l hB hI hF=>by
 rw [aV] at bV |-;obtain ⟨b,vs,h1,h2,h3,h4⟩:=hI.ob i _ br;obtain ⟨K',hK,wR,bc⟩:=hI.freeze br (mo hp) bV (by omega);refine ⟨K',_,bc,?_⟩;clear hI bc bV br
 induction hF with
 | nil=>exact .nil
 | cons h t ih=>exact .cons (h.X2 hK h1 (wR b h1)) ih
end
end Go.Xg
namespace Go.Xg
open Go.RowKit Go.Xw
def bJ:List Nat->Nat->Nat->Nat
 | [],n,j=>n+j
 | i::_,_,0=>i
 | _::r,n,j+1=>bJ r n j
def dM:List Ob->List Nat->List Ob->List Ob
 | Γ,[],xs=>Γ++xs
 | Γ,_::_,[]=>Γ
 | Γ,i::r,x::xs=>dM (oset Γ i x) r xs
def ic:List Nat->Nat->Bool
 | [],_=>true
 | i::r,n=>Nat.blt i n&&!(r.contains i)&&ic r n
theorem Ck {aI:List Nat} {n j:Nat} (h:aI.length<=j):bJ aI n j=n+(j - aI.length):=by
 induction aI generalizing j with
 | nil=>simp [bJ]
 | cons i r ih =>
  cases j with
  | zero=>simp at h
  | succ j=>rw [bJ,ih (by simpa using h)];simp
theorem Ru {aI:List Nat} {n j:Nat} (h:j < aI.length):∃ i∈aI,bJ aI n j=i:=by
 induction aI generalizing j with
 | nil=>simp at h
 | cons i r ih =>
  cases j with
  | zero=>exact ⟨i,by simp,rfl⟩
  | succ j=>obtain ⟨x,h1,h2⟩:=ih (j:=j) (by simpa using h);exact ⟨x,by simp [h1],h2⟩
theorem Fk {aI:List Nat} {n:Nat} (h:ic aI n=true):∀ i∈aI,i < n:=by
 induction aI with
 | nil=>intro i hi;cases hi
 | cons x r ih =>
  simp only [ic,Bool.and_eq_true] at h;intro i hi
  rcases List.mem_cons.1 hi with rfl | hi
  ·simpa using h.1.1
  ·exact ih h.2 i hi
theorem Ac {aI:List Nat} {n:Nat} (h:ic aI n=true):∀ {j j':Nat},bJ aI n j=bJ aI n j'->j=j':=by
 induction aI with
 | nil=>intro j j' he;simp only [bJ] at he;omega
 | cons x r ih =>
  have ao:=Fk h;simp only [ic,Bool.and_eq_true,Bool.not_eq_true'] at h
  have hx:∀ j,bJ r n j≠x:=fun j he=>by
   by_cases hj:j < r.length
   ·obtain ⟨i,hi,h2⟩:=Ru (n:=n) hj;rw [he] at h2;subst h2;have:=h.1.2;rw [List.contains_iff_mem.2 hi] at this;cases this
   ·have:=Ck (n:=n) (Nat.le_of_not_lt hj);have:=ao x (by simp);omega
  intro j j' he
  cases j with
  | zero=>cases j' with
   | zero=>rfl
   | succ j'=>exact absurd he.symm (hx j')
  | succ j=>cases j' with
   | zero=>exact absurd he (hx j)
   | succ j'=>rw [ih h.2 he]
theorem GK {aI:List Nat} {n:Nat}:∀ {Γ xs:List Ob},Γ.length=n->ic aI n=true->aI.length<=xs.length ->
  (∀ j,(dM Γ aI xs)[bJ aI n j]?=xs[j]?)/\(∀ i,(∀ j,bJ aI n j≠i)->(dM Γ aI xs)[i]?=Γ[i]?)/\(dM Γ aI xs).length=n+(xs.length - aI.length):=by
 induction aI with
 | nil =>
  intro Γ xs hn _ _;refine ⟨fun j=>?_,fun i hi=>?_,by simp [dM,hn]⟩
  ·simp only [dM,bJ];rw [List.getElem?_append_right (by omega)];congr 1;omega
  ·simp only [dM,bJ] at hi |-
   by_cases ao:i < n
   ·rw [getElem?_append_left (by omega)]
   ·exact absurd (by omega) (hi (i - n))
 | cons x r ih =>
  intro Γ xs hn fc hl;have Eu:=@Ac (x::r) n fc;have ao:=Fk fc x (by simp)
  cases xs with
  | nil=>simp at hl
  | cons y ys =>
   simp only [ic,Bool.and_eq_true,Bool.not_eq_true'] at fc;obtain ⟨h1,h2,h3⟩:=ih (Γ:=oset Γ x y) (xs:=ys) (by rw [aV];simpa using hn) fc.2 (by simpa using hl)
   have hx:∀ j,bJ r n j≠x:=fun j he=>by
    have:=@Eu (j+1) 0 he;omega
   refine ⟨fun j=>?_,fun i hi=>?_,by simp only [dM,h3,length_cons];omega⟩
   ·cases j with
    | zero =>
     simp only [dM,bJ];rw [h2 x hx,aV,getElem?_set];simp [hn,ao]
    | succ j=>simp only [dM,bJ];exact h1 j
   ·simp only [dM];rw [h2 i (fun j=>hi (j+1)),aV,getElem?_set];rw [if_neg (by intro e;exact hi 0 e)]
theorem jT.Bc {K:Fz} {β:Bt} {w:World} {f:Nat->Nat} {j:Nat} {x:Ob} (h:jT K β w (f j) (x.dx f)):jT K (fun j=>β (f j)) w j x:=by
 cases x with
 | gone=>exact h
 | box E cs =>
  obtain ⟨b,vs,h1,h2,h3,h4⟩:=h;rw [jI] at h3;exact ⟨b,vs,h1,h2,⟨by simpa using h3.1,fun i v g h5 h6=>(h3.2 i v (dx f g) h5 (by rw [getElem?_map,h6];rfl)).Bc⟩,h4⟩
 | vec E k fz rows =>
  obtain ⟨h0,xs,h1,h2,h3,h4,h5⟩:=h;refine ⟨h0,xs,h1,h2,⟨h3.1,fun i v g h6 h7=>(h3.2 i v g h6 h7).pc ?_⟩,h4,h5⟩;obtain ⟨r,gD,dj⟩:=List.mem_flatten.1 (mem_of_getElem? h7);exact (h4 r gD).2 g dj
 | vech E k rows x =>
  obtain ⟨xs,h1,h2,h3,h4,h5⟩:=h;refine ⟨xs,h1,h2,⟨h3.1,fun i v g h6 h7=>(h3.2 i v g h6 h7).pc ?_⟩,h4,h5⟩;obtain ⟨r,gD,dj⟩:=List.mem_flatten.1 (mem_of_getElem? h7);exact (h4 r gD).2 g dj
 | lost=>exact h
theorem jT.Bn {K:Fz} {β:Bt} {w:World} {f:Nat->Nat} {j:Nat} {x:Ob} (h:jT K (fun j=>β (f j)) w j x):jT K β w (f j) (x.dx f):=by
 cases x with
 | gone=>exact h
 | box E cs =>
  obtain ⟨b,vs,h1,h2,h3,h4⟩:=h;refine ⟨b,vs,h1,h2,?_,h4⟩;rw [jI];refine ⟨by simpa using h3.1,fun i v g h5 h6=>?_⟩;rw [getElem?_map] at h6
  cases hc:cs[i]? with
  | none=>rw [hc] at h6;cases h6
  | some c=>rw [hc] at h6;cases h6;exact (h3.2 i v c h5 hc).Bn
 | vec E k fz rows =>
  obtain ⟨h0,xs,h1,h2,h3,h4,h5⟩:=h;refine ⟨h0,xs,h1,h2,⟨h3.1,fun i v g h6 h7=>(h3.2 i v g h6 h7).pc ?_⟩,h4,h5⟩;obtain ⟨r,gD,dj⟩:=List.mem_flatten.1 (mem_of_getElem? h7);exact (h4 r gD).2 g dj
 | vech E k rows x =>
  obtain ⟨xs,h1,h2,h3,h4,h5⟩:=h;refine ⟨xs,h1,h2,⟨h3.1,fun i v g h6 h7=>(h3.2 i v g h6 h7).pc ?_⟩,h4,h5⟩;obtain ⟨r,gD,dj⟩:=List.mem_flatten.1 (mem_of_getElem? h7);exact (h4 r gD).2 g dj
 | lost=>exact h
section
variable {K:Fz} {β:Bt} {Γ:List Ob} {w:World} {B:Bs}
theorem Inv.enter {aI:List Nat} {gL:List Ob} (h:Inv B K β Γ w) (fc:ic aI Γ.length=true) (hl:gL.length=aI.length) (br:∀ j x,gL[j]?=some x->Γ[bJ aI Γ.length j]?=some (x.dx (bJ aI Γ.length))) :
  Inv (cur K (fun j=>β (bJ aI Γ.length j)) gL w) K (fun j=>β (bJ aI Γ.length j)) gL w:=by
 have bV:∀ i,gL.length<=i->β (bJ aI Γ.length i)=.no:=fun i hi=>by
  rw [Ck (by omega)];exact h.out _ (by omega)
 exact ⟨Ext.refl w,cw.refl K,de.refl _,bV,h.fz,fun i x hi=>(h.ob _ _ (br i x hi)).Bc,bV,fun i j b hi hj=>Ac fc (h.dis _ _ b hi hj),fun i b hb=>.inl ⟨i,hb⟩,fun _ _ _ h=>.inl h,h.tab.step (S:=iG) (Ext.refl w) (fun _ h=>h.elim) (cw.refl K) (fun i b2 h2=>.inl ⟨_,h2⟩)⟩
theorem Inv.leave {aI:List Nat} {gL qG:List Ob} {K':Fz} {Am:Bt} {w':World} (h:Inv B K β Γ w) (fc:ic aI Γ.length=true) (hl:gL.length=aI.length) (jh:aI.length<=qG.length)
  (hI:Inv (cur K (fun j=>β (bJ aI Γ.length j)) gL w) K' Am qG w') :
  ∃ bO,cw K K'/\de β bO/\(∀ j,bO (bJ aI Γ.length j)=Am j)/\Inv B K' bO (dM Γ aI (qG.map (Ob.dx (bJ aI Γ.length)))) w':=by
 obtain ⟨s1,s2,s3⟩:=GK (aI:=aI) (n:=Γ.length) (Γ:=Γ) (xs:=qG.map (Ob.dx (bJ aI Γ.length))) rfl fc (by simpa using jh);rw [List.length_map] at s3;generalize hf:bJ aI Γ.length=f at *
 have Eu:∀ {j j'},f j=f j'->j=j':=by subst hf;exact Ac fc
 have lk:∀ j,aI.length<=j->f j=Γ.length+(j - aI.length):=fun j hj=>by subst hf;exact Ck hj
 have WS:∀ i,Γ.length<=i->f (aI.length+(i - Γ.length))=i:=fun i hi=>by rw [lk _ (by omega)];omega
 have ⟨bO,hβ1,hβ2⟩:∃ bO:Bt,(∀ j,bO (f j)=Am j)/\∀ i,(∀ j,f j≠i)->bO i=β i:=by
  classical
  refine ⟨fun i=>if h:∃ j,f j=i then Am (Classical.choose h) else β i,fun j=>?_,fun i hi=>?_⟩
  ·have hex:∃ j',f j'=f j:=⟨j,rfl⟩;simp only;rw [dif_pos hex,Eu (Classical.choose_spec hex)]
  ·simp only;rw [dif_neg (fun ⟨j,hj⟩=>hi j hj)]
 have Sw:de β bO:=fun i=>by
  by_cases hi:∃ j,f j=i
  ·obtain ⟨j,rfl⟩:=hi;rw [hβ1];exact hI.ble j
  ·rw [hβ2 i (fun j hj=>hi ⟨j,hj⟩)];exact sf.refl _
 have Jd:∀ b,blocks (fun j=>β (f j)) b->blocks β b:=fun b ⟨j,hj⟩=>⟨f j,hj⟩
 have gw:∀ i b,(bO i).blk=some b->blocks β b\/w.heap.size<=b:=fun i b hb=>by
  by_cases hi:∃ j,f j=i
  ·obtain ⟨j,rfl⟩:=hi;rw [hβ1] at hb;exact (hI.own j b hb).imp (Jd b) id
  ·rw [hβ2 i (fun j hj=>hi ⟨j,hj⟩)] at hb;exact .inl ⟨i,hb⟩
 have rh:∀ i b,(∀ j,f j≠i)->(β i).blk=some b->¬ blocks (fun j=>β (f j)) b:=fun i b hi hb ⟨j,hj⟩=>hi j (h.dis _ _ b hj hb)
 refine ⟨bO,hI.kle,Sw,hβ1,h.Mx (Wn:=Γ) ?_⟩;refine ⟨hI.ext.mono (fun k _ hk=>Jd k hk),hI.kle,Sw,h.out,hI.fz,fun i x hi=>?_,fun i hi=>?_,fun i i' b hi om=>?_,gw,fun b o g hg=>?_,⟨hI.tab.le,hI.tab.pow,hI.tab.spc,fun i b hb=>(gw i b hb).elim (fun ⟨j,hj⟩=>h.tab.free j b hj) (fun hs=>⟨by have:=h.tab.pow.lt;have hs:w.heap.size<=b:=hs;omega,by have:=h.tab.spc.lt;have hs:w.heap.size<=b:=hs;omega⟩)⟩⟩
 ·by_cases hj:∃ j,f j=i
  ·obtain ⟨j,rfl⟩:=hj;rw [s1 j,getElem?_map] at hi
   cases hc:qG[j]? with
   | none=>rw [hc] at hi;cases hi
   | some c =>
    rw [hc] at hi;cases hi;refine jT.Bn ?_;have:=hI.ob j c hc;rw [show (fun j=>bO (f j))=Am from funext hβ1];exact this
  ·have lI:∀ j,f j≠i:=fun j h=>hj ⟨j,h⟩
   rw [s2 i lI] at hi;refine (h.ob i x hi).ext hI.ext (fun b hb=>rh i b lI hb) hI.kle Sw (hβ2 i lI) (fun b o hb hk=>?_)
   cases ln:K' b o with
   | none=>rfl
   | some g =>
    rcases hI.kn b o g ln with h7 | h7 | h7
    ·have h7:K b o=some g:=h7;rw [hk] at h7;cases h7
    ·exact absurd h7 (rh i b lI hb)
    ·have:=h.lt hb;have h7:w.heap.size<=b:=h7;omega
 ·rw [s3] at hi;have h1:=WS i (by omega);rw [<-h1,hβ1];exact hI.out _ (by omega)
 ·by_cases h1:∃ j,f j=i <;> by_cases h2:∃ j,f j=i'
  ·obtain ⟨j,rfl⟩:=h1;obtain ⟨j',rfl⟩:=h2;rw [hβ1] at hi om;rw [hI.dis j j' b hi om]
  ·obtain ⟨j,rfl⟩:=h1
   have pY:∀ j,f j≠i':=fun j h=>h2 ⟨j,h⟩
   rw [hβ1] at hi;rw [hβ2 i' pY] at om
   rcases hI.own j b hi with h7 | h7
   ·exact absurd h7 (rh i' b pY om)
   ·have:=h.lt om;have h7:w.heap.size<=b:=h7;omega
  ·obtain ⟨j,rfl⟩:=h2
   have cr:∀ j,f j≠i:=fun j h=>h1 ⟨j,h⟩
   rw [hβ1] at om;rw [hβ2 i cr] at hi
   rcases hI.own j b om with h7 | h7
   ·exact absurd h7 (rh i b cr hi)
   ·have:=h.lt hi;have h7:w.heap.size<=b:=h7;omega
  ·rw [hβ2 i (fun j h=>h1 ⟨j,h⟩)] at hi;rw [hβ2 i' (fun j h=>h2 ⟨j,h⟩)] at om;exact h.dis i i' b hi om
 ·rcases hI.kn b o g hg with h7 | h7 | h7
  ·exact .inl h7
  ·exact .inr (.inl (Jd b h7))
  ·exact .inr (.inr h7)
end
section
variable {P:Program} {m:Nat} {Q:dR} {fr:List GV} {Γ:List Ob} {ops:Array Oper} {rest:List Oper} {d:Option Tmp} {op:Op} {ty:TypeId} {pos:String} {af:Array Edge}
def seen (f:Nat->Nat) (Γ:List Ob):List Nat->List Ob->Prop
 | [],[]=>True
 | i::r,x::xs=>Γ[i]?=some (x.dx f)/\seen f Γ r xs
 | _,_=>False
theorem Dj {f:Nat->Nat} {Γ:List Ob} {n:Nat}:∀ {aI:List Nat} {gL:List Ob},seen f Γ aI gL->gL.length=aI.length/\∀ j x,gL[j]?=some x->Γ[bJ aI n j]?=some (x.dx f)
 | [],[],_=>⟨rfl,fun j x h=>by simp at h⟩
 | i::r,y::ys,h=>by
  obtain ⟨h1,h2⟩:=h;obtain ⟨h3,h4⟩:=Dj (n:=n) h2;refine ⟨by simp [h3],fun j x hx=>?_⟩
  cases j with
  | zero=>cases hx;exact h1
  | succ j=>exact h4 j x hx
 | [],_::_,h=>h.elim
 | _::_,[],h=>h.elim
theorem GL.calls {f:FuncId} {aI:List Nat} {gs:List GV} {gL:List Ob} {R:GV->List Ob->Prop} {vs:List Value->List Value} (hr:∀ K β w l,FR K β fr l->aU K β (vs l) (lx (bJ aI Γ.length) gs)/\(execOp (ev l) ⟨d,op,ty,pos,af,none⟩).run P w=.ok (.enter f (vs l).toArray) w)
  (fc:ic aI Γ.length=true) (br:seen (bJ aI Γ.length) Γ aI gL) (hc:GC P f gs gL R)
  (h:∀ g aD,R g aD->aI.length<=aD.length/\GL P m ops Q rest (bf fr d (dx (bJ aI Γ.length) g)) (dM Γ aI (aD.map (Ob.dx (bJ aI Γ.length))))) :
  GL P m ops Q (⟨d,op,ty,pos,af,none⟩::rest) fr Γ:=fun B K β w l hm hI hF=>by
 obtain ⟨hl,hs⟩:=Dj (n:=Γ.length) br;obtain ⟨ha,hr⟩:=hr K β w l hF;have Yl:=hI.enter fc hl hs
 have rR:aU K (fun j=>β (bJ aI Γ.length j)) (vs l) gs:=by
  rw [jI] at ha;exact ⟨by simpa using ha.1,fun i v g h5 h6=>(ha.2 i v (dx _ g) h5 (by rw [getElem?_map,h6];rfl)).Bc⟩
 refine WL.calls hr (hc _ K _ w _ rfl Yl rR) ?_;rintro v w' ⟨K',Am,g,aD,bc,eO,hR⟩;obtain ⟨jh,h⟩:=h g aD hR;obtain ⟨bO,hK,hB,qd,oO⟩:=hI.leave fc hl jh bc;refine h B K' bO w' _ hm oO ((hF.mono hK hB).put d (Rel.Bn ?_));rw [show (fun j=>bO (bJ aI Γ.length j))=Am from funext qd];exact eO
theorem GL.nG {f:FuncId} [hf:az P f] (aI:List Nat) {x:Operand} {first cap:List GV} {args:List Operand} {mj:Array TypeId} {gs:List GV} {gL:List Ob} {R:GV->List Ob->Prop} (hc:GC P f gs gL R) (hx:aM fr x=.fn (.func f) first cap) (ha:first++args.map (aM fr)++cap=lx (bJ aI Γ.length) gs) (fc:ic aI Γ.length=true)
  (br:seen (bJ aI Γ.length) Γ aI gL) (h:∀ g aD,R g aD->aI.length<=aD.length/\GL P m ops Q rest (bf fr d (dx (bJ aI Γ.length) g)) (dM Γ aI (aD.map (Ob.dx (bJ aI Γ.length))))) :
  GL P m ops Q (⟨d,.call ⟨.value x,args.toArray,mj⟩,ty,pos,af,none⟩::rest) fr Γ :=
 GL.calls (vs:=fun l=>match ev l x with | .func _ a c=>a.toList++args.map (ev l)++c.toList | _=>[]) (fun K β w l hF=>by
  have hr:=hF.ev x;rw [hx] at hr;generalize hv:ev l x=v at hr
  cases hr with
  | fn _ xs ys _ _ h1 h2 h3 h4 =>
   refine ⟨?_,?_⟩
   ·rw [<-ha];exact (aU.app (aU.app ⟨h1,h3⟩ (hF.args args)) ⟨h2,h4⟩)
   ·simp [execOp,resolve,hv,Deferred.ofValue,invoke,ly]) fc br hc h
theorem GL.Ux {f:FuncId} [hf:az P f] (aI:List Nat) {x:Operand} {args:List Operand} {mj:Array TypeId} {gs:List GV} {gL:List Ob} {R:GV->List Ob->Prop} (hc:GC P f gs gL R) (hx:aM fr x=.v (.func (.func f) #[] #[])) (ha:args.map (aM fr)=lx (bJ aI Γ.length) gs) (fc:ic aI Γ.length=true)
  (br:seen (bJ aI Γ.length) Γ aI gL) (h:∀ g aD,R g aD->aI.length<=aD.length/\GL P m ops Q rest (bf fr d (dx (bJ aI Γ.length) g)) (dM Γ aI (aD.map (Ob.dx (bJ aI Γ.length))))) :
  GL P m ops Q (⟨d,.call ⟨.value x,args.toArray,mj⟩,ty,pos,af,none⟩::rest) fr Γ :=
 GL.calls (vs:=fun l=>args.map (ev l)) (fun K β w l hF=>⟨by rw [<-ha];exact hF.args args,by
  have hv:=hF.gU hx
  simp [execOp,resolve,hv,Deferred.ofValue,invoke,ly]⟩) fc br hc h
end
end Go.Xg
namespace Go.Xg
open Go.RowKit Go.Xw
def nb (ops:List Oper) (fr:List GV):Nat->Option (Option Bool):=fun j =>
 match ju ops j,(rG ops j).dst with
 | true,some t=>match ju fr t,cq fr t with
  | true,.v (.bool c)=>some (some c)
  | true,.v (.tuple _)=>some none
  | _,_=>none
 | _,_=>none
section
variable {P:Program} {m:Nat} {Q:dR} {fr:List GV} {Γ:List Ob} {ops:Array Oper} {rest:List Oper} {d:Option Tmp} {op:Op} {ty:TypeId} {pos:String} {af:Array Edge}
theorem uX {K:Fz} {β:Bt} {l:List Value} {j:Nat} {b:Bool} {c:Option Bool} (hF:FR K β fr l) (h:nb ops.toList fr j=some c):CZ (some (j,b)) ops.toList l=true/\gv ops.toList l (j,b)=c:=by
 unfold nb at h;split at h
 ·rename_i t h1 h2;split at h
  ·rename_i c' h3 h4;cases h;have hv:nth l t=.bool c':=Rel.eg (by rw [<-h4];exact hF.nth t);have hl:=mc hF h3;simp only [CZ,gv,h1,h2,hl,hv,Bool.and_self];exact ⟨trivial,trivial⟩
  ·rename_i vs h3 h4;cases h;have hv:nth l t=.tuple vs:=Rel.eg (by rw [<-h4];exact hF.nth t);have hl:=mc hF h3;simp only [CZ,gv,h1,h2,hl,hv,Bool.and_self];exact ⟨trivial,trivial⟩
  ·cases h
 ·cases h
theorem GL.gt {gd:Nat × Bool} {c:Bool} (hv:nb ops.toList fr gd.1=some (some c)) (hc:c=gd.2) (h:GL P m ops Q (⟨d,op,ty,pos,af,none⟩::rest) fr Γ):GL P m ops Q (⟨d,op,ty,pos,af,some gd⟩::rest) fr Γ:=fun B K β w l hm hI hF=>by
 obtain ⟨h1,h2⟩:=uX (b:=gd.2) hF hv;exact Xw.GT h1 h2 hc (h B K β w l hm hI hF)
theorem GL.gf {gd:Nat × Bool} {c:Bool} (hv:nb ops.toList fr gd.1=some (some c)) (hc:c=!gd.2) (h:GL P m ops Q rest (bf fr d (.v undef)) Γ):GL P m ops Q (⟨d,op,ty,pos,af,some gd⟩::rest) fr Γ:=fun B K β w l hm hI hF=>by
 obtain ⟨h1,h2⟩:=uX (b:=gd.2) hF hv;exact Xw.GF h1 h2 hc (h B K β w _ hm hI (hF.put d (.v _)))
theorem GL.gu {gd:Nat × Bool} (hv:nb ops.toList fr gd.1=some none) (h:GL P m ops Q rest (bf fr d (.v undef)) Γ):GL P m ops Q (⟨d,op,ty,pos,af,some gd⟩::rest) fr Γ:=fun B K β w l hm hI hF=>by
 obtain ⟨h1,h2⟩:=uX (b:=gd.2) hF hv;exact Xw.GU h1 h2 (h B K β w _ hm hI (hF.put d (.v _)))
end
def gG (ops:List Oper) (fr:List GV):Option (Nat × Bool)->Option Bool
 | none=>some true
 | some (j,b)=>match nb ops fr j with
  | some (some c)=>some (c==b)
  | some none=>some false
  | none=>none
theorem Hs {ops:Array Oper} {K:Fz} {β:Bt} {fr:List GV} {l:List Value} {o:Oper} {c:Bool} (hF:FR K β fr l) (h:gG ops.toList fr o.guard=some c):Region.wanted o (yielded ops (act l).tmps)=c:=by
 obtain ⟨d,op,ty,pos,af,gd⟩:=o
 cases gd with
 | none=>simp only [gG] at h;cases h;rfl
 | some gd =>
  obtain ⟨j,b⟩:=gd;simp only [gG] at h;split at h
  ·rename_i c' hc;cases h;obtain ⟨h1,h2⟩:=uX (b:=b) hF hc;rw [vH h1]
   cases y5:(c'==b) with
   | true=>exact M1 h2 (by simpa using y5)
   | false=>exact M0 h2 (by cases c' <;> cases b <;> simp_all)
  ·rename_i hc;cases h;obtain ⟨h1,h2⟩:=uX (b:=b) hF hc;rw [vH h1];exact M2 h2
  ·cases h
def Dc (P:Program) (o:Oper) (e:Operand->Value) (w:World) (Kv:Value->World->Prop):Prop :=
 match (execOp e o).run P w with
 | .ok (.value v) w'=>Kv v w'
 | .ok .skip w'=>Kv undef w'
 | .ok (.enter f args) w'=>Calls P f args w' fun e Qk=>∃ v,e=.returned v/\Kv v Qk
 | .ok (.row row args) w'=>Rows P row args w' Kv
 | _=>False
theorem TH {P:Program} {o:Oper} {a:Act} {w:World} {Kv:Value->World->Prop} {next:Act->World->Prop} {Q:Exit->Act->World->Prop} (h:Dc P o a.eval w Kv) (hn:∀ v w',Kv v w'->next (a.put o.dst v) w'):o.wp P a w next Q:=by
 unfold Dc at h;unfold Oper.wp;generalize (execOp a.eval o).run P w=r at *
 cases r with
 | ok n w' =>
  cases n <;> simp only [Oper.upon] at h |- <;> first
   | exact hn _ _ h
   | exact Calls.mono h (fun e Qk ⟨v,he,hv⟩=>by subst he;exact hn _ _ hv)
   | exact Rows.mono h (fun _ _ hv=>hn _ _ hv)
   | exact h.elim
 | halt x w'=>exact h.elim
theorem Ui {P:Program} {o:Oper} {a:Act} {w:World} {Kv:Value->World->Prop} {next:Act->World->Prop} {Q:Exit->Act->World->Prop} (h:o.wp P a w next Q) (hQ:∀ c a w,¬ Q (.panic c) a w) (Yn:∀ a w,¬ Q .outgrown a w) (hn:∀ v w',next (a.put o.dst v) w'->Kv v w')
  (hd:∀ d w',¬ next ({ a with defers:=d::a.defers }.put o.dst undef) w'):Dc P o a.eval w Kv:=by
 unfold Dc;unfold Oper.wp at h;generalize (execOp a.eval o).run P w=r at *
 cases r with
 | ok n w' =>
  cases n <;> simp only [Oper.upon] at h |- <;> first
   | exact hn _ _ h
   | exact Calls.mono h (fun e Qk he=>by
     cases e with
     | returned v=>exact ⟨v,rfl,hn _ _ he⟩
     | panicked c=>exact (hQ _ _ _ he).elim
     | outgrown=>obtain ⟨a0,w0,hf⟩:=he;exact (Yn _ _ hf).elim)
   | exact Rows.mono h (fun _ _ hv=>hn _ _ hv)
   | exact h.elim
   | exact absurd h (hd _ _)
 | halt x w' =>
  cases x <;> simp only [Oper.upon] at h
  exact (hQ _ _ _ h).elim
def cD (ts:List Nat):Nat->List GV->List GV
 | _,[]=>[]
 | k,g::gs=>(match ts.contains k with | true=>g | false=>.any)::cD ts (k+1) gs
theorem FR.mask {K:Fz} {β:Bt} {ts:List Nat} {fr:List GV} {l:List Value} (h:FR K β fr l):∀ k,FR K β (cD ts k fr) l:=by
 induction h with
 | nil=>intro k;exact .nil
 | cons h t ih =>
  intro k;rw [cD];split
  ·exact .cons h (ih _)
  ·exact .cons (.any _) (ih _)
theorem Ox {ts:List Nat} {d:Option Tmp} {g:GV} (hd:∀ t,d=some t->t ∉ ts) (fr:List GV):cD ts 0 (bf fr d g)=cD ts 0 fr:=by
 cases d with
 | none=>rfl
 | some t =>
  have hd:=hd t rfl
  have gen:∀ (fr:List GV) (k t:Nat),k+t ∉ ts->cD ts k (bg fr t g)=cD ts k fr:=by
   intro fr
   induction fr with
   | nil=>intro k t _;rfl
   | cons x fr ih =>
    intro k t h
    cases t with
    | zero =>
     have hc:ts.contains k=false:=by
      cases hb:ts.contains k with
      | false=>rfl
      | true=>exact absurd (List.contains_iff_mem.1 hb) (by simpa using h)
     simp only [bg,cD,hc]
    | succ t=>simp only [bg,cD];rw [ih (k+1) t (by rw [show k+1+t=k+(t+1) by omega];exact h)]
  exact gen fr 0 t (by simpa using hd)
section
variable {P:Program} {ops:Array Oper}
def YQ (P:Program) (ops:Array Oper) (i:Nat) (g:GV) (fr:List GV) (Γ:List Ob):Prop :=
 ∃ o c,ops[i]?=some o/\gG ops.toList (cD (o.looksAt ops) 0 fr) o.guard=some c/\match c with
  | true=>YG P o.op (cD (o.looksAt ops) 0 fr) Γ g
  | false=>g=.v undef
abbrev kE:=List (Nat × GV × List GV)
def GA (P:Program) (o:Oper) (Kt:GV->List Ob->Prop) (fr:List GV) (Γ:List Ob):Prop :=
 ∀ B K β w l,Inv B K β Γ w->FR K β fr l->Dc P o (ev l) w fun v w'=>∃ K' bO g aD,cw K K'/\de β bO/\Inv B K' bO aD w'/\(∀ fr l,FR K' bO fr l->FR K' bO (bf fr o.dst g) (put l o.dst v))/\Kt g aD
def GI (P:Program) (ops:Array Oper) (i:Nat) (Kt:GV->List Ob->Prop) (fr:List GV) (Γ:List Ob):Prop :=
 ∃ o c,ops[i]?=some o/\gG ops.toList fr o.guard=some c/\match c with
  | true=>GA P o Kt fr Γ
  | false=>Kt (.v undef) Γ
def kH (ops:Array Oper) (i:Nat):Option Tmp:=(ops[i]?).bind (·.dst)
def waits (ops:Array Oper) (i j:Nat):Bool:=match ops[i]? with
 | some o=>o.after.any fun e=>Region.binds .any e&&e.on==j
 | none=>false
def stay (ops:Array Oper) (i:Nat) (aO:kE):kE:=aO.filter fun p=>!waits ops i p.1
def o0 (P:Program) (ops:Array Oper) (Q:List GV->List Ob->Prop):Nat->kE->Array Bool->List GV->List Ob->Prop
 | 0,_,listed,fr,Γ=>Region.ready .any ops listed=[]/\Q fr Γ
 | n+1,aO,listed,fr,Γ=>(Region.ready .any ops listed=[]->Q fr Γ) /\
   ∀ i∈Region.ready .any ops listed,GI P ops i (fun g aD=>(∀ p∈stay ops i aO,YQ P ops p.1 p.2.1 p.2.2 aD)/\o0 P ops Q n (stay ops i aO) (listed.setIfInBounds i true) (bf fr (kH ops i) g) aD) fr Γ
theorem GA.mono {o:Oper} {Kt DP:GV->List Ob->Prop} {fr:List GV} {Γ:List Ob} (h:GA P o Kt fr Γ) (hk:∀ g aD,Kt g aD->DP g aD):GA P o DP fr Γ:=fun B K β w l hI hF=>by
 have:=h B K β w l hI hF;unfold Dc at *;generalize (execOp (ev l) o).run P w=r at *
 have key:∀ v w',(∃ K' bO g aD,cw K K'/\de β bO/\Inv B K' bO aD w'/\(∀ fr l,FR K' bO fr l->FR K' bO (bf fr o.dst g) (put l o.dst v))/\Kt g aD)->∃ K' bO g aD,cw K K'/\de β bO/\Inv B K' bO aD w'/\(∀ fr l,FR K' bO fr l->FR K' bO (bf fr o.dst g) (put l o.dst v))/\DP g aD :=
  fun v w' ⟨K',bO,g,aD,h1,h2,h3,h4,h5⟩=>⟨K',bO,g,aD,h1,h2,h3,h4,hk _ _ h5⟩
 cases r with
 | ok n w'=>cases n <;> simp only at this |- <;> first
   | exact key _ _ this
   | exact Calls.mono this (fun e Qk ⟨v,he,hv⟩=>⟨v,he,key _ _ hv⟩)
   | exact Rows.mono this (fun _ _ hv=>key _ _ hv)
   | exact this.elim
 | halt x w'=>exact this.elim
theorem GI.mono {i:Nat} {Kt DP:GV->List Ob->Prop} {fr:List GV} {Γ:List Ob} (h:GI P ops i Kt fr Γ) (hk:∀ g aD,Kt g aD->DP g aD):GI P ops i DP fr Γ:=by
 obtain ⟨o,c,h1,h2,h3⟩:=h;refine ⟨o,c,h1,h2,?_⟩
 cases c with
 | true=>exact GA.mono h3 hk
 | false=>exact hk _ _ h3
theorem o0.Pz {Q:List GV->List Ob->Prop}:∀ (n:Nat) (aO dF:kE) (listed:Array Bool) (fr:List GV) (Γ:List Ob),(∀ p∈dF,p∈aO)->o0 P ops Q n aO listed fr Γ->o0 P ops Q n dF listed fr Γ
 | 0,_,_,_,_,_,_,h=>h
 | n+1,aO,dF,listed,fr,Γ,hs,h=>⟨h.1,fun i hi=>(h.2 i hi).mono fun g aD ⟨h1,h2⟩=>by
  have nS:∀ p∈stay ops i dF,p∈stay ops i aO:=fun p hp=>by
   simp only [stay,mem_filter] at hp |-;exact ⟨hs p hp.1,hp.2⟩
  exact ⟨fun p hp=>h1 p (nS p hp),o0.Pz n _ _ _ _ _ nS h2⟩⟩
theorem o0.sound {m:Nat} {Q:List GV->List Ob->Prop} {B:Bs} {Q':dR} (hm:B.m=m) (hQ:∀ fr Γ,Q fr Γ->Q' .normal fr Γ):∀ (n:Nat) (aO:kE) (listed:Array Bool) (fr:List GV) (Γ:List Ob) (K:Fz) (β:Bt) (w:World) (l:List Value),
  o0 P ops Q n aO listed fr Γ->Inv B K β Γ w->FR K β fr l->wpAny P .any ops (lift (gl B Q')) n listed (act l) w
 | 0,_,_,fr,Γ,K,β,w,l,h,hI,hF=>⟨h.1,l,rfl,K,β,fr,Γ,hI,hF,hQ _ _ h.2⟩
 | n+1,aO,listed,fr,Γ,K,β,w,l,h,hI,hF=>by
  refine ⟨fun h0=>⟨l,rfl,K,β,fr,Γ,hI,hF,hQ _ _ (h.1 h0)⟩,fun i hi=>?_⟩;obtain ⟨o,c,ho,hg,hc⟩:=h.2 i hi;have hw:=Hs hF hg;unfold wpOp;simp only [ho,hw]
  have hd:kH ops i=o.dst:=by simp [kH,ho]
  cases c with
  | true =>
   simp only [if_true];refine .inl (TH (by rw [mT];exact hc B K β w l hI hF) ?_);rintro v w' ⟨K',bO,g,aD,hK,hB,bc,hf,h1,h2⟩;rw [oK];rw [hd] at h2;exact o0.sound hm hQ n _ _ _ _ K' bO w' _ h2 bc (hf _ _ (hF.mono hK hB))
  | false =>
   simp only [Bool.false_eq_true,if_false];rw [oK];obtain ⟨h1,h2⟩:=hc;rw [hd] at h2;exact o0.sound hm hQ n _ _ _ _ K β w _ h2 hI (hF.put o.dst (.v _))
theorem Gp {fr:List GV} {t t':Nat} (h:t'≠t) (g:GV):cq (bg fr t g) t'=cq fr t':=by
 induction fr generalizing t t' with
 | nil=>rfl
 | cons x l ih=>cases t with
  | zero=>cases t' with | zero=>exact absurd rfl h | succ t'=>rfl
  | succ t=>cases t' with | zero=>rfl | succ t'=>exact ih (fun e=>h (by rw [e]))
theorem HN {fr:List GV} {t t':Nat} {g:GV}:ju (bg fr t g) t'=ju fr t':=by
 induction fr generalizing t t' with
 | nil=>rfl
 | cons x l ih=>cases t with
  | zero=>cases t' <;> rfl
  | succ t=>cases t' with | zero=>rfl | succ t'=>exact ih
theorem Sk {o:Oper} {fr:List GV} {d:Option Tmp} {g:GV} (h:∀ t,d=some t->t ∉ o.looksAt ops):gG ops.toList (bf fr d g) o.guard=gG ops.toList fr o.guard:=by
 cases d with
 | none=>rfl
 | some t =>
  have h:=h t rfl;obtain ⟨d',op,ty,pos,af,gd⟩:=o
  cases gd with
  | none=>rfl
  | some gd =>
   obtain ⟨j,b⟩:=gd
   have bN:∀ t',ju ops.toList j=true->(rG ops.toList j).dst=some t'->t'≠t:=fun t' hj EM he=>by
    subst he;apply h;have lI:=H5 ops.toList j (A2 hj);simp only [Array.toArray_toList] at lI;simp [Oper.looksAt,lI,EM]
   have hv:nb ops.toList (bg fr t g) j=nb ops.toList fr j:=by
    unfold nb
    cases gW:ju ops.toList j with
    | false=>rfl
    | true =>
     cases hd:(rG ops.toList j).dst with
     | none=>rfl
     | some t' =>
      simp only;rw [HN,Gp (bN t' gW hd)]
   simp only [gG,bf,hv]
theorem YQ.at {i:Nat} {g:GV} {fr:List GV} {Γ:List Ob} {o:Oper} (h:YQ P ops i g fr Γ) (ho:ops[i]?=some o) {B:Bs} {K:Fz} {β:Bt} {w:World} {l:List Value} (hI:Inv B K β Γ w) (hF:FR K β fr l):∃ v,Rel K β v g/\((Region.wanted o (yielded ops (act l).tmps)=true/\(execOp (ev l) o).run P w=.ok (.value v) w)\/(Region.wanted o (yielded ops (act l).tmps)=false/\v=undef)):=by
 obtain ⟨o',c,h1,h2,h3⟩:=h;rw [ho] at h1;cases h1;have hw:=Hs (hF.mask (ts:=o.looksAt ops) 0) h2
 cases c with
 | true =>
  obtain ⟨v,hr,hv⟩:=h3 B K β w l hI (hF.mask 0);exact ⟨v,hv,.inl ⟨hw,by obtain ⟨d,op,ty,pos,af,gd⟩:=o;exact hr d ty pos af⟩⟩
 | false=>subst h3;exact ⟨undef,.v _,.inr ⟨hw,rfl⟩⟩
theorem GI.comm {i j:Nat} {g:GV} {oi oj:Oper} {Kt:GV->List Ob->Prop} {fr:List GV} {Γ:List Ob} (hi:ops[i]?=some oi) (hj:ops[j]?=some oj) (PH:oi.apart ops oj=true) (YV:∀ cs b,oj.op≠.select cs b) (hy:YQ P ops i g fr Γ)
  (h:GI P ops j Kt (bf fr oi.dst g) Γ):GI P ops j Kt fr Γ:=by
 obtain ⟨a1,a2,a3⟩:=Oper.apart_spec PH;obtain ⟨o,c,h1,h2,h3⟩:=h;rw [hj] at h1;cases h1;rw [Sk a1] at h2;refine ⟨oj,c,hj,h2,?_⟩
 cases c with
 | false=>exact h3
 | true =>
  intro B K β w l hI hF;obtain ⟨v,hv,_⟩:=hy.at hi hI hF;have:=h3 B K β w (put l oi.dst v) hI (hF.put _ hv)
  have he:execOp (ev (put l oi.dst v)) oj=execOp (ev l) oj:=by
   have:=execOp_put oj YV (act l) oi.dst v a1;rw [oK,mT,mT] at this;exact this
  unfold Dc at this |-;rw [he] at this;exact this
theorem o0.first {Q:List GV->List Ob->Prop} {i:Nat} {oi:Oper} {g:GV} {od:List GV} (hi:ops[i]?=some oi) (Xi:∀ (j:Nat) (o:Oper) cs b,ops[j]?=some o->o.op≠.select cs b) :
  ∀ (n:Nat) (aO:kE) (listed:Array Bool) (fr:List GV) (Γ:List Ob),
   (∀ j oj,ops[j]?=some oj->j≠i->listed.getD j true=false->(∀ e∈oj.after,Region.binds .any e=true->e.on≠i)->oi.apart ops oj=true) ->
   i∈Region.ready .any ops listed->cD (oi.looksAt ops) 0 fr=cD (oi.looksAt ops) 0 od->YQ P ops i g od Γ->(∀ p∈aO,YQ P ops p.1 p.2.1 p.2.2 Γ) ->
   o0 P ops Q n ((i,g,od)::aO) (listed.setIfInBounds i true) (bf fr oi.dst g) Γ->o0 P ops Q (n+1) aO listed fr Γ:=by
 have hd:kH ops i=oi.dst:=by simp [kH,hi]
 have Ue:∀ {fr:List GV} {Γ:List Ob},cD (oi.looksAt ops) 0 fr=cD (oi.looksAt ops) 0 od->YQ P ops i g od Γ->YQ P ops i g fr Γ:=by
  rintro fr Γ hm ⟨o,c,h1,h2,h3⟩;rw [hi] at h1;cases h1;exact ⟨oi,c,hi,by rw [hm];exact h2,by rw [hm];exact h3⟩
 have self:∀ (n:Nat) (aO:kE) (listed:Array Bool) (fr:List GV) (Γ:List Ob),cD (oi.looksAt ops) 0 fr=cD (oi.looksAt ops) 0 od->YQ P ops i g od Γ->(∀ p∈aO,YQ P ops p.1 p.2.1 p.2.2 Γ) ->
   o0 P ops Q n ((i,g,od)::aO) (listed.setIfInBounds i true) (bf fr oi.dst g) Γ ->
   GI P ops i (fun g aD=>(∀ p∈stay ops i aO,YQ P ops p.1 p.2.1 p.2.2 aD)/\o0 P ops Q n (stay ops i aO) (listed.setIfInBounds i true) (bf fr (kH ops i) g) aD) fr Γ:=by
  intro n aO listed fr Γ sG hy hp H
  have bq:∀ p∈stay ops i aO,p∈aO:=fun p hp=>by simp only [stay,mem_filter] at hp;exact hp.1
  have H':o0 P ops Q n (stay ops i aO) (listed.setIfInBounds i true) (bf fr (kH ops i) g) Γ:=by
   rw [hd];exact o0.Pz n _ _ _ _ _ (fun p hp=>mem_cons_of_mem _ (bq p hp)) H
  obtain ⟨o,c,h1,h2,h3⟩:=Ue sG hy;rw [hi] at h1;cases h1
  have pY:gG ops.toList fr oi.guard=some c:=by
   obtain ⟨d',op,ty,pos,af,gd⟩:=oi
   cases gd with
   | none=>exact h2
   | some gd =>
    obtain ⟨j,b⟩:=gd;simp only [gG] at h2 |-
    have hv:∀ x,nb ops.toList (cD (Oper.looksAt ops ⟨d',op,ty,pos,af,some (j,b)⟩) 0 fr) j=some x->nb ops.toList fr j=some x:=by
     intro x hx;unfold nb at hx |-
     cases gW:ju ops.toList j with
     | false=>rw [gW] at hx;cases hx
     | true =>
      rw [gW] at hx
      cases hdt:(rG ops.toList j).dst with
      | none=>rw [hdt] at hx;cases hx
      | some t =>
       rw [hdt] at hx;simp only at hx |-
       have u7:∀ (ts:List Nat) (fr:List GV) (k t:Nat),ju (cD ts k fr) t=ju fr t:=by
        intro ts fr
        induction fr with
        | nil=>intro k t;rfl
        | cons x fr ih=>intro k t;cases t with | zero=>rfl | succ t=>exact ih (k+1) t
       have Yx:∀ (ts:List Nat) (fr:List GV) (k t:Nat) ,cq (cD ts k fr) t=cq fr t\/cq (cD ts k fr) t=.any:=by
        intro ts fr
        induction fr with
        | nil=>intro k t;exact .inl rfl
        | cons x fr ih =>
         intro k t
         cases t with
         | zero=>simp only [cD,cq];split <;> first | exact .inl rfl | exact .inr rfl
         | succ t=>exact ih (k+1) t
       rw [u7] at hx
       rcases Yx (Oper.looksAt ops ⟨d',op,ty,pos,af,some (j,b)⟩) fr 0 t with h | h
       ·rw [h] at hx;exact hx
       ·rw [h] at hx
        split at hx <;> first | (rename_i h5;cases h5;done) | cases hx
    split at h2
    ·rename_i c' hc;rw [hv _ hc];exact h2
    ·rename_i hc;rw [hv _ hc];exact h2
    ·cases h2
  refine ⟨oi,c,hi,pY,?_⟩
  have kW:∀ p∈stay ops i aO,YQ P ops p.1 p.2.1 p.2.2 Γ:=fun p hq=>hp p (bq p hq)
  cases c with
  | true =>
   intro B K β w l hI hF;obtain ⟨v,hr,hv⟩:=h3 B K β w l hI (hF.mask 0)
   have mz:(execOp (ev l) oi).run P w=.ok (.value v) w:=by obtain ⟨d,op,ty,pos,af,gd⟩:=oi;exact hr d ty pos af
   unfold Dc;rw [mz];exact ⟨K,β,g,Γ,cw.refl K,de.refl β,hI,fun fr l hf=>hf.put _ hv,kW,H'⟩
  | false =>
   simp only at h3;subst h3;exact ⟨kW,H'⟩
 intro n
 induction n with
 | zero =>
  intro aO listed fr Γ _ hr sG hy hp H;refine ⟨fun h=>(by rw [h] at hr;cases hr),fun j hj=>?_⟩
  by_cases hji:j=i
  ·subst hji;exact self 0 aO listed fr Γ sG hy hp H
  ·have:=ready_mono hj hji;rw [H.1] at this;cases this
 | succ n ih =>
  intro aO listed fr Γ PJ hr sG hy hp H;refine ⟨fun h=>(by rw [h] at hr;cases hr),fun j hj=>?_⟩
  by_cases hji:j=i
  ·subst hji;exact self (n+1) aO listed fr Γ sG hy hp H
  ·have h1:=H.2 j (ready_mono hj hji);obtain ⟨SU,oj,LG,aK⟩:=mem_ready.1 hj
   have S2:∀ e∈oj.after,Region.binds .any e=true->e.on≠i:=fun e he hb heq=>by
    have h1:=aK e he hb;have h0:=(mem_ready.1 hr).1;rw [heq] at h1
    rcases Nat.lt_or_ge i listed.size with h' | h'
    ·simp [h'] at h0 h1;rw [h0] at h1;cases h1
    ·simp [Array.getElem?_eq_none h'] at h1
   have PH:=PJ j oj LG hji SU S2;obtain ⟨a1,a2,a3⟩:=Oper.apart_spec PH
   have rK:waits ops j i=false:=by
    simp only [waits,LG];rw [Array.any_eq_false'];intro e he hb;simp only [Bool.and_eq_true,beq_iff_eq] at hb;exact S2 e he hb.1 hb.2
   have bq:stay ops j ((i,g,od)::aO)=(i,g,od)::stay ops j aO:=by
    simp [stay,List.filter_cons,rK]
   rw [bq] at h1;have h2:=GI.comm hi LG PH (fun cs b=>Xi j oj cs b LG) (Ue sG hy) h1
   have VQ:kH ops j=oj.dst:=by simp [kH,LG]
   have SO:∀ k ok,ops[k]?=some ok->k≠i->(listed.setIfInBounds j true).getD k true=false ->
     (∀ e∈ok.after,Region.binds .any e=true->e.on≠i)->oi.apart ops ok=true:=fun k ok hk cH V5 bV=>by
    refine PJ k ok hk cH ?_ bV
    by_cases hjk:j=k
    ·subst hjk;exact SU
    ·rw [getD_set_ne true hjk] at V5;exact V5
   refine h2.mono fun gj aD ⟨h3,h4⟩=>⟨fun p hp=>h3 p (mem_cons_of_mem _ hp),?_⟩
   refine ih (stay ops j aO) (listed.setIfInBounds j true) (bf fr (kH ops j) gj) aD SO (ready_mono hr (Ne.symm hji)) ?_ (h3 (i,g,od) (mem_cons_self)) (fun p hp=>h3 p (mem_cons_of_mem _ hp)) ?_
   ·rw [<-sG,VQ];exact Ox a3 fr
   ·rw [Array.setIfInBounds_comm _ _ hji]
    have UM:bf (bf fr (kH ops j) gj) oi.dst g=bf (bf fr oi.dst g) (kH ops j) gj:=by
     rw [VQ]
     cases hdi:oi.dst with
     | none=>rfl
     | some t =>
      cases hdj':oj.dst with
      | none=>rfl
      | some u =>
       have bN:t≠u:=fun e=>a2 t hdi (by rw [hdj',e])
       have gen:∀ (fr:List GV) (t u:Nat),t≠u->bg (bg fr u gj) t g=bg (bg fr t g) u gj:=by
        intro fr
        induction fr with
        | nil=>intro t u _;rfl
        | cons x fr ih =>
         intro t u h
         cases t with
         | zero=>cases u with | zero=>exact absurd rfl h | succ u=>rfl
         | succ t=>cases u with | zero=>rfl | succ u=>simp only [bg];rw [ih t u (fun e=>h (by rw [e]))]
       exact gen fr t u bN
    rw [UM];exact h4
inductive Ot where
 | nil
 | q (i:Nat) (r:Ot)
 | a (i:Nat) (r:Ot)
 | f (i:Nat) (r:Ot) (j:Nat) (s:Ot)
def Ot.len:Ot->Nat
 | .nil=>0
 | .q _ r=>r.len+1
 | .a _ r=>r.len+1
 | .f _ r _ _=>r.len+1
def uy (ops:Array Oper):Ot->Array Bool->Bool
 | .nil,listed=>(Region.ready .any ops listed).isEmpty
 | .q i r,listed=>(Region.ready .any ops listed).contains i&&Region.free .any ops listed i&&uy ops r (listed.setIfInBounds i true)
 | .a i r,listed=>(Region.ready .any ops listed==[i])&&uy ops r (listed.setIfInBounds i true)
 | .f i r j s,listed=>(Region.ready .any ops listed==[i,j])&&uy ops r (listed.setIfInBounds i true)&&uy ops s (listed.setIfInBounds j true)&&(r.len==s.len)
def GO (P:Program) (ops:Array Oper) (Q:List GV->List Ob->Prop):Ot->kE->List GV->List Ob->Prop
 | .nil,_,fr,Γ=>Q fr Γ
 | .q i r,aO,fr,Γ=>∃ g,YQ P ops i g fr Γ/\GO P ops Q r ((i,g,fr)::aO) (bf fr (kH ops i) g) Γ
 | .a i r,aO,fr,Γ=>GI P ops i (fun g aD=>(∀ p∈stay ops i aO,YQ P ops p.1 p.2.1 p.2.2 aD)/\GO P ops Q r (stay ops i aO) (bf fr (kH ops i) g) aD) fr Γ
 | .f i r j s,aO,fr,Γ=>GI P ops i (fun g aD=>(∀ p∈stay ops i aO,YQ P ops p.1 p.2.1 p.2.2 aD)/\GO P ops Q r (stay ops i aO) (bf fr (kH ops i) g) aD) fr Γ/\GI P ops j (fun g aD=>(∀ p∈stay ops j aO,YQ P ops p.1 p.2.1 p.2.2 aD)/\GO P ops Q s (stay ops j aO) (bf fr (kH ops j) g) aD) fr Γ
theorem GO.fork {ops:Array Oper} {Q:List GV->List Ob->Prop} {i j:Nat} {r s:Ot} {aO:kE} {fr:List GV} {Γ:List Ob} (h1:GO P ops Q (.a i r) aO fr Γ) (h2:GO P ops Q (.a j s) aO fr Γ):GO P ops Q (.f i r j s) aO fr Γ:=⟨h1,h2⟩
theorem GO.all {ol:List Oper} {Q:List GV->List Ob->Prop} (hs:Region.noSelect ol.toArray=true):∀ (ord:Ot) (aO:kE) (listed:Array Bool) (fr:List GV) (Γ:List Ob),
  uy ol.toArray ord listed=true->(∀ p∈aO,YQ P ol.toArray p.1 p.2.1 p.2.2 Γ)->GO P ol.toArray Q ord aO fr Γ->o0 P ol.toArray Q ord.len aO listed fr Γ
 | .nil,aO,listed,fr,Γ,ho,_,h=>⟨by simpa [uy] using ho,h⟩
 | .q i r,aO,listed,fr,Γ,ho,hp,h=>by
  simp only [uy,Bool.and_eq_true] at ho;obtain ⟨⟨hr,hf⟩,ho⟩:=ho;obtain ⟨g,hy,h⟩:=h
  have BW:i∈Region.ready .any ol.toArray listed:=by simpa using hr
  obtain ⟨_,o,hi,_⟩:=mem_ready.1 BW
  have hd:kH ol.toArray i=o.dst:=by simp only [kH,hi];rfl
  rw [hd] at h
  exact o0.first hi (Region.noSelect_spec hs) _ aO listed fr Γ (Region.free_spec hi hf) BW rfl hy hp (GO.all hs r _ _ _ _ ho (fun p kW=>by
   rcases List.mem_cons.1 kW with rfl | kW
   ·exact hy
   ·exact hp p kW) h)
 | .a i r,aO,listed,fr,Γ,ho,hp,h=>by
  simp only [uy,Bool.and_eq_true,beq_iff_eq] at ho;obtain ⟨hr,ho⟩:=ho;refine ⟨fun h0=>by rw [h0] at hr;simp at hr,fun j hj=>?_⟩;rw [hr,List.mem_singleton] at hj;subst hj
  exact GI.mono h fun g aD ⟨h1,h2⟩=>⟨h1,GO.all hs r _ _ _ _ ho h1 h2⟩
 | .f i r j s,aO,listed,fr,Γ,ho,hp,h=>by
  simp only [uy,Bool.and_eq_true,beq_iff_eq] at ho;obtain ⟨⟨⟨hr,YN⟩,YO⟩,hl⟩:=ho;refine ⟨fun h0=>by rw [h0] at hr;simp at hr,fun k hk=>?_⟩;rw [hr] at hk;simp only [List.mem_cons,List.not_mem_nil,or_false] at hk
  rcases hk with rfl | rfl
  ·exact GI.mono h.1 fun g aD ⟨h1,h2⟩=>⟨h1,GO.all hs r _ _ _ _ YN h1 h2⟩
  ·exact GI.mono h.2 fun g aD ⟨h1,h2⟩=>⟨h1,by
    have:=GO.all hs s _ _ _ _ YO h1 h2
    rw [<-hl] at this;exact this⟩
theorem GW.draw {m id:Nat} {ol:List Oper} {Q:dR} {fr:List GV} {Γ:List Ob} (ord:Ot) (hm:P.follows .mixedOrders=true)
  (fc:(Region.noSelect ol.toArray&&(ord.len==ol.length)&&uy ol.toArray ord (Array.replicate ol.toArray.size false))=true)
  (h:GO P ol.toArray (Q .normal) ord [] fr Γ):GW P m (.region id ol.toArray true) Q fr Γ:=fun B K β w l hB hI hF=>by
 simp only [Bool.and_eq_true,beq_iff_eq] at fc;obtain ⟨⟨hs,hl⟩,ho⟩:=fc;refine wp_region_any hm ?_;have h1:=GO.all hs ord [] _ fr Γ ho (fun p hp=>by cases hp) h;rw [hl] at h1;have h2:=o0.sound (Q':=Q) hB (fun fr Γ h=>h) _ _ _ _ _ K β w.drew l h1 (hI.same (Ext.drew w)) hF;simpa using h2
end
end Go.Xg
namespace Go.Xg
open Go.RowKit Go.Xw
def jm:List Oper->Nat->Option Oper
 | [],_=>none
 | o::_,0=>some o
 | _::r,n+1=>jm r n
theorem qm {ol:List Oper} {i:Nat} {o:Oper} (h:jm ol i=some o):ol.toArray[i]?=some o:=by
 have:∀ (ol:List Oper) (i:Nat),jm ol i=ol[i]?:=by
  intro ol
  induction ol with
  | nil=>intro i;rfl
  | cons x ol ih=>intro i;cases i with | zero=>rfl | succ i=>simpa [jm] using ih i
 rw [this] at h;simpa using h
section
variable {P:Program} {Q:List GV->List Ob->Prop} {ol:List Oper} {r:Ot} {aO:kE} {fr:List GV} {Γ:List Ob} {i:Nat} {g:GV} {d:Option Tmp} {op:Op} {ty:TypeId} {pos:String} {af:Array Edge} {gd:Nat × Bool}
theorem uR {o:Oper} (h:jm ol i=some o):kH ol.toArray i=o.dst:=by simp only [kH,qm h];rfl
theorem GO.more {ops:Array Oper}:∀ (r:Ot) (aO dF:kE) (fr:List GV) (Γ:List Ob),(∀ p∈dF,p∈aO\/∀ Γ,YQ P ops p.1 p.2.1 p.2.2 Γ)->GO P ops Q r aO fr Γ->GO P ops Q r dF fr Γ
 | .nil,_,_,_,_,_,h=>h
 | .q i r,aO,dF,fr,Γ,hs,⟨g,h1,h2⟩=>⟨g,h1,GO.more r _ _ _ _ (fun p hp=>by
   rcases List.mem_cons.1 hp with rfl | hp
   ·exact .inl (mem_cons_self)
   ·exact (hs p hp).imp (mem_cons_of_mem _) id) h2⟩
 | .a i r,aO,dF,fr,Γ,hs,h=>GI.mono h fun g aD ⟨h1,h2⟩=>by
   have nS:∀ p∈stay ops i dF,p∈stay ops i aO\/∀ Γ,YQ P ops p.1 p.2.1 p.2.2 Γ:=fun p hp=>by
    simp only [stay,mem_filter] at hp |-;exact (hs p hp.1).imp (fun h=>⟨h,hp.2⟩) id
   exact ⟨fun p hp=>(nS p hp).elim (h1 p) (fun h=>h aD),GO.more r _ _ _ _ nS h2⟩
 | .f i r j s,aO,dF,fr,Γ,hs,h=>by
   have nS:∀ k,∀ p∈stay ops k dF,p∈stay ops k aO\/∀ Γ,YQ P ops p.1 p.2.1 p.2.2 Γ:=fun k p hp=>by
    simp only [stay,mem_filter] at hp |-;exact (hs p hp.1).imp (fun h=>⟨h,hp.2⟩) id
   exact ⟨GI.mono h.1 fun g aD ⟨h1,h2⟩=>⟨fun p hp=>(nS i p hp).elim (h1 p) (fun h=>h aD),GO.more r _ _ _ _ (nS i) h2⟩,GI.mono h.2 fun g aD ⟨h1,h2⟩=>⟨fun p hp=>(nS j p hp).elim (h1 p) (fun h=>h aD),GO.more s _ _ _ _ (nS j) h2⟩⟩
theorem GO.skip {ops:Array Oper} {x:Nat × GV × List GV} (hx:∀ Γ,YQ P ops x.1 x.2.1 x.2.2 Γ) (h:GO P ops Q r aO fr Γ):GO P ops Q r (x::aO) fr Γ:=by
 refine GO.more r aO _ fr Γ (fun p hp=>?_) h
 rcases List.mem_cons.1 hp with he | hp
 ·subst he;exact .inr hx
 ·exact .inl hp
theorem GO.yq {o:Oper} (hi:jm ol i=some o) (hy:YQ P ol.toArray i g fr Γ) (h:GO P ol.toArray Q r ((i,g,fr)::aO) (bf fr o.dst g) Γ):GO P ol.toArray Q (.q i r) aO fr Γ :=
 ⟨g,hy,by rw [uR hi];exact h⟩
theorem GO.yp {o:Oper} (hi:jm ol i=some o) (hy:∀ Γ,YQ P ol.toArray i g fr Γ) (h:GO P ol.toArray Q r aO (bf fr o.dst g) Γ):GO P ol.toArray Q (.q i r) aO fr Γ :=
 GO.yq hi (hy Γ) (GO.skip hy h)
theorem BR {c:Bool} {ops:List Oper} (hv:nb ops fr gd.1=some (some c)) (hc:c=gd.2):gG ops fr (some gd)=some true:=by
 obtain ⟨j,b⟩:=gd;simp only at hv hc;simp only [gG,hv,hc];simp
theorem Ee {c:Bool} {ops:List Oper} (hv:nb ops fr gd.1=some (some c)) (hc:c=!gd.2):gG ops fr (some gd)=some false:=by
 obtain ⟨j,b⟩:=gd;simp only at hv hc;simp only [gG,hv,hc];simp
theorem Sl {ops:List Oper} (hv:nb ops fr gd.1=some none):gG ops fr (some gd)=some false:=by
 obtain ⟨j,b⟩:=gd;simp only at hv;simp only [gG,hv]
theorem YQ.t {o:Oper} (hi:jm ol i=some o) (hg:gG ol (cD (o.looksAt ol.toArray) 0 fr) o.guard=some true) (hy:YG P o.op (cD (o.looksAt ol.toArray) 0 fr) Γ g):YQ P ol.toArray i g fr Γ:=⟨o,true,qm hi,hg,hy⟩
theorem YQ.f {o:Oper} (hi:jm ol i=some o) (hg:gG ol (cD (o.looksAt ol.toArray) 0 fr) o.guard=some false):YQ P ol.toArray i (.v undef) fr Γ:=⟨o,false,qm hi,hg,rfl⟩
theorem OQ (hi:jm ol i=some ⟨d,op,ty,pos,af,none⟩) (hy:YG P op (cD (Oper.looksAt ol.toArray ⟨d,op,ty,pos,af,none⟩) 0 fr) Γ g) (h:GO P ol.toArray Q r ((i,g,fr)::aO) (bf fr d g) Γ):GO P ol.toArray Q (.q i r) aO fr Γ :=
 GO.yq hi (YQ.t hi rfl hy) h
theorem OP (hi:jm ol i=some ⟨d,op,ty,pos,af,none⟩) (hy:∀ Γ,YG P op (cD (Oper.looksAt ol.toArray ⟨d,op,ty,pos,af,none⟩) 0 fr) Γ g) (h:GO P ol.toArray Q r aO (bf fr d g) Γ):GO P ol.toArray Q (.q i r) aO fr Γ :=
 GO.yp hi (fun Γ=>YQ.t hi rfl (hy Γ)) h
theorem XS {c:Bool} (hi:jm ol i=some ⟨d,op,ty,pos,af,some gd⟩) (hv:nb ol (cD (Oper.looksAt ol.toArray ⟨d,op,ty,pos,af,some gd⟩) 0 fr) gd.1=some (some c)) (hc:c=gd.2) (hy:YG P op (cD (Oper.looksAt ol.toArray ⟨d,op,ty,pos,af,some gd⟩) 0 fr) Γ g)
  (h:GO P ol.toArray Q r ((i,g,fr)::aO) (bf fr d g) Γ):GO P ol.toArray Q (.q i r) aO fr Γ :=
 GO.yq hi (YQ.t hi (BR hv hc) hy) h
theorem VB {c:Bool} (hi:jm ol i=some ⟨d,op,ty,pos,af,some gd⟩) (hv:nb ol (cD (Oper.looksAt ol.toArray ⟨d,op,ty,pos,af,some gd⟩) 0 fr) gd.1=some (some c)) (hc:c=gd.2) (hy:∀ Γ,YG P op (cD (Oper.looksAt ol.toArray ⟨d,op,ty,pos,af,some gd⟩) 0 fr) Γ g)
  (h:GO P ol.toArray Q r aO (bf fr d g) Γ):GO P ol.toArray Q (.q i r) aO fr Γ :=
 GO.yp hi (fun Γ=>YQ.t hi (BR hv hc) (hy Γ)) h
theorem XO {c:Bool} (hi:jm ol i=some ⟨d,op,ty,pos,af,some gd⟩) (hv:nb ol (cD (Oper.looksAt ol.toArray ⟨d,op,ty,pos,af,some gd⟩) 0 fr) gd.1=some (some c)) (hc:c=!gd.2) (h:GO P ol.toArray Q r aO (bf fr d (.v undef)) Γ):GO P ol.toArray Q (.q i r) aO fr Γ :=
 GO.yp hi (fun Γ=>YQ.f hi (Ee hv hc)) h
theorem XP (hi:jm ol i=some ⟨d,op,ty,pos,af,some gd⟩) (hv:nb ol (cD (Oper.looksAt ol.toArray ⟨d,op,ty,pos,af,some gd⟩) 0 fr) gd.1=some none) (h:GO P ol.toArray Q r aO (bf fr d (.v undef)) Γ):GO P ol.toArray Q (.q i r) aO fr Γ :=
 GO.yp hi (fun Γ=>YQ.f hi (Sl hv)) h
theorem H2:∀ (fr:List GV) (ts:List Nat) (k t:Nat),k+t∈ts->cq (cD ts k fr) t=cq fr t
 | [],_,_,_,_=>rfl
 | g::fr,ts,k,0,h=>by
  have hc:ts.contains k=true:=List.contains_iff_mem.2 (by simpa using h);simp only [cD,hc,cq]
 | g::fr,ts,k,t+1,h=>by
  simp only [cD,cq];exact H2 fr ts (k+1) t (by rw [show k+1+t=k+(t+1) by omega];exact h)
theorem vh {o:Oper} {ops:Array Oper} {x:Operand} (h:x∈o.op.operands.toList):aM (cD (o.looksAt ops) 0 fr) x=aM fr x:=by
 cases x with
 | tmp t =>
  refine H2 fr _ 0 t ?_;rw [Nat.zero_add];refine List.mem_append_left _ (List.mem_filterMap.2 ⟨.tmp t,h,rfl⟩)
 | _=>rfl
theorem XR {x:Operand} (hi:jm ol i=some ⟨d,.move x,ty,pos,af,none⟩) (h:GO P ol.toArray Q r aO (bf fr d (aM fr x)) Γ):GO P ol.toArray Q (.q i r) aO fr Γ :=
 OP hi (fun Γ=>by
  have:=YG.mv (P:=P) (x:=x) (Γ:=Γ) (fr:=cD (Oper.looksAt ol.toArray ⟨d,.move x,ty,pos,af,none⟩) 0 fr)
  rw [vh (by simp [Op.operands])] at this;exact this) h
theorem XQ {x:Operand} (hi:jm ol i=some ⟨d,.assign x,ty,pos,af,none⟩) (h:GO P ol.toArray Q r aO (bf fr d (aM fr x)) Γ):GO P ol.toArray Q (.q i r) aO fr Γ :=
 OP hi (fun Γ=>by
  have:=YG.tH (P:=P) (x:=x) (Γ:=Γ) (fr:=cD (Oper.looksAt ol.toArray ⟨d,.assign x,ty,pos,af,none⟩) 0 fr)
  rw [vh (by simp [Op.operands])] at this;exact this) h
theorem Wq {x:Operand} {c:Bool} (hi:jm ol i=some ⟨d,.move x,ty,pos,af,some gd⟩) (hv:nb ol (cD (Oper.looksAt ol.toArray ⟨d,.move x,ty,pos,af,some gd⟩) 0 fr) gd.1=some (some c)) (hc:c=gd.2) (h:GO P ol.toArray Q r aO (bf fr d (aM fr x)) Γ):GO P ol.toArray Q (.q i r) aO fr Γ :=
 VB hi hv hc (fun Γ=>by
  have:=YG.mv (P:=P) (x:=x) (Γ:=Γ) (fr:=cD (Oper.looksAt ol.toArray ⟨d,.move x,ty,pos,af,some gd⟩) 0 fr)
  rw [vh (by simp [Op.operands])] at this;exact this) h
theorem Wp {c a b:Operand} {t:Bool} (hi:jm ol i=some ⟨d,.pick c a b,ty,pos,af,none⟩) (hc:aM (cD (Oper.looksAt ol.toArray ⟨d,.pick c a b,ty,pos,af,none⟩) 0 fr) c=.v (.bool t)) (ht:t=true) (h:GO P ol.toArray Q r aO (bf fr d (aM fr a)) Γ):GO P ol.toArray Q (.q i r) aO fr Γ :=
 OP hi (fun Γ=>by
  have:=YG.vr (P:=P) (Γ:=Γ) (a:=a) (b:=b) hc ht
  rw [vh (by simp [Op.operands])] at this;exact this) h
theorem Wo {c a b:Operand} {t:Bool} (hi:jm ol i=some ⟨d,.pick c a b,ty,pos,af,none⟩) (hc:aM (cD (Oper.looksAt ol.toArray ⟨d,.pick c a b,ty,pos,af,none⟩) 0 fr) c=.v (.bool t)) (ht:t=false) (h:GO P ol.toArray Q r aO (bf fr d (aM fr b)) Γ):GO P ol.toArray Q (.q i r) aO fr Γ :=
 OP hi (fun Γ=>by
  have:=YG.vq (P:=P) (Γ:=Γ) (a:=a) (b:=b) hc ht
  rw [vh (by simp [Op.operands])] at this;exact this) h
inductive iM (P:Program) (ops:Array Oper) (i:Nat) (aD:List Ob):kE->kE->Prop
 | n:iM P ops i aD [] []
 | w {j:Nat} {g:GV} {od:List GV} {aO dF:kE} (hw:waits ops i j=true) (h:iM P ops i aD aO dF):iM P ops i aD ((j,g,od)::aO) dF
 | y {j:Nat} {g:GV} {od:List GV} {aO dF:kE} (hy:YQ P ops j g od aD) (h:iM P ops i aD aO dF):iM P ops i aD ((j,g,od)::aO) ((j,g,od)::dF)
theorem ue {ops:Array Oper} {q p:Nat × GV × List GV} (h:p∈stay ops i (q::aO)):(p=q/\waits ops i q.1=false)\/p∈stay ops i aO:=by
 simp only [stay,mem_filter] at h |-
 rcases List.mem_cons.1 h.1 with he | kW
 ·subst he;exact .inl ⟨rfl,by simpa using h.2⟩
 ·exact .inr ⟨kW,h.2⟩
theorem iM.spec {ops:Array Oper} {aD:List Ob} {dF:kE} (h:iM P ops i aD aO dF):(∀ p∈stay ops i aO,YQ P ops p.1 p.2.1 p.2.2 aD)/\∀ p∈stay ops i aO,p∈dF:=by
 induction h with
 | n=>exact ⟨fun p hp=>(by cases hp),fun p hp=>(by cases hp)⟩
 | w hw h ih =>
  refine ⟨fun p hp=>?_,fun p hp=>?_⟩
  ·rcases ue hp with ⟨_,h2⟩ | kW
   ·simp only at h2;rw [hw] at h2;cases h2
   ·exact ih.1 p kW
  ·rcases ue hp with ⟨_,h2⟩ | kW
   ·simp only at h2;rw [hw] at h2;cases h2
   ·exact ih.2 p kW
 | y hy h ih =>
  refine ⟨fun p hp=>?_,fun p hp=>?_⟩
  ·rcases ue hp with ⟨he,_⟩ | kW
   ·subst he;exact hy
   ·exact ih.1 p kW
  ·rcases ue hp with ⟨he,_⟩ | kW
   ·subst he;exact mem_cons_self
   ·exact mem_cons_of_mem _ (ih.2 p kW)
def R8 (fr:List GV):Option Tmp->Bool
 | none=>true
 | some t=>ju fr t
def eD (P:Program) (Q:List GV->List Ob->Prop) (ol:List Oper) (i:Nat) (r:Ot) (aO:kE) (fr:List GV) (d:Option Tmp) (bM:List GV) (aD:List Ob):Prop :=
 ∃ g dF,bM=bf fr d g/\iM P ol.toArray i aD aO dF/\GO P ol.toArray Q r dF (bf fr d g) aD
theorem GA.of {o:Oper} {Kt:GV->List Ob->Prop} {R:List GV->List Ob->Prop} {ops:Array Oper} (hg:o.guard=none) (hd:R8 fr o.dst=true) (hR:∀ bM aD,R bM aD->∃ g,bM=bf fr o.dst g/\Kt g aD) (h:GL P Γ.length ops (aQ R (fun _ _ _=>False)) [o] fr Γ):GA P o Kt fr Γ:=fun B K β w l hI hF=>by
 have h1:=h (cur K β Γ w) K β w l rfl hI.here hF;obtain ⟨d,op,ty,pos,af,gd⟩:=o;simp only at hg;subst hg;simp only at h1 hd;unfold WL wpList at h1;rw [if_pos (by rfl)] at h1
 rcases h1 with h1 | ⟨_,a0,w0,hf⟩
 ·rw [<-mT];refine Ui h1 (fun c a w' hf=>?_) (fun a w' hf=>?_) ?_ ?_
  ·obtain ⟨l',_,_,_,_,_,_,_,hq⟩:=hf;exact hq
  ·obtain ⟨l',_,_,_,_,_,_,_,hq⟩:=hf;exact hq
  ·rintro v w' ⟨l',hl,K',bO,bM,aD,bc,uZ,hq⟩;obtain ⟨g,rfl,hk⟩:=hR bM aD hq;rw [oK] at hl
   have jh:put l d v=l':=by
    have:=congrArg (fun a:Act=>a.tmps.toList) hl;simpa [act] using this
   subst jh;refine ⟨K',bO,g,aD,bc.kle,bc.ble,hI.Mx bc,fun Lb l2 h2=>?_,hk⟩
   cases d with
   | none=>exact h2
   | some t =>
    refine h2.eM t ?_;have hv:=uZ.nth t;have h3:nth (put l (some t) v) t=v:=r6 (mc hF hd) v
    have h4:cq (bf fr (some t) g) t=g:=by
     have gen:∀ (fr:List GV) (t:Nat),ju fr t=true->cq (bg fr t g) t=g:=by
      intro fr
      induction fr with
      | nil=>intro t h;cases h
      | cons x fr ih=>intro t h;cases t with | zero=>rfl | succ t=>exact ih t h
     exact gen fr t hd
    rw [h3,h4] at hv;exact hv
  ·rintro d' w' ⟨l',hl,_⟩;have:=congrArg (fun a:Act=>a.defers) hl
   cases d <;> simp [act,Act.put] at this
 ·obtain ⟨l',_,_,_,_,_,_,_,hq⟩:=hf;exact hq.elim
theorem eD.kt {bM:List GV} {aD:List Ob} (h:eD P Q ol i r aO fr d bM aD):∃ g,bM=bf fr d g/\((∀ p∈stay ol.toArray i aO,YQ P ol.toArray p.1 p.2.1 p.2.2 aD)/\GO P ol.toArray Q r (stay ol.toArray i aO) (bf fr d g) aD):=by
 obtain ⟨g,dF,h1,h2,h3⟩:=h;obtain ⟨h4,h5⟩:=h2.spec;exact ⟨g,h1,h4,GO.more r _ _ _ _ (fun p hp=>.inl (h5 p hp)) h3⟩
theorem OA (hi:jm ol i=some ⟨d,op,ty,pos,af,none⟩) (hd:R8 fr d=true) (h:GL P Γ.length ol.toArray (aQ (eD P Q ol i r aO fr d) (fun _ _ _=>False)) [⟨d,op,ty,pos,af,none⟩] fr Γ):GO P ol.toArray Q (.a i r) aO fr Γ:=by
 refine ⟨_,true,qm hi,rfl,?_⟩
 exact (GA.of (o:=⟨d,op,ty,pos,af,none⟩) rfl hd (fun bM aD hq=>eD.kt hq) h).mono fun g aD ⟨h1,h2⟩=>⟨h1,by rw [uR hi];exact h2⟩
theorem Pq {c:Bool} (hi:jm ol i=some ⟨d,op,ty,pos,af,some gd⟩) (hd:R8 fr d=true) (hv:nb ol fr gd.1=some (some c)) (hc:c=gd.2) (h:GL P Γ.length ol.toArray (aQ (eD P Q ol i r aO fr d) (fun _ _ _=>False)) [⟨d,op,ty,pos,af,none⟩] fr Γ):GO P ol.toArray Q (.a i r) aO fr Γ:=by
 refine ⟨_,true,qm hi,BR hv hc,?_⟩
 have:=(GA.of (o:=⟨d,op,ty,pos,af,none⟩) rfl hd (fun bM aD hq=>eD.kt hq) h).mono (DP:=fun g aD=>(∀ p∈stay ol.toArray i aO,YQ P ol.toArray p.1 p.2.1 p.2.2 aD)/\GO P ol.toArray Q r (stay ol.toArray i aO) (bf fr (kH ol.toArray i) g) aD) fun g aD ⟨h1,h2⟩=>⟨h1,by rw [uR hi];exact h2⟩
 exact this
theorem XM {c:Bool} {dF:kE} (hi:jm ol i=some ⟨d,op,ty,pos,af,some gd⟩) (hv:nb ol fr gd.1=some (some c)) (hc:c=!gd.2) (hs:iM P ol.toArray i Γ aO dF) (h:GO P ol.toArray Q r dF (bf fr d (.v undef)) Γ):GO P ol.toArray Q (.a i r) aO fr Γ :=
 ⟨_,false,qm hi,Ee hv hc,hs.spec.1,by rw [uR hi];exact GO.more r _ _ _ _ (fun p hp=>.inl (hs.spec.2 p hp)) h⟩
theorem XN {dF:kE} (hi:jm ol i=some ⟨d,op,ty,pos,af,some gd⟩) (hv:nb ol fr gd.1=some none) (hs:iM P ol.toArray i Γ aO dF) (h:GO P ol.toArray Q r dF (bf fr d (.v undef)) Γ):GO P ol.toArray Q (.a i r) aO fr Γ :=
 ⟨_,false,qm hi,Sl hv,hs.spec.1,by rw [uR hi];exact GO.more r _ _ _ _ (fun p hp=>.inl (hs.spec.2 p hp)) h⟩
theorem GO.nil (h:Q fr Γ):GO P ol.toArray Q .nil aO fr Γ:=h
theorem eD.mk {dF:kE} (hs:iM P ol.toArray i Γ aO dF) {od:List GV} (h:GO P ol.toArray Q r dF (bf od d g) Γ):eD P Q ol i r aO od d (bf od d g) Γ:=⟨g,dF,rfl,hs,h⟩
theorem nV {ops:Array Oper} {bM:List GV} {aD:List Ob} (h1:fr=bM) (h2:Γ=aD) (h:GO P ops Q r aO bM aD):GO P ops Q r aO fr Γ:=by subst h1;subst h2;exact h
theorem VA {ops:Array Oper} {bM:List GV} (h1:fr=bM) (h:GO P ops Q r aO bM Γ):GO P ops Q r aO fr Γ:=by subst h1;exact h
end
theorem GW.range {P:Program} {m:Nat} {Q:dR} {fr:List GV} {Γ:List Ob} {B C r1 r2:Nat} {body:Code} {tb ti tn ta:Tmp} {T1 T2 T3 T4 T5 T6 T7:TypeId} {p1 p2 p3:String} {a1 a2 a3:Array Edge} (n:Nat) (I:Nat->List GV->List Ob->Prop)
  (h0:yP m (I 0) fr Γ) (hn:n<=1099511627776)
  (hI:∀ k fr Γ,I k fr Γ->cq fr ti=.v (ii k)/\cq fr tn=.v (ii n)/\ju fr tb=true)
  (UL:∀ k fr Γ,k < n->I k fr Γ->GW P m body (aR C (aQ (fun bM aD=>cq bM ti=.v (ii k)/\ju bM ta=true/\yP m (I (k+1)) (bg (bg bM ta (.v (ii ((k+1:Nat):Int)))) ti (.v (ii ((k+1:Nat):Int)))) aD) (aR B Q))) (bg fr tb (.v (.bool true))) Γ)
  (v7:∀ fr Γ,I n fr Γ->Q .normal (bg fr tb (.v (.bool false))) Γ) :
  GW P m (.loop (.seq (.region r1 [(⟨some tb,.binOp .lss T1 (.tmp ti) (.tmp tn) T2,T3,p1,a1,none⟩:Oper)].toArray false) (.seq (.cond (.tmp tb) .skip (.exit B))
   (.seq (.block C body) (.region r2 [(⟨some ta,.binOp .add T4 (.tmp ti) (.const (.int .i64 1)) T5,T6,p2,a2,none⟩:Oper),⟨some ti,.move (.tmp ta),T7,p3,a3,none⟩].toArray false))))) (aR B Q) fr Γ:=by
 have y9:∀ (fr:List GV) (t:Nat) (g:GV),ju fr t=true->cq (bg fr t g) t=g:=by
  intro fr
  induction fr with
  | nil=>intro t g h;cases h
  | cons x fr ih=>intro t g h;cases t with | zero=>rfl | succ t=>exact ih t g h
 refine GW.loop (fun k:Nat=>n - k) (fun k fr Γ=>k<=n/\I k fr Γ) 0 ?_ ?_
 ·obtain ⟨bM,aD,hw,h⟩:=h0;exact ⟨bM,aD,hw,Nat.zero_le _,h⟩
 rintro k fr Γ ⟨hk,hi⟩;obtain ⟨h1,h2,h3⟩:=hI k fr Γ hi;refine GW.seq (GW.region (GL.q (YG.go (v:=.bool (decide ((k:Int) < (n:Int)))) ?_) (GL.nil (aJ ?_))))
 ·simp only [Ss,Xw.go,aM,h1,h2,BU,I9,ii,JQ,Ja]
 by_cases ao:k < n
 ·have hd:decide ((k:Int) < (n:Int))=true:=by simpa using ao
  simp only [bf,hd];refine GW.seq (Pn (y9 fr tb _ h3) rfl (GW.skip (aJ (GW.seq (GW.block ?_)))));refine GW.mono (UL k fr Γ ao hi) ?_;intro e bM aD hq;have key:∀ bM aD,(cq bM ti=.v (ii k)/\ju bM ta=true/\yP m (I (k+1)) (bg (bg bM ta (.v (ii ((k+1:Nat):Int)))) ti (.v (ii ((k+1:Nat):Int)))) aD) ->
    GW P m (.region r2 [(⟨some ta,.binOp .add T4 (.tmp ti) (.const (.int .i64 1)) T5,T6,p2,a2,none⟩:Oper),⟨some ti,.move (.tmp ta),T7,p3,a3,none⟩].toArray false) (aQ (fun bM aD=>∃ y:Nat,yP m (fun fr Γ=>y<=n/\I y fr Γ) bM aD/\n - y < n - k) (aR B Q)) bM aD:=by
   rintro bM aD ⟨h5,h6,Lb,Dr,hw,h7⟩;refine GW.region (GL.q (YG.o9 (a:=k) h5 rfl (by omega)) (GL.q YG.mv (GL.nil (aJ ⟨k+1,⟨Lb,Dr,?_,ao,h7⟩,by omega⟩))));have h8:aM (bg bM ta (.v (ii ((k+1:Nat):Int)))) (.tmp ta)=.v (ii ((k+1:Nat):Int)):=y9 bM ta _ h6;simp only [bf,h8];exact hw
  cases e with
  | normal=>exact key bM aD hq
  | exit id =>
   simp only [aR] at hq |-;split <;> rename_i hh
   ·rw [if_pos hh] at hq;exact key bM aD hq
   ·rw [if_neg hh] at hq;exact hq
  | goto _=>exact hq
  | ret=>exact hq
  | panic _=>exact hq
  | outgrown=>exact hq
 ·have ng:k=n:=by omega
  have hd:decide ((k:Int) < (n:Int))=false:=by simpa using ao
  simp only [bf,hd];refine GW.seq (Pm (y9 fr tb _ h3) rfl (GW.exit (Eh (Eh (Hu ?_)))));subst ng;exact v7 fr Γ hi
end Go.Xg
namespace Go.Xg
open Go.RowKit Go.Xw
def l8 (g g':GV):Prop:=∀ K β x,Rel K β x g->Rel K β x g'
def kD (gs hs:List GV):Prop:=∀ K β vs,aU K β vs gs->aU K β vs hs
theorem l8.refl {g:GV}:l8 g g:=fun _ _ _ h=>h
theorem l8.any {g:GV}:l8 g .any:=fun _ _ _ _=>.any _
theorem l8.nil {k:Nat}:l8 (.v (.slice none 0 0)) (.sl k []):=fun K β x h=>by
 rw [Rel.eg h];exact .sl0 _ _ _
theorem kD.nil:kD [] []:=fun _ _ _ h=>h
theorem kD.refl {gs:List GV}:kD gs gs:=fun _ _ _ h=>h
theorem kD.cons {g h:GV} {gs hs:List GV} (h1:l8 g h) (h2:kD gs hs):kD (g::gs) (h::hs):=fun K β vs hv=>by
 cases vs with
 | nil=>have:=hv.1;simp at this
 | cons v vs=>obtain ⟨a,b⟩:=hv.ou;exact .cons (h1 K β v a) (h2 K β vs b)
theorem l8.agg {gs hs:List GV} (h:kD gs hs):l8 (.agg gs) (.agg hs):=fun K β x hx=>by
 cases hx with
 | agg vs _ hl h'=>obtain ⟨a,b⟩:=h K β vs ⟨hl,h'⟩;exact .agg vs hs a b
theorem l8.tup {gs hs:List GV} (h:kD gs hs):l8 (.tup gs) (.tup hs):=fun K β x hx=>by
 cases hx with
 | tup vs _ hl h'=>obtain ⟨a,b⟩:=h K β vs ⟨hl,h'⟩;exact .tup vs hs a b
inductive RV:List GV->List GV->Prop
 | nil:RV [] []
 | cons {f g:GV} {fs gs:List GV} (h:l8 f g) (t:RV fs gs):RV (f::fs) (g::gs)
section
variable {P:Program} {m:Nat} {Q:dR} {fr:List GV} {Γ:List Ob} {ops:Array Oper} {rest:List Oper} {d:Option Tmp} {op:Op} {ty:TypeId} {pos:String} {af:Array Edge}
theorem Wk.cells (i:Nat) {E:TypeId} {cs ds:List GV} (hi:Γ[i]?=some (.box E cs)) (h:kD cs ds):Wk m fr Γ fr (oset Γ i (.box E ds)):=fun B K β w l _ hI hF=>by
 rw [aV];refine ⟨K,β,⟨hI.ext,hI.kle,hI.ble,hI.loc,hI.fz,fun j x hj=>?_,fun j hj=>hI.out j (by simpa using hj),hI.dis,hI.own,hI.kn,hI.tab⟩,hF⟩;rw [getElem?_set] at hj;split at hj
 ·rename_i gx;split at hj
  ·cases hj;subst gx
   obtain ⟨b,vs,h1,h2,h3,h4⟩:=hI.ob i _ hi;exact ⟨b,vs,h1,h2,h K β vs h3,h4⟩
  ·cases hj
 ·exact hI.ob j x hj
theorem GL.Aw {f:FuncId} [hf:az P f] (aI:List Nat) {args:List Operand} {mj:Array TypeId} {gs:List GV} {gL:List Ob} {R:GV->List Ob->Prop} (hc:GC P f gs gL R) (ha:kD (args.map (aM fr)) (lx (bJ aI Γ.length) gs)) (fc:ic aI Γ.length=true)
  (br:seen (bJ aI Γ.length) Γ aI gL) (h:∀ g aD,R g aD->aI.length<=aD.length/\GL P m ops Q rest (bf fr d (dx (bJ aI Γ.length) g)) (dM Γ aI (aD.map (Ob.dx (bJ aI Γ.length))))) :
  GL P m ops Q (⟨d,.call ⟨.value (.func f),args.toArray,mj⟩,ty,pos,af,none⟩::rest) fr Γ :=
 GL.calls (vs:=fun l=>args.map (ev l)) (fun K β w l hF=>⟨ha K β _ (hF.args args),by simp [execOp,resolve,ev,Deferred.ofValue,invoke,ly]⟩) fc br hc h
theorem GL.Uw {f:FuncId} [hf:az P f] (aI:List Nat) {args:List Operand} {mj:Array TypeId} {gs:List GV} {gL qG:List Ob} {g:GV} (hc:GF P f gs gL g qG) (ha:kD (args.map (aM fr)) (lx (bJ aI Γ.length) gs)) (fc:ic aI Γ.length=true)
  (br:seen (bJ aI Γ.length) Γ aI gL) (hl:Nat.ble aI.length qG.length=true) (h:GL P m ops Q rest (bf fr d (dx (bJ aI Γ.length) g)) (dM Γ aI (qG.map (Ob.dx (bJ aI Γ.length))))) :
  GL P m ops Q (⟨d,.call ⟨.value (.func f),args.toArray,mj⟩,ty,pos,af,none⟩::rest) fr Γ :=
 GL.Aw aI hc ha fc br fun g' aD ⟨h1,h2⟩=>by subst h1;subst h2;exact ⟨by simpa using hl,h⟩
end
section
variable {P:Program} {fr:List GV} {Γ:List Ob} {g:GV}
theorem K.bin {o:BinOp} {t t':TypeId} {x y:Operand} (h:YG P (.binOp o t x y t') fr Γ g):YG P (.binOp o t x y t') fr Γ g:=h
theorem K.ld {t:TypeId} {x:Operand} (h:YG P (.load t x) fr Γ g):YG P (.load t x) fr Γ g:=h
theorem K.pj {t:TypeId} {x:Operand} {i:Nat} (h:YG P (.fieldAddr t x i) fr Γ g):YG P (.fieldAddr t x i) fr Γ g:=h
theorem K.len {t:TypeId} {x:Operand} (h:YG P (.call ⟨.builtin .len,#[x],#[t]⟩) fr Γ g):YG P (.call ⟨.builtin .len,#[x],#[t]⟩) fr Γ g:=h
theorem K.xR {x:Operand} (h:YG P (.nilCheck x) fr Γ g):YG P (.nilCheck x) fr Γ g:=h
theorem K.idx {t:TypeId} {x y:Operand} (h:YG P (.indexAddr t x y) fr Γ g):YG P (.indexAddr t x y) fr Γ g:=h
theorem K.pick {a b c:Operand} (h:YG P (.pick a b c) fr Γ g):YG P (.pick a b c) fr Γ g:=h
theorem K.xY {t:TypeId} {x:Operand} {a b c:Option Operand} (h:YG P (.slice t x a b c) fr Γ g):YG P (.slice t x a b c) fr Γ g:=h
theorem K.jn {f:Fn} {a b:Array Operand} (h:YG P (.makeFunc f a b) fr Γ g):YG P (.makeFunc f a b) fr Γ g:=h
end
section
variable {P:Program} {fn:Func} {m:Nat} {fr:List GV} {Γ aD:List Ob} {e:Exit} {g:GV}
theorem AB {R:GV->List Ob->Prop} (h:sC P fn m (fun x Δ=>∃ y,l8 x y/\R y Δ) e fr Γ):sC P fn m R e fr Γ :=
 ⟨h.1,fun B K β w l hm hI hF=>by
  obtain ⟨v,K',bO,x,Δ,h1,h2,h3,y,h4,h5⟩:=h.2 B K β w l hm hI hF
  exact ⟨v,K',bO,y,Δ,h1,h2,h4 _ _ _ h3,h5⟩⟩
end
end Go.Xg
