import Derived.Test.YtmmlbeejeckhdaaCore
set_option linter.unusedSimpArgs false
set_option linter.unusedVariables false
namespace Go.Xw
open Go.RowKit

/-! Worlds that go on from one another: but for the blocks of S all that was there stands. -/
structure Ext (S : Nat → Prop) (w w' : World) : Prop where
  os : w'.os = w.os
  tape : w'.tape = w.tape
  output : w'.output = w.output
  size : w.heap.size ≤ w'.heap.size
  block : ∀ k, k < w.heap.size → ¬ S k → w'.heap[k]? = w.heap[k]?
abbrev none' : Nat → Prop := fun _ => False
theorem Ext.refl {S : Nat → Prop} (w : World) : Ext S w w := ⟨rfl, rfl, rfl, Nat.le_refl _, fun _ _ _ => rfl⟩
theorem Ext.trans {S : Nat → Prop} {a b c : World} (h : Ext S a b) (k : Ext S b c) : Ext S a c :=
  ⟨k.os.trans h.os, k.tape.trans h.tape, k.output.trans h.output, Nat.le_trans h.size k.size,
    fun i hi hs => (k.block i (Nat.lt_of_lt_of_le hi h.size) hs).trans (h.block i hi hs)⟩
theorem Ext.step {S0 S : Nat → Prop} {a b c : World} (h : Ext S0 a b) (k : Ext S b c) (hs : ∀ j, S j → a.heap.size ≤ j ∨ S0 j) : Ext S0 a c :=
  ⟨k.os.trans h.os, k.tape.trans h.tape, k.output.trans h.output, Nat.le_trans h.size k.size,
    fun i hi hn => (k.block i (Nat.lt_of_lt_of_le hi h.size) fun hsi => by
      rcases hs i hsi with h1 | h1
      · omega
      · exact hn h1).trans (h.block i hi hn)⟩
theorem Ext.mono {S S' : Nat → Prop} {a b : World} (h : Ext S a b) (hs : ∀ k, k < a.heap.size → S k → S' k) : Ext S' a b :=
  ⟨h.os, h.tape, h.output, h.size, fun i hi hn => h.block i hi fun x => hn (hs i hi x)⟩
theorem Ext.cell {S : Nat → Prop} {a b : World} (h : Ext S a b) {p : Addr} (hp : p.block < a.heap.size) (hs : ¬ S p.block) : b.cell? p = a.cell? p :=
  World.cell?_of_block (w := a) (h.block _ hp hs)
/-- a cell that was there -/
theorem Ext.at {S : Nat → Prop} {a b : World} (h : Ext S a b) {p : Addr} {v : Value} (hv : a.cell? p = some v) (hs : ¬ S p.block) : b.cell? p = some v := by
  rw [h.cell (block_lt_of_cell hv) hs, hv]
theorem Ext.blk {S : Nat → Prop} {a b : World} (h : Ext S a b) {k : Nat} {o : Obj} (hv : a.heap[k]? = some o) (hs : ¬ S k) : b.heap[k]? = some o := by
  rw [h.block k (by have := (Array.getElem?_eq_some_iff.1 hv).1; exact this) hs, hv]
theorem lt_of_blk {w : World} {k : Nat} {o : Obj} (hv : w.heap[k]? = some o) : k < w.heap.size := (Array.getElem?_eq_some_iff.1 hv).1
theorem at_of_blk {w : World} {b o : Nat} {cs : Array Value} {E : TypeId} {fz : Nat × Nat} {v : Value} (hb : w.heap[b]? = some (.cells cs E fz)) (hv : cs[o]? = some v) : w.cell? ⟨b, o, none⟩ = some v := by
  rw [cell_of_row w b o cs E fz hb, hv]
theorem Ext.below {a b : World} (h : Ext none' a b) : Below a.heap.size a b := ⟨h.os, h.tape, h.output, h.size, fun k hk => h.block k hk (fun x => x)⟩
theorem Ext.of_below {S : Nat → Prop} {a b : World} (h : Below a.heap.size a b) : Ext S a b := ⟨h.os, h.tape, h.output, h.size, fun k hk _ => h.block k hk⟩

/-- a new block -/
structure New (w w' : World) (b : Nat) (o : Obj) : Prop where
  fresh : b = w.heap.size
  size : w'.heap.size = b + 1
  blk : w'.heap[b]? = some o
  ext : Ext none' w w'
theorem New.of (w : World) (o : Obj) : New w (w.alloc o) w.heap.size o :=
  ⟨rfl, by simp, heap_alloc_new w o, ⟨rfl, rfl, rfl, by simp, fun k hk _ => Below.heap_alloc _ _ _ hk⟩⟩

/-! What a type is. -/
def aggDesc : TypeDesc → Bool
  | .struct _ => true
  | .array _ _ => true
  | _ => false
class Ty (P : Program) (t : TypeId) (agg : outParam Bool) (k : outParam Nat) : Prop where
  und : (P.underlying t).map aggDesc = some agg
  siz : (P.info? t).map (·.size) = some k
class SlT (P : Program) (t : TypeId) (e : outParam TypeId) (k : outParam Nat) : Prop where
  und : P.underlying t = some (.slice e)
  siz : (P.info? e).map (·.size) = some k
class StrT (P : Program) (t : TypeId) : Prop where
  und : P.underlying t = some .string
def fldIs (P : Program) (s : TypeId) (i : Nat) (off : Nat) (k : Nat) (agg : Bool) : Bool :=
  match P.underlying s with
  | some (.struct fs) => match fs[i]? with
    | some f => f.offset == off && (match P.info? f.type with | some x => x.size == k | none => false) && k != 0 && ((P.underlying f.type).map aggDesc == some agg)
    | none => false
  | _ => false
class Fld (P : Program) (s : TypeId) (i : Nat) (off : outParam Nat) (k : outParam Nat) (agg : outParam Bool) : Prop where
  is : fldIs P s i off k agg = true

section
variable {P : Program} {w : World}
theorem run_isAgg {t : TypeId} {agg : Bool} {k : Nat} [h : Ty P t agg k] : (isAgg t).run P w = .ok agg w := by
  obtain ⟨hu, _⟩ := h
  cases hd : P.underlying t with
  | none => simp [hd] at hu
  | some d =>
    rw [hd] at hu
    unfold isAgg
    rw [Sem.run_bind, run_underlying hd w]
    cases d <;> simp_all [aggDesc]
theorem run_sizeOf' {t : TypeId} {k : Nat} (h : (P.info? t).map (·.size) = some k) : (sizeOf t).run P w = .ok k w := by
  cases hq : P.info? t with
  | none => simp [hq] at h
  | some i => simp [hq] at h; simp [sizeOf, typeInfo, hq, h]
theorem add_mk (b o n : Nat) : (⟨b, o, none⟩ : Addr).add n = ⟨b, o + n, none⟩ := by
  unfold Addr.add; split
  · rename_i h; subst h; rfl
  · rfl
theorem run_loadVar1 {t : TypeId} [h : Ty P t false 1] {a : Addr} {v : Value} (hv : w.cell? a = some v) : (loadVar t a).run P w = .ok v w := by
  unfold loadVar
  rw [Sem.run_bind, run_isAgg (agg := false) (k := 1)]
  simp [hv]
theorem run_loadVarN {t : TypeId} {k : Nat} [h : Ty P t true k] {b o : Nat} {vs : List Value} (hl : vs.length = k) (hv : ∀ j v, vs[j]? = some v → w.cell? ⟨b, o + j, none⟩ = some v) :
    (loadVar t ⟨b, o, none⟩).run P w = .ok (.agg vs.toArray) w := by
  unfold loadVar
  rw [Sem.run_bind, run_isAgg (agg := true) (k := k)]
  have hc : (loadCells ⟨b, o, none⟩ k).run P w = .ok vs.toArray w := by
    rw [← hl]
    exact run_loadCells_list w _ vs fun j v hj => by rw [add_mk]; exact hv j v hj
  simp [run_sizeOf' h.siz, hc]
end

/-- an operation that yields a value and leaves the world alone -/
def Runs (P : Program) (l : List Value) (w : World) (op : Op) (v : Value) : Prop :=
  ∀ (d : Option Tmp) (ty : TypeId) (pos : String) (af : Array Edge), (execOp (ev l) ⟨d, op, ty, pos, af, none⟩).run P w = .ok (.value v) w
theorem WL.v {P : Program} {Q : Post} {l : List Value} {w : World} {ops : Array Oper} {rest : List Oper} {d : Option Tmp} {op : Op} {ty : TypeId} {pos : String} {af : Array Edge} {v : Value}
    (hr : Runs P l w op v) (h : WL P ops Q rest (put l d v) w) : WL P ops Q (⟨d, op, ty, pos, af, none⟩ :: rest) l w := WL.val (hr d ty pos af) h

/-! The rules. -/
section
variable {P : Program} {l : List Value} {w : World}

theorem R.mv {x : Operand} : Runs P l w (.move x) ((ev l x)) := fun d ty pos af => by simp [execOp]
theorem R.asg {x : Operand} : Runs P l w (.assign x) ((ev l x)) := fun d ty pos af => by simp [execOp]
theorem R.pick {c a b : Operand} {t : Bool} (hc : ev l c = .bool t) : Runs P l w (.pick c a b) ((if t then ev l a else ev l b)) := fun d ty pos af => by simp [execOp, hc, asBool]
theorem R.nilck {x : Operand} {a : Addr} (hx : ev l x = .pointer (some a)) : Runs P l w (.nilCheck x) ((.pointer (some a))) := fun d ty pos af => by simp [execOp, hx]
theorem R.extract {x : Operand} {i : Nat} {vs : Array Value} {v : Value} (hx : ev l x = .tuple vs) (hv : vs[i]? = some v) : Runs P l w (.extract x i) (v) := fun d ty pos af => by simp [execOp, hx, Instr.extract, hv]
theorem R.mkfn {fn : Fn} {first cap : Array Operand} : Runs P l w (.makeFunc fn first cap) ((.func fn (first.map (ev l)) (cap.map (ev l)))) := fun d ty pos af => by simp [execOp, Instr.makeFunc]
/-! strings as lists of bytes -/
abbrev Str := List UInt8
def sv (s : Str) : Value := .string ⟨s.toArray⟩
theorem toList_mk (s : Str) : (⟨s.toArray⟩ : ByteArray).toList = s := by
  simp [ByteArray.toList_eq]
theorem size_mk (s : Str) : (⟨s.toArray⟩ : ByteArray).size = s.length := by
  simp [ByteArray.size]
theorem sv_of (b : ByteArray) : Value.string b = sv b.data.toList := by
  simp [sv]
theorem append_mk (a b : Str) : (⟨a.toArray⟩ : ByteArray) ++ ⟨b.toArray⟩ = ⟨(a ++ b).toArray⟩ := by
  apply ByteArray.ext; simp
theorem extract_mk (s : Str) (i j : Nat) : (⟨s.toArray⟩ : ByteArray).extract i j = ⟨((s.take j).drop i).toArray⟩ := by
  apply ByteArray.ext
  simp [ByteArray.data_extract, List.take_drop]
  by_cases h : i ≤ j
  · rw [Nat.add_sub_cancel' h]
  · rw [List.drop_eq_nil_of_le (by simp; omega), List.drop_eq_nil_of_le (by simp; omega)]

theorem u8beq (x c : UInt8) : ((x.toNat : Int) == (c.toNat : Int)) = (x == c) := by
  rw [Bool.eq_iff_iff]
  simp only [beq_iff_eq]
  constructor
  · intro h; exact UInt8.toNat_inj.1 (by omega)
  · rintro rfl; rfl
abbrev ii (n : Int) : Value := .int .i64 n
def inI (n : Int) : Prop := -9223372036854775808 ≤ n ∧ n ≤ 9223372036854775807
theorem wrap_in {n : Int} (h1 : -9223372036854775808 ≤ n) (h2 : n ≤ 9223372036854775807) : IntKind.i64.wrap n = n := IntWalk.i64_in _ ⟨h1, h2⟩

theorem R.lenS {x : Operand} {t : TypeId} [hT : StrT P t] {s : Str} (hx : ev l x = sv s) : Runs P l w (.call ⟨.builtin .len, #[x], #[t]⟩) ((ii s.length)) := fun d ty pos af => by simp [execOp, resolve, invoke, builtin, hx, sv, Builtin.len_, goInt, run_underlying hT.und, size_mk]
theorem R.lenL {x : Operand} {t e : TypeId} {k : Nat} [hT : SlT P t e k] {a : Option Addr} {n c : Nat} (hx : ev l x = .slice a n c) : Runs P l w (.call ⟨.builtin .len, #[x], #[t]⟩) ((ii n)) := fun d ty pos af => by simp [execOp, resolve, invoke, builtin, hx, Builtin.len_, goInt, run_underlying hT.und]
theorem R.add {x y : Operand} {t t' : TypeId} {a b : Int} (hx : ev l x = ii a) (hy : ev l y = ii b) (h1 : -9223372036854775808 ≤ a + b) (h2 : a + b ≤ 9223372036854775807) : Runs P l w (.binOp .add t x y t') ((ii (a + b))) := fun d ty pos af => by simp [execOp, eqGuard, hx, hy, binOp, Op.intArith, wrap_in h1 h2]
theorem R.sub {x y : Operand} {t t' : TypeId} {a b : Int} (hx : ev l x = ii a) (hy : ev l y = ii b) (h1 : -9223372036854775808 ≤ a - b) (h2 : a - b ≤ 9223372036854775807) : Runs P l w (.binOp .sub t x y t') ((ii (a - b))) := fun d ty pos af => by simp [execOp, eqGuard, hx, hy, binOp, Op.intArith, wrap_in h1 h2]
theorem R.mul {x y : Operand} {t t' : TypeId} {a b : Int} (hx : ev l x = ii a) (hy : ev l y = ii b) (h1 : -9223372036854775808 ≤ a * b) (h2 : a * b ≤ 9223372036854775807) : Runs P l w (.binOp .mul t x y t') ((ii (a * b))) := fun d ty pos af => by simp [execOp, eqGuard, hx, hy, binOp, Op.intArith, wrap_in h1 h2]
theorem R.cat {x y : Operand} {t t' : TypeId} {a b : Str} (hx : ev l x = sv a) (hy : ev l y = sv b) (h1 : a.length + b.length ≤ 9223372036854775807) : Runs P l w (.binOp .add t x y t') ((sv (a ++ b))) := fun d ty pos af => by
    have h2 : ¬ ((((⟨a.toArray⟩ : ByteArray).size + (⟨b.toArray⟩ : ByteArray).size : Nat) : Int) > IntKind.i64.max) := by
      rw [size_mk, size_mk]; simp [IntKind.max, IntKind.signed, IntKind.bits]; omega
    simp only [execOp, eqGuard, hx, hy, binOp, sv, Op.stringOp, if_neg h2, append_mk]; simp
/-- comparisons of numbers of one kind -/
theorem R.eq {x y : Operand} {t t' : TypeId} {k : IntKind} {a b : Int} (hx : ev l x = .int k a) (hy : ev l y = .int k b) : Runs P l w (.binOp .eql t x y t') ((.bool (a == b))) := fun d ty pos af => by simp [execOp, eqGuard, hx, hy, binOp, Op.intCmp]
theorem R.ne {x y : Operand} {t t' : TypeId} {k : IntKind} {a b : Int} (hx : ev l x = .int k a) (hy : ev l y = .int k b) : Runs P l w (.binOp .neq t x y t') ((.bool (a != b))) := fun d ty pos af => by simp [execOp, eqGuard, hx, hy, binOp, Op.intCmp]
theorem R.lt {x y : Operand} {t t' : TypeId} {k : IntKind} {a b : Int} (hx : ev l x = .int k a) (hy : ev l y = .int k b) : Runs P l w (.binOp .lss t x y t') ((.bool (decide (a < b)))) := fun d ty pos af => by simp [execOp, eqGuard, hx, hy, binOp, Op.intCmp]
theorem R.le {x y : Operand} {t t' : TypeId} {k : IntKind} {a b : Int} (hx : ev l x = .int k a) (hy : ev l y = .int k b) : Runs P l w (.binOp .leq t x y t') ((.bool (decide (a ≤ b)))) := fun d ty pos af => by simp [execOp, eqGuard, hx, hy, binOp, Op.intCmp]
theorem R.gt' {x y : Operand} {t t' : TypeId} {k : IntKind} {a b : Int} (hx : ev l x = .int k a) (hy : ev l y = .int k b) : Runs P l w (.binOp .gtr t x y t') ((.bool (decide (b < a)))) := fun d ty pos af => by simp [execOp, eqGuard, hx, hy, binOp, Op.intCmp]
theorem R.ge {x y : Operand} {t t' : TypeId} {k : IntKind} {a b : Int} (hx : ev l x = .int k a) (hy : ev l y = .int k b) : Runs P l w (.binOp .geq t x y t') ((.bool (decide (b ≤ a)))) := fun d ty pos af => by simp [execOp, eqGuard, hx, hy, binOp, Op.intCmp]
theorem R.eqS {x y : Operand} {t t' : TypeId} {a b : Str} (hx : ev l x = sv a) (hy : ev l y = sv b) : Runs P l w (.binOp .eql t x y t') ((.bool (a == b))) := fun d ty pos af => by simp only [execOp, eqGuard, hx, hy, binOp, sv, Op.stringOp, toList_mk]; simp
theorem R.neS {x y : Operand} {t t' : TypeId} {a b : Str} (hx : ev l x = sv a) (hy : ev l y = sv b) : Runs P l w (.binOp .neq t x y t') ((.bool (!(a == b)))) := fun d ty pos af => by simp only [execOp, eqGuard, hx, hy, binOp, sv, Op.stringOp, toList_mk]; simp
theorem R.not {x : Operand} {t : TypeId} {b : Bool} (hx : ev l x = .bool b) : Runs P l w (.unOp .not t x) ((.bool (!b))) := fun d ty pos af => by simp [execOp, hx, Op.unary]
theorem R.idxS {x y : Operand} {t : TypeId} [hT : StrT P t] {s : Str} {k : IntKind} {i : Nat} {c : UInt8} (hx : ev l x = sv s) (hy : ev l y = .int k i) (hc : s[i]? = some c) : Runs P l w (.index t x y) ((.int .u8 c.toNat)) := fun d ty pos af => by
    have hg : (⟨s.toArray⟩ : ByteArray)[i]? = some c := by
      obtain ⟨hi, hv⟩ := List.getElem?_eq_some_iff.1 hc
      have hi' : i < (⟨s.toArray⟩ : ByteArray).size := by rw [size_mk]; exact hi
      rw [getElem?_pos (⟨s.toArray⟩ : ByteArray) i hi']
      simp only [ByteArray.getElem_eq_getElem_data]
      simpa using hv
    simp [execOp, Instr.index, hx, hy, asIntOf, run_underlying hT.und, sv, hg]
theorem R.subS {x : Operand} {t : TypeId} [hT : StrT P t] {s : Str} {lo hi : Option Operand} {i j : Nat} (hx : ev l x = sv s)
    (hlo : match lo with | some y => ∃ k, ev l y = .int k i | none => i = 0) (hhi : match hi with | some y => ∃ k, ev l y = .int k j | none => j = s.length)
    (h1 : i ≤ j) (h2 : j ≤ s.length) : Runs P l w (.slice t x lo hi none) ((sv ((s.take j).drop i))) := fun d ty pos af => by
    have hsz := size_mk s
    cases lo <;> cases hi <;> simp only at hlo hhi
    · subst hlo; subst hhi
      simp [execOp, Instr.sliceAt, Instr.slice, Instr.sliceBounds, hx, sv, run_underlying hT.und, hsz, extract_mk]
    · obtain ⟨k, hk⟩ := hhi; subst hlo
      simp [execOp, Instr.sliceAt, Instr.slice, Instr.sliceBounds, Instr.sliceBound, asIntOf, hx, hk, sv, run_underlying hT.und, hsz, extract_mk, h2]
    · obtain ⟨k, hk⟩ := hlo; subst hhi
      simp [execOp, Instr.sliceAt, Instr.slice, Instr.sliceBounds, Instr.sliceBound, asIntOf, hx, hk, sv, run_underlying hT.und, hsz, extract_mk, h1]
    · obtain ⟨k, hk⟩ := hlo; obtain ⟨k', hk'⟩ := hhi
      simp [execOp, Instr.sliceAt, Instr.slice, Instr.sliceBounds, Instr.sliceBound, asIntOf, hx, hk, hk', sv, run_underlying hT.und, hsz, extract_mk, h1, h2]
/-- an element's place -/
theorem R.idxA {x y : Operand} {t e : TypeId} {k : Nat} [hT : SlT P t e k] {b o n c : Nat} {kk : IntKind} {i : Nat} (hx : ev l x = .slice (some ⟨b, o, none⟩) n c) (hy : ev l y = .int kk i) (hi : i < n) : Runs P l w (.indexAddr t x y) ((.pointer (some ⟨b, o + i * k, none⟩))) := fun d ty pos af => by
    simp [execOp, Instr.indexAt, hx, hy, asIntOf, run_underlying hT.und, hi, run_sizeOf' hT.siz, add_mk]
theorem R.fldA {x : Operand} {s : TypeId} {i off k : Nat} {agg : Bool} [hT : Fld P s i off k agg] {b o : Nat} (hx : ev l x = .pointer (some ⟨b, o, none⟩)) : Runs P l w (.fieldAddr s x i) ((.pointer (some ⟨b, o + off, none⟩))) := fun d ty pos af => by
    obtain ⟨hT⟩ := hT
    unfold fldIs at hT
    split at hT
    · rename_i fs hu
      split at hT
      · rename_i f hf
        simp only [Bool.and_eq_true, beq_iff_eq, bne_iff_ne, ne_eq] at hT
        obtain ⟨⟨⟨h1, h2⟩, h3⟩, h4⟩ := hT
        split at h2
        · rename_i x hq
          have hs : (P.info? f.type).map (·.size) = some k := by rw [hq]; simpa using h2
          simp [execOp, Instr.fieldAt, hx, run_underlying hu, hf, Instr.sureAddr, fieldPlace, run_sizeOf' hs, h3, add_mk, h1]
        · cases h2
      · cases hT
    · cases hT
theorem R.ld1 {x : Operand} {t : TypeId} [hT : Ty P t false 1] {a : Addr} {v : Value} (hx : ev l x = .pointer (some a)) (hv : w.cell? a = some v) : Runs P l w (.load t x) (v) := fun d ty pos af => by simp [execOp, Instr.loadAt, hx, Instr.sureAddr, run_loadVar1 hv]
theorem R.ldN {x : Operand} {t : TypeId} {k : Nat} [hT : Ty P t true k] {b o : Nat} {vs : List Value} (hx : ev l x = .pointer (some ⟨b, o, none⟩)) (hl : vs.length = k)
    (hv : ∀ j v, vs[j]? = some v → w.cell? ⟨b, o + j, none⟩ = some v) : Runs P l w (.load t x) ((.agg vs.toArray)) := fun d ty pos af => by simp [execOp, Instr.loadAt, hx, Instr.sureAddr, run_loadVarN hl hv]
end
end Go.Xw
