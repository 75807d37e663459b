import Derived.Test.YtmmlbeejeckhdaaOps
set_option linter.unusedSimpArgs false
set_option linter.unusedVariables false
namespace Go.Xw
open Go.RowKit

class Zer (P : Program) (t : TypeId) (z : outParam Value) : Prop where
  is : (P.info? t).bind (·.zero) = some z
/-- the stored block: its cells now; all else as it was -/
structure Sto (w w' : World) (b : Nat) (cs : Array Value) (E : TypeId) : Prop where
  blk : w'.heap[b]? = some (.cells cs E (0, 0))
  ext : Ext (· = b) w w'
  size : w'.heap.size = w.heap.size
def setL (cs : Array Value) (o : Nat) : List Value → Array Value
  | [] => cs
  | v :: r => setL (cs.setIfInBounds o v) (o + 1) r
def ones (vs : List Value) : Bool := vs.all (·.oneCell')

section
variable {P : Program} {w : World}
theorem run_zero {t : TypeId} {z : Value} [h : Zer P t z] : (zeroValue t).run P w = .ok z w := by
  obtain ⟨h⟩ := h
  cases hq : P.info? t with
  | none => simp [hq] at h
  | some i => simp [hq] at h; simp [zeroValue, typeInfo, hq, h]
theorem Sto.refl {b : Nat} {cs : Array Value} {E : TypeId} (hb : w.heap[b]? = some (.cells cs E (0, 0))) : Sto w w b cs E := ⟨hb, Ext.refl _, rfl⟩
theorem Sto.trans {w1 w2 : World} {b : Nat} {cs cs' : Array Value} {E : TypeId} (h : Sto w w1 b cs E) (k : Sto w1 w2 b cs' E) : Sto w w2 b cs' E :=
  ⟨k.blk, h.ext.trans k.ext, k.size.trans h.size⟩
theorem Sto.setCell {b o : Nat} {cs : Array Value} {E : TypeId} (hb : w.heap[b]? = some (.cells cs E (0, 0))) (v : Value) :
    Sto w (w.setCell ⟨b, o, none⟩ v) b (cs.setIfInBounds o v) E :=
  ⟨heap_setCell_same w b o cs E v hb, ⟨rfl, rfl, rfl, by simp, fun k _ hs => heap_setCell_other w _ k v hs⟩, by simp⟩
theorem run_storeCells {b o : Nat} {E : TypeId} : ∀ (vs : List Value) (i : Nat) (w : World) (cs : Array Value), w.heap[b]? = some (.cells cs E (0, 0)) → o + i + vs.length ≤ cs.size → ones vs = true →
    ∃ w', (storeCells ⟨b, o, none⟩ vs i).run P w = .ok () w' ∧ Sto w w' b (setL cs (o + i) vs) E
  | [], i, w, cs, hb, _, _ => ⟨w, by simp [storeCells], Sto.refl hb⟩
  | v :: r, i, w, cs, hb, hl, h1 => by
    simp only [ones, List.all_cons, Bool.and_eq_true] at h1
    simp only [List.length_cons] at hl
    have hs := Sto.setCell (w := w) (o := o + i) hb v
    obtain ⟨w', hr, hst⟩ := run_storeCells (b := b) (o := o) (E := E) r (i + 1) _ _ hs.blk (by simp; omega) h1.2
    refine ⟨w', ?_, hs.trans (by simpa [setL, Nat.add_assoc] using hst)⟩
    have hc : w.cell? ⟨b, o + i, none⟩ = cs[o + i]? := cell_of_row w b (o + i) cs E (0, 0) hb
    have hc' : ∃ u, w.cell? ⟨b, o + i, none⟩ = some u := ⟨cs[o + i]'(by omega), by rw [hc]; simp⟩
    obtain ⟨u, hu⟩ := hc'
    have hf : w.frozen? ⟨b, o + i, none⟩ = false := frozen_of_row w b _ cs E hb
    have hst1 : (store ((⟨b, o, none⟩ : Addr).add i) v).run P w = .ok () (w.setCell ⟨b, o + i, none⟩ v) := by
      rw [add_mk]
      cases v <;> first | (simp [Value.oneCell'] at h1; done) | simp [store, Sem.run, hu, hf]
    simp only [storeCells, Sem.run_bind, hst1, Result.andThen_ok, hr]
theorem run_storeVar {t : TypeId} {agg : Bool} {k : Nat} [hT : Ty P t agg k] {b o : Nat} {E : TypeId} {cs : Array Value} {v : Value} (hb : w.heap[b]? = some (.cells cs E (0, 0)))
    (hl : v.cells.size = k) (ho : o + k ≤ cs.size) (h1 : ones v.cells.toList = true) :
    ∃ w', (storeVar t ⟨b, o, none⟩ v).run P w = .ok () w' ∧ Sto w w' b (setL cs o v.cells.toList) E := by
  obtain ⟨w', hr, hs⟩ := run_storeCells (P := P) (o := o) v.cells.toList 0 w cs hb (by simp; omega) h1
  refine ⟨w', ?_, by simpa using hs⟩
  simp [storeVar, run_sizeOf' hT.siz, hl, hr]
end

/-! parts laid over zeros -/
def setR : List Value → Nat → List Value → List Value
  | cs, _, [] => cs
  | cs, o, v :: r => setR (upd cs o v) (o + 1) r
def fillL (pl : Nat → Option (Nat × Nat)) : List Value → List (Nat × Value) → Option (List Value)
  | cs, [] => some cs
  | cs, (i, v) :: r => match pl i with
    | none => none
    | some (o, k) => if v.cells.size ≠ k || decide (o + v.cells.size > cs.length) then none else fillL pl (setR cs o v.cells.toList) r
theorem setR_len : ∀ (vs : List Value) (cs : List Value) (o : Nat), (setR cs o vs).length = cs.length
  | [], _, _ => rfl
  | v :: r, cs, o => by
    rw [setR, setR_len r]
    have := congrArg Array.size (upd_eq cs o v)
    simpa using this.symm
theorem foldl_setR : ∀ (vs : List Value) (cs : List Value) (o n : Nat),
    (vs.zipIdx n).foldl (fun (cs : Array Value) (x : Value × Nat) => cs.setIfInBounds (o + x.2) x.1) cs.toArray = (setR cs (o + n) vs).toArray
  | [], cs, o, n => by simp [setR]
  | v :: r, cs, o, n => by
    simp only [List.zipIdx_cons, List.foldl_cons, upd_eq, setR]
    rw [foldl_setR r]; rfl
theorem fill_list (pl : Nat → Option (Nat × Nat)) : ∀ (parts : List (Nat × Value)) (cs : List Value),
    Instr.fill pl cs.toArray parts = (fillL pl cs parts).map List.toArray
  | [], cs => by simp [Instr.fill, fillL]
  | (i, v) :: r, cs => by
    simp only [Instr.fill, fillL]
    cases hp : pl i with
    | none => rfl
    | some x =>
      obtain ⟨o, k⟩ := x
      simp only [List.size_toArray]
      split
      · rfl
      · have h : (v.cells.zipIdx.foldl (fun (cs : Array Value) (x : Value × Nat) => cs.setIfInBounds (o + x.2) x.1) cs.toArray) = (setR cs o v.cells.toList).toArray := by
          have := foldl_setR v.cells.toList cs o 0
          rw [← Array.foldl_toList, Array.toList_zipIdx]; exact this
        have h2 := fill_list pl r (setR cs o v.cells.toList)
        rw [← h2, ← h]
/-- a struct's fields: offset and size of each -/
def strIs (P : Program) (t : TypeId) (pl : List (Nat × Nat)) : Bool :=
  match P.underlying t with
  | some (.struct fs) => (fs.toList.map fun f => (f.offset, (P.info? f.type).map (·.size))) == pl.map fun x => (x.1, some x.2)
  | _ => false
class StF (P : Program) (t : TypeId) (pl : outParam (List (Nat × Nat))) (z : outParam (List Value)) : Prop where
  is : strIs P t pl = true
  zero : (P.info? t).bind (·.zero) = some (.agg z.toArray)
section
variable {P : Program} {w : World}
theorem run_mapM_places {fs : List Field} : ∀ {pl : List (Nat × Nat)}, (fs.map fun f => (f.offset, (P.info? f.type).map (·.size))) = (pl.map fun x => (x.1, some x.2)) →
    (List.mapM (m := Sem) (fun (f : Field) => Prod.mk f.offset <$> sizeOf f.type) fs).run P w = .ok pl w := by
  induction fs with
  | nil => intro pl h; cases pl with | nil => simp | cons => simp at h
  | cons f fs ih =>
    intro pl h
    cases pl with
    | nil => simp at h
    | cons x pl =>
      simp only [List.map_cons, List.cons.injEq, Prod.mk.injEq] at h
      obtain ⟨⟨h1, h2⟩, h3⟩ := h
      have := ih h3
      have h5 := run_sizeOf' (w := w) h2
      simp [List.mapM_cons, Sem.run_bind, h5, this, h1]
theorem run_build {t : TypeId} {pl : List (Nat × Nat)} {z : List Value} [hT : StF P t pl z] {parts : List (Nat × Value)} {cs : List Value} (hf : fillL (fun i => pl[i]?) z parts = some cs) :
    (Instr.build t parts.toArray).run P w = .ok (.agg cs.toArray) w := by
  obtain ⟨hi, hz⟩ := hT
  have hzz : (zeroValue t).run P w = .ok (.agg z.toArray) w := by
    haveI : Zer P t (.agg z.toArray) := ⟨hz⟩
    exact run_zero
  unfold strIs at hi
  split at hi
  · rename_i fs hu
    have hm := run_mapM_places (P := P) (w := w) (eq_of_beq hi)
    have hma : (Array.mapM (m := Sem) (fun (f : Field) => Prod.mk f.offset <$> sizeOf f.type) fs).run P w = .ok pl.toArray w := by
      rw [Array.mapM_eq_mapM_toList]
      simp [hm]
    have hfl := fill_list (fun i => pl[i]?) parts z
    rw [hf] at hfl
    simp [Instr.build, Sem.run_bind, hzz, run_underlying hu, hma, Value.cells]
    simp [hfl]
  · cases hi
end

/-! The rules that touch memory. -/
section
variable {P : Program} {Q : Post} {l : List Value} {w : World} {ops : Array Oper} {rest : List Oper} {d : Option Tmp} {ty : TypeId} {pos : String} {af : Array Edge}

theorem run_newVar (t : TypeId) (v : Value) : (newVar t v).run P w = .ok ⟨w.heap.size, 0, none⟩ (w.alloc (.cells v.cells t)) := by
  rfl
theorem WL.alloc {t : TypeId} {z : Value} [hT : Zer P t z] (h : ∀ b w', New w w' b (.cells z.cells t) → WL P ops Q rest (put l d (.pointer (some ⟨b, 0, none⟩))) w') :
    WL P ops Q (⟨d, .alloc t, ty, pos, af, none⟩ :: rest) l w :=
  WL.val (w' := w.alloc (.cells z.cells t)) (by simp [execOp, Instr.alloc, run_zero (w := w) (z := z), run_newVar]) (h _ _ (New.of w _))
theorem WL.box {t : TypeId} {x : Operand} {v : Value} (hx : ev l x = v) (h : ∀ b w', New w w' b (.cells v.cells t) → WL P ops Q rest (put l d (.pointer (some ⟨b, 0, none⟩))) w') :
    WL P ops Q (⟨d, .box t x, ty, pos, af, none⟩ :: rest) l w :=
  WL.val (w' := w.alloc (.cells v.cells t)) (by simp [execOp, Instr.box, run_newVar, hx]) (h _ _ (New.of w _))
theorem R.build {t : TypeId} {pl : List (Nat × Nat)} {z : List Value} [hT : StF P t pl z] {parts : List (Nat × Operand)} {cs : List Value}
    (hf : fillL (fun i => pl[i]?) z (parts.map fun x => (x.1, ev l x.2)) = some cs) : Runs P l w (.build t parts.toArray) (.agg cs.toArray) := fun d ty pos af => by
    have hr := run_build (P := P) (w := w) (t := t) hf
    simp only [execOp, List.map_toArray]
    simp [hr]
class SlZ (P : Program) (t : TypeId) (e : outParam TypeId) (k : outParam Nat) (z : outParam (List Value)) : Prop where
  und : P.underlying t = some (.slice e)
  siz : (P.info? e).map (·.size) = some k
  zero : (P.info? e).bind (·.zero) = some (if k = 1 then z.headD undef else .agg z.toArray)
  zl : z.length = k
  pos : 0 < k
  one : k = 1 → (z.headD undef).cells = #[z.headD undef]
theorem SlZ.cells {t e : TypeId} {k : Nat} {z : List Value} (h : SlZ P t e k z) : (if k = 1 then z.headD undef else .agg z.toArray).cells = z.toArray := by
  split
  · rename_i hk
    rw [h.one hk]
    have := h.zl
    rw [hk] at this
    match z, this with
    | [a], _ => rfl
  · rfl
theorem WL.mkslice {t e : TypeId} {k : Nat} {z : List Value} [hT : SlZ P t e k z] {n : Nat} {parts : List (Nat × Operand)} {cs : List Value} (hn : n * k ≤ 16777216)
    (hf : fillL (fun i => some (i * k, k)) ((List.range (n * k)).map fun j => z.getD (j % k) undef) (parts.map fun x => (x.1, ev l x.2)) = some cs)
    (h : ∀ b w', New w w' b (.cells cs.toArray e) → WL P ops Q rest (put l d (.slice (some ⟨b, 0, none⟩) n n)) w') :
    WL P ops Q (⟨d, .buildSlice t n parts.toArray, ty, pos, af, none⟩ :: rest) l w :=
  WL.val (w' := w.alloc (.cells cs.toArray e)) (by
    have hz : (zeroValue e).run P w = .ok (if k = 1 then z.headD undef else .agg z.toArray) w := by
      haveI : Zer P e (if k = 1 then z.headD undef else .agg z.toArray) := ⟨hT.zero⟩
      exact run_zero
    have hc := hT.cells
    generalize (if k = 1 then z.headD undef else .agg z.toArray : Value) = zv at hz hc
    have hfl := fill_list (fun i => some (i * k, k)) (parts.map fun x => (x.1, ev l x.2)) ((List.range (n * k)).map fun j => z.getD (j % k) undef)
    rw [hf] at hfl
    have hn' : ¬ (16777216 < n * k) := by omega
    by_cases h0 : n * k = 0
    · have h00 : n = 0 := by
        rcases Nat.mul_eq_zero.1 h0 with h | h
        · exact h
        · have := hT.pos; omega
      subst h00
      simp only [Nat.zero_mul, List.range_zero, List.map_nil] at hfl
      simp only [execOp, List.map_toArray]
      have hr0 : (Array.range 0) = #[] := rfl
      simp [Instr.buildSlice, run_underlying hT.und, run_sizeOf' hT.siz, hr0, hfl]
      rfl
    · have he : (Array.range (n * k)).map (fun j => z.toArray[j % z.toArray.size]!) = ((List.range (n * k)).map fun j => z.getD (j % k) undef).toArray := by
        apply Array.ext'
        simp only [Array.toList_map, Array.toList_range]
        apply List.map_congr_left
        intro j _
        have hk := hT.pos
        have hlt : j % k < z.length := by rw [hT.zl]; exact Nat.mod_lt _ hk
        rw [List.getD_eq_getElem?_getD, List.getElem?_eq_getElem hlt]
        simp [hT.zl]
        rw [List.getElem?_eq_getElem hlt]; rfl
      rw [← he] at hfl
      simp only [execOp, List.map_toArray]
      simp [Instr.buildSlice, run_underlying hT.und, run_sizeOf' hT.siz, hn', h0, hz, hc]
      simp only [List.size_toArray] at hfl
      simp at hfl
      simp [hfl]
      rfl) (h _ _ (New.of w _))
theorem WL.st {x y : Operand} {t : TypeId} {agg : Bool} {k : Nat} [hT : Ty P t agg k] {b o : Nat} {E : TypeId} {cs : Array Value} {v : Value} (hx : ev l x = .pointer (some ⟨b, o, none⟩)) (hy : ev l y = v)
    (hb : w.heap[b]? = some (.cells cs E (0, 0))) (hl : v.cells.size = k) (ho : o + k ≤ cs.size) (h1 : ones v.cells.toList = true)
    (h : ∀ w', Sto w w' b (setL cs o v.cells.toList) E → WL P ops Q rest (put l d undef) w') : WL P ops Q (⟨d, .store t x y, ty, pos, af, none⟩ :: rest) l w := by
  obtain ⟨w', hr, hs⟩ := run_storeVar (P := P) (t := t) hb hl ho h1
  exact WL.skp (w' := w') (by simp [execOp, Instr.storeAt, hx, hy, Instr.sureAddr, hr]) (h w' hs)
end

/-! Calls. -/
def entersOk (P : Program) (f : FuncId) : Bool :=
  match P.funcs[f]? with
  | some fn => fn.name != "runtime.NumGoroutine" && fn.body.isSome
  | none => false
class Fun (P : Program) (f : FuncId) : Prop where
  ok : entersOk P f = true
/-- THE CONTRACT: the call hands back a value; no panic, no want of room. -/
def Ret (P : Program) (f : FuncId) (args : List Value) (w : World) (R : Value → World → Prop) : Prop :=
  Calls P f args.toArray w fun e w' => ∃ v, e = .returned v ∧ R v w'
theorem Ret.mono {P : Program} {f : FuncId} {args : List Value} {w : World} {R R' : Value → World → Prop} (h : Ret P f args w R) (hr : ∀ v w', R v w' → R' v w') : Ret P f args w R' :=
  Calls.mono h fun _ _ ⟨v, he, r⟩ => ⟨v, he, hr _ _ r⟩
theorem run_callFunc {P : Program} {w : World} {f : FuncId} [h : Fun P f] (args : Array Value) : (callFunc f args).run P w = .ok (.enter f args) w := by
  obtain ⟨h⟩ := h
  unfold entersOk at h
  split at h
  · rename_i fn hf
    simp only [Bool.and_eq_true, bne_iff_ne, ne_eq] at h
    have h2 : fn.body.isNone = false := by cases hb : fn.body <;> simp_all
    simp [callFunc, program, Sem.run, hf, h.1, h2]
    intro hn; simp [hn] at h2
  · cases h
section
variable {P : Program} {Q : Post} {l : List Value} {w : World} {ops : Array Oper} {rest : List Oper} {d : Option Tmp} {ty : TypeId} {pos : String} {af : Array Edge}
theorem WL.calls {op : Op} {f : FuncId} {argv : List Value} (hr : (execOp (ev l) ⟨d, op, ty, pos, af, none⟩).run P w = .ok (.enter f argv.toArray) w) {R : Value → World → Prop}
    (hc : Ret P f argv w R) (h : ∀ v w', R v w' → WL P ops Q rest (put l d v) w') : WL P ops Q (⟨d, op, ty, pos, af, none⟩ :: rest) l w := by
  refine wpList_plain rfl fun K hK => ?_
  simp only [Oper.wp, act_eval, hr, Oper.upon_enter]
  refine Calls.mono hc ?_
  rintro e w' ⟨v, rfl, hv⟩
  simp only [act_put]
  exact hK _ _ (h v w' hv)
/-- a call of a function by its name -/
theorem WL.call {f : FuncId} [hf : Fun P f] {args : List Operand} {tys : Array TypeId} {argv : List Value} (ha : args.map (ev l) = argv) {R : Value → World → Prop}
    (hc : Ret P f argv w R) (h : ∀ v w', R v w' → WL P ops Q rest (put l d v) w') : WL P ops Q (⟨d, .call ⟨.value (.func f), args.toArray, tys⟩, ty, pos, af, none⟩ :: rest) l w :=
  WL.calls (by simp [execOp, resolve, ev, Deferred.ofValue, invoke, run_callFunc, ha]) hc h
/-- a call of a function value -/
theorem WL.callV {f : FuncId} [hf : Fun P f] {x : Operand} {first cap : Array Value} (hx : ev l x = .func (.func f) first cap) {args : List Operand} {tys : Array TypeId} {argv : List Value} (ha : first.toList ++ args.map (ev l) ++ cap.toList = argv) {R : Value → World → Prop}
    (hc : Ret P f argv w R) (h : ∀ v w', R v w' → WL P ops Q rest (put l d v) w') : WL P ops Q (⟨d, .call ⟨.value x, args.toArray, tys⟩, ty, pos, af, none⟩ :: rest) l w :=
  WL.calls (by
    have : argv.toArray = first ++ (args.map (ev l)).toArray ++ cap := by rw [← ha]; simp
    simp [execOp, resolve, hx, Deferred.ofValue, invoke, run_callFunc, this]) hc h
end

/-! Entering and leaving. -/
def rep : Nat → List Value
  | 0 => []
  | n + 1 => undef :: rep n
def frame : List Value → Nat → List Value
  | [], n => rep n
  | a :: r, n => a :: frame r (n - 1)
theorem rep_eq (n : Nat) : rep n = List.replicate n undef := by
  induction n with
  | zero => rfl
  | succ n ih => rw [rep, ih]; rfl
theorem frame_eq (args : List Value) (n : Nat) : frame args n = args ++ List.replicate (n - args.length) undef := by
  induction args generalizing n with
  | nil => simp [frame, rep_eq]
  | cons a r ih => rw [frame, ih]; simp [Nat.sub_sub, Nat.add_comm]
/-- what a body must have done -/
def bpost (P : Program) (fn : Func) (R : Value → World → Prop) : Post
  | .normal, l, w | .ret, l, w => ∃ v, (results fn l.toArray).run P w = .ok v w ∧ R v w
  | _, _, _ => False
theorem Ret.enter {P : Program} {f : FuncId} {fn : Func} {c : Code} {args : List Value} {w : World} {R : Value → World → Prop} {n : Nat} {l : List Value}
    (hf : P.funcs[f]? = some fn) (hn : fn.ntmps = n) (hb : fn.body = some c) (hl : frame args n = l) (h : W P c (bpost P fn R) l w) : Ret P f args w R := by
  subst hl
  refine calls_of_wp hf hb ?_
  have hfr : (args.toArray ++ Array.replicate (fn.ntmps - args.toArray.size) undef) = (frame args n).toArray := by
    simp [frame_eq, hn]
  rw [hfr]
  refine wp_mono h ?_
  rintro e a w ⟨l, rfl, hq⟩
  cases e <;> simp only [bpost] at hq <;> simp only [bodyPost]
  · obtain ⟨v, hr, hv⟩ := hq; exact ⟨rfl, v, hr, v, rfl, hv⟩
  · obtain ⟨v, hr, hv⟩ := hq; exact ⟨rfl, v, hr, v, rfl, hv⟩
theorem bpost1 {P : Program} {fn : Func} {R : Value → World → Prop} {l : List Value} {w : World} {t : Tmp} (hr : fn.results = #[.tmp t]) (h : R (nth l t) w) : bpost P fn R .ret l w :=
  ⟨nth l t, by rw [results_tmp hr, nth_eq], h⟩
theorem bpost0 {P : Program} {fn : Func} {R : Value → World → Prop} {l : List Value} {w : World} (hr : fn.results = #[]) (h : R (.tuple #[]) w) : bpost P fn R .ret l w :=
  ⟨.tuple #[], by rw [results_none hr], h⟩
theorem bpost0n {P : Program} {fn : Func} {R : Value → World → Prop} {l : List Value} {w : World} (hr : fn.results = #[]) (h : R (.tuple #[]) w) : bpost P fn R .normal l w :=
  ⟨.tuple #[], by rw [results_none hr], h⟩
theorem bpost2 {P : Program} {fn : Func} {R : Value → World → Prop} {l : List Value} {w : World} {t u : Tmp} (hr : fn.results = #[.tmp t, .tmp u]) (h : R (.tuple #[nth l t, nth l u]) w) : bpost P fn R .ret l w :=
  ⟨_, by rw [results_tmp2 hr, nth_eq, nth_eq], h⟩
theorem bpost3 {P : Program} {fn : Func} {R : Value → World → Prop} {l : List Value} {w : World} {t u s : Tmp} (hr : fn.results = #[.tmp t, .tmp u, .tmp s]) (h : R (.tuple #[nth l t, nth l u, nth l s]) w) : bpost P fn R .ret l w :=
  ⟨.tuple #[nth l t, nth l u, nth l s], by
    rw [← nth_eq l t, ← nth_eq l u, ← nth_eq l s]
    simp [results, hr], h⟩
/-- a struct that lies in a cell -/
theorem bpostC {P : Program} {fn : Func} {R : Value → World → Prop} {l : List Value} {w : World} {t : Tmp} {T : TypeId} {k : Nat} [hT : Ty P T true k] {b : Nat} {E : TypeId} {cs : Array Value}
    (hr : fn.results = #[.cell t T]) (hp : nth l t = .pointer (some ⟨b, 0, none⟩)) (hb : w.heap[b]? = some (.cells cs E (0, 0))) (hk : cs.size = k) (h : R (.agg cs) w) : bpost P fn R .ret l w := by
  refine ⟨.agg cs, ?_, h⟩
  have hp' : l.toArray.getD t undef = .pointer (some ⟨b, 0, none⟩) := by rw [nth_eq, hp]
  have hl := run_loadVarN (P := P) (w := w) (t := T) (b := b) (o := 0) (vs := cs.toList) (k := k) (by simpa using hk) (fun j v hj => by
    rw [Nat.zero_add, cell_of_row w b j cs E (0, 0) hb]; simpa using hj)
  have hp'' : l[t]?.getD undef = .pointer (some ⟨b, 0, none⟩) := by simpa using hp'
  simp [results, hr, hp'', asAddr, hl]
end Go.Xw
