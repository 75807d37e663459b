import Derived.Test.YtmmlbeejeckhdaaApp
import Derived.Orders
set_option linter.unusedSimpArgs false
set_option linter.unusedVariables false
/-! A region that draws its order, walked once, in an order of ours: what only reads may be moved, if it reads the same in every world that goes on from here; what acts must be the only one that can come. -/
namespace Go.Xw
open Go.RowKit

section
variable {P : Program} {ops : Array Oper} {S : Nat → Prop}
abbrev AP := Act → World → Prop
def noQ : Exit → Act → World → Prop := fun _ _ _ => False
def opS (P : Program) (ops : Array Oper) (i : Nat) (K : AP) (a : Act) (w : World) : Prop :=
  match ops[i]? with
  | none => K a w
  | some o => if Region.wanted o (yielded ops a.tmps) then o.wp P a w K noQ else K (a.put o.dst undef) w
def anyS (P : Program) (ops : Array Oper) (S : Nat → Prop) (Q : AP) : Nat → Array Bool → AP
  | 0, listed, a, w => Region.ready .any ops listed = [] ∧ Q a w
  | fuel + 1, listed, a, w => (Region.ready .any ops listed = [] → Q a w) ∧
      ∀ i ∈ Region.ready .any ops listed, opS P ops i (fun a' w' => Ext S w w' ∧ anyS P ops S Q fuel (listed.setIfInBounds i true) a' w') a w
theorem wp_noQ {o : Oper} {a : Act} {w : World} {K K' : AP} {Q' : Exit → Act → World → Prop} (h : ∀ a w, K a w → K' a w) (hh : o.wp P a w K noQ) : o.wp P a w K' Q' := by
  unfold Oper.wp at *
  generalize (execOp a.eval o).run P w = r at *
  cases r with
  | ok n w' =>
    cases n <;> simp only [Oper.upon, noQ] at hh ⊢ <;>
      first
        | exact h _ _ hh
        | exact Calls.mono hh (fun e w'' he => by
            cases e with
            | returned v => exact h _ _ he
            | panicked c => exact he.elim
            | outgrown => obtain ⟨a0, w0, hf⟩ := he; exact hf.elim)
        | exact Rows.mono hh (fun _ _ he => h _ _ he)
  | halt x w' => cases x <;> simp only [Oper.upon, noQ] at hh ⊢
theorem opS_op {i : Nat} {a : Act} {w : World} {K K' : AP} {Q' : Exit → Act → World → Prop} (h : ∀ a w, K a w → K' a w) (hh : opS P ops i K a w) : wpOp P ops Q' i K' a w := by
  unfold opS at hh
  unfold wpOp
  split
  · rename_i ho; simp only [ho] at hh; exact h _ _ hh
  · rename_i o ho
    simp only [ho] at hh
    split
    · rename_i hw; simp only [hw, if_true] at hh; exact .inl (wp_noQ h hh)
    · rename_i hw; simp only [hw] at hh; exact h _ _ hh
theorem opS_mono {i : Nat} {a : Act} {w : World} {K K' : AP} (h : ∀ a w, K a w → K' a w) (hh : opS P ops i K a w) : opS P ops i K' a w := by
  unfold opS at *
  split
  · rename_i ho; simp only [ho] at hh; exact h _ _ hh
  · rename_i o ho
    simp only [ho] at hh
    split
    · rename_i hw; simp only [hw, if_true] at hh; exact wp_noQ h hh
    · rename_i hw; simp only [hw] at hh; exact h _ _ hh
theorem anyS_any {Q : AP} {Q' : Exit → Act → World → Prop} (hQ : ∀ a w, Q a w → Q' .normal a w) : ∀ (fuel : Nat) (listed : Array Bool) (a : Act) (w : World),
    anyS P ops S Q fuel listed a w → wpAny P .any ops Q' fuel listed a w
  | 0, _, _, _, h => ⟨h.1, hQ _ _ h.2⟩
  | fuel + 1, _, _, _, h => ⟨fun h0 => hQ _ _ (h.1 h0), fun i hi => opS_op (fun a' w' hk => anyS_any hQ fuel _ a' w' hk.2) (h.2 i hi)⟩
/-- in every world that goes on from w the operation yields v -/
def YS (P : Program) (ops : Array Oper) (S : Nat → Prop) (o : Oper) (v : Value) (a : Act) (w : World) : Prop :=
  (Region.wanted o (yielded ops a.tmps) = true ∧ ∀ w', Ext S w w' → (execOp a.eval o).run P w' = .ok (.value v) w') ∨
  (Region.wanted o (yielded ops a.tmps) = false ∧ v = undef)
theorem YS.op {i : Nat} {o : Oper} {v : Value} {a : Act} {w : World} (hi : ops[i]? = some o) (hy : YS P ops S o v a w) {K : AP} (h : K (a.put o.dst v) w) : opS P ops i K a w := by
  unfold opS
  simp only [hi]
  rcases hy with ⟨hw, hv⟩ | ⟨hw, rfl⟩
  · simp only [hw, if_true, Oper.wp, hv w (Ext.refl w), Oper.upon]; exact h
  · simp only [hw, Bool.false_eq_true, if_false]; exact h
theorem YS.of_same {o : Oper} {v : Value} {a a' : Act} {w w' : World} (hy : YS P ops S o v a w) (hx : Ext S w w') (he : execOp a'.eval o = execOp a.eval o)
    (hw : Region.wanted o (yielded ops a'.tmps) = Region.wanted o (yielded ops a.tmps)) : YS P ops S o v a' w' := by
  unfold YS at *
  rw [he, hw]
  rcases hy with ⟨h1, h2⟩ | h
  · exact .inl ⟨h1, fun w2 h3 => h2 w2 (hx.trans h3)⟩
  · exact .inr h
theorem opS_put {j : Nat} {oi oj : Oper} {v : Value} (hj : ops[j]? = some oj) (hap : oi.apart ops oj = true)
    (hsi : ∀ cs b, oi.op ≠ .select cs b) (hsj : ∀ cs b, oj.op ≠ .select cs b) {K : AP} {a : Act} {w : World}
    (hy : YS P ops S oi v a w) (h : opS P ops j (fun a' w' => Ext S w w' ∧ K a' w') (a.put oi.dst v) w) :
    opS P ops j (fun a' w' => YS P ops S oi v a' w' ∧ Ext S w w' ∧ K (a'.put oi.dst v) w') a w := by
  obtain ⟨h1, h2, h3⟩ := Oper.apart_spec hap
  have keep : ∀ (a : Act) (w w' : World), YS P ops S oi v a w → Ext S w w' → ∀ u, YS P ops S oi v (a.put oj.dst u) w' := fun a w w' hy hx u =>
    hy.of_same hx (execOp_put oi hsi a oj.dst u h3) (wanted_put oi a oj.dst u h3)
  have keepD : ∀ d, YS P ops S oi v { a with defers := d :: a.defers } w := fun d => hy.of_same (Ext.refl w) rfl rfl
  unfold opS at *
  simp only [hj] at *
  rw [wanted_put oj a oi.dst v h1] at h
  split
  · rename_i hw
    simp only [hw, if_true] at h
    unfold Oper.wp at *
    rw [execOp_put oj hsj a oi.dst v h1] at h
    generalize (execOp a.eval oj).run P w = r at *
    cases r with
    | ok n w' =>
      cases n <;> simp only [Oper.upon] at h ⊢
      case value u => exact ⟨keep a w w' hy h.1 u, h.1, by rw [← Act.put_comm a v u h2]; exact h.2⟩
      case skip => exact ⟨keep a w w' hy h.1 _, h.1, by rw [← Act.put_comm a v undef h2]; exact h.2⟩
      case defer d =>
        refine ⟨keep _ w w' (keepD d) h.1 _, h.1, ?_⟩
        rw [← Act.put_comm _ v undef h2, ← Act.put_defers]
        exact h.2
      case enter f args =>
        refine Calls.mono h fun e w'' he => ?_
        cases e with
        | returned u => exact ⟨keep a w w'' hy he.1 u, he.1, by rw [← Act.put_comm a v u h2]; exact he.2⟩
        | panicked c => exact he
        | outgrown => exact he
      case row row args => exact Rows.mono h fun u w'' he => ⟨keep a w w'' hy he.1 u, he.1, by rw [← Act.put_comm a v u h2]; exact he.2⟩
    | halt x w' => cases x <;> simp only [Oper.upon, noQ] at h
  · rename_i hw
    simp only [hw] at h
    exact ⟨keep a w w hy (Ext.refl w) _, h.1, by rw [← Act.put_comm a v undef h2]; exact h.2⟩
theorem anyS_first {Q : AP} {i : Nat} {oi : Oper} {v : Value} (hi : ops[i]? = some oi) (hsel : ∀ (j : Nat) (o : Oper) cs b, ops[j]? = some o → o.op ≠ .select cs b) :
    ∀ (fuel : Nat) (listed : Array Bool) (a : Act) (w : World),
      (∀ j oj, ops[j]? = some oj → j ≠ i → listed.getD j true = false → (∀ e ∈ oj.after, Region.binds .any e = true → e.on ≠ i) → oi.apart ops oj = true) →
      i ∈ Region.ready .any ops listed → YS P ops S oi v a w →
      anyS P ops S Q fuel (listed.setIfInBounds i true) (a.put oi.dst v) w → anyS P ops S Q (fuel + 1) listed a w := by
  intro fuel
  induction fuel with
  | zero =>
    intro listed a w _ hr hy H
    refine ⟨fun h => (by rw [h] at hr; cases hr), fun j hj => ?_⟩
    by_cases hji : j = i
    · subst hji; exact hy.op hi ⟨Ext.refl w, H⟩
    · have := ready_mono hj hji
      rw [H.1] at this
      cases this
  | succ fuel ih =>
    intro listed a w hfree hr hy H
    refine ⟨fun h => (by rw [h] at hr; cases hr), fun j hj => ?_⟩
    by_cases hji : j = i
    · subst hji; exact hy.op hi ⟨Ext.refl w, H⟩
    · have h1 := H.2 j (ready_mono hj hji)
      obtain ⟨hjun, oj, hoj, hall⟩ := mem_ready.1 hj
      have hnot : ∀ e ∈ oj.after, Region.binds .any e = true → e.on ≠ i := fun e he hb heq => by
        have h1 := hall e he hb
        have h0 := (mem_ready.1 hr).1
        rw [heq] at h1
        rcases Nat.lt_or_ge i listed.size with h' | h'
        · simp [h'] at h0 h1; rw [h0] at h1; cases h1
        · simp [Array.getElem?_eq_none h'] at h1
      have h2 := opS_put hoj (hfree j oj hoj hji hjun hnot) (fun cs b => hsel i oi cs b hi) (fun cs b => hsel j oj cs b hoj) hy h1
      have hfree' : ∀ k ok, ops[k]? = some ok → k ≠ i → (listed.setIfInBounds j true).getD k true = false →
          (∀ e ∈ ok.after, Region.binds .any e = true → e.on ≠ i) → oi.apart ops ok = true := fun k ok hk hki hun hno => by
        refine hfree k ok hk hki ?_ hno
        by_cases hjk : j = k
        · subst hjk; exact hjun
        · rw [getD_set_ne true hjk] at hun; exact hun
      refine opS_mono (fun a' w' h3 => ⟨h3.2.1, ih (listed.setIfInBounds j true) a' w' hfree' (ready_mono hr (Ne.symm hji)) h3.1 ?_⟩) h2
      rw [Array.setIfInBounds_comm _ _ hji]
      exact h3.2.2
end

/-- our order: an operation's number, and whether it only reads -/
def okOrd (ops : Array Oper) : List (Nat × Bool) → Array Bool → Bool
  | [], listed => (Region.ready .any ops listed).isEmpty
  | (i, true) :: r, listed => (Region.ready .any ops listed).contains i && Region.free .any ops listed i && okOrd ops r (listed.setIfInBounds i true)
  | (i, false) :: r, listed => (Region.ready .any ops listed == [i]) && okOrd ops r (listed.setIfInBounds i true)
def nthO : List Oper → Nat → Oper
  | [], _ => default
  | o :: _, 0 => o
  | _ :: r, n + 1 => nthO r n
theorem nthO_eq (ol : List Oper) (i : Nat) (o : Oper) (h : ol.toArray[i]? = some o) : nthO ol i = o := by
  have h' : ol[i]? = some o := by simpa using h
  clear h
  induction ol generalizing i with
  | nil => simp at h'
  | cons x r ih =>
    cases i with
    | zero => simpa [nthO] using h'
    | succ i => exact ih i (by simpa using h')
def WO (P : Program) (ops : Array Oper) (S : Nat → Prop) (Q : Post) : List (Oper × Bool) → List Value → World → Prop
  | [], l, w => Q .normal l w
  | (o, true) :: r, l, w => ∃ v, YS P ops S o v (act l) w ∧ WO P ops S Q r (put l o.dst v) w
  | (o, false) :: r, l, w => if Region.wanted o (yielded ops (act l).tmps) then o.wp P (act l) w (fun a' w' => ∃ l', a' = act l' ∧ Ext S w w' ∧ WO P ops S Q r l' w') noQ else WO P ops S Q r (put l o.dst undef) w
theorem WO_any {P : Program} {ol : List Oper} {S : Nat → Prop} {Q : Post} (hs : Region.noSelect ol.toArray = true) : ∀ (ord : List (Nat × Bool)) (listed : Array Bool) (l : List Value) (w : World),
    okOrd ol.toArray ord listed = true → WO P ol.toArray S Q (ord.map fun x => (nthO ol x.1, x.2)) l w → anyS P ol.toArray S (fun a w => lift Q .normal a w) ord.length listed (act l) w
  | [], listed, l, w, ho, h => ⟨by simpa [okOrd] using ho, ⟨l, rfl, h⟩⟩
  | (i, true) :: r, listed, l, w, ho, h => by
    simp only [okOrd, Bool.and_eq_true] at ho
    obtain ⟨⟨hr, hf⟩, ho⟩ := ho
    obtain ⟨v, hy, h⟩ := h
    have hmem : i ∈ Region.ready .any ol.toArray listed := by simpa using hr
    obtain ⟨_, o, hi, _⟩ := mem_ready.1 hmem
    rw [nthO_eq ol i o hi] at hy h
    refine anyS_first hi (Region.noSelect_spec hs) _ listed (act l) w (Region.free_spec hi hf) hmem hy ?_
    rw [act_put]
    exact WO_any hs r _ _ _ ho h
  | (i, false) :: r, listed, l, w, ho, h => by
    simp only [okOrd, Bool.and_eq_true, beq_iff_eq] at ho
    obtain ⟨hr, ho⟩ := ho
    show _ ∧ _
    refine ⟨fun h0 => by rw [h0] at hr; simp at hr, fun j hj => ?_⟩
    rw [hr, List.mem_singleton] at hj
    subst hj
    have hmj : j ∈ Region.ready .any ol.toArray listed := by rw [hr]; simp
    obtain ⟨_, o, hi, _⟩ := mem_ready.1 hmj
    simp only [List.map_cons, WO] at h
    rw [nthO_eq ol j o hi] at h
    unfold opS
    simp only [hi]
    split
    · rename_i hw
      rw [if_pos hw] at h
      refine wp_noQ ?_ h
      rintro a' w' ⟨l', rfl, hx, h⟩
      exact ⟨hx, WO_any hs r _ _ _ ho h⟩
    · rename_i hw
      rw [if_neg hw] at h
      rw [act_put]
      exact ⟨Ext.refl w, WO_any hs r _ _ _ ho h⟩

/-- THE RULE. -/
theorem W.draw {P : Program} {id : Nat} {ol : List Oper} {Q : Post} {l : List Value} {w : World} (S : Nat → Prop) (ord : List (Nat × Bool)) (hm : P.follows .mixedOrders = true)
    (hok : (Region.noSelect ol.toArray && (ord.length == ol.length) && okOrd ol.toArray ord (Array.replicate ol.toArray.size false)) = true)
    (h : ∀ w1, Ext none' w w1 → w1.heap.size = w.heap.size → WO P ol.toArray S Q (ord.map fun x => (nthO ol x.1, x.2)) l w1) : W P (.region id ol.toArray true) Q l w := by
  simp only [Bool.and_eq_true, beq_iff_eq] at hok
  obtain ⟨⟨hs, hl⟩, ho⟩ := hok
  refine wp_region_any hm ?_
  have := WO_any hs ord _ l _ ho (h { w with drawn := w.drawn + 1 } ⟨rfl, rfl, rfl, Nat.le_refl _, fun _ _ _ => rfl⟩ rfl)
  rw [hl] at this
  have h2 := anyS_any (Q' := lift Q) (fun a w h => h) _ _ _ _ this
  simpa using h2

section
variable {P : Program} {ops : Array Oper} {S : Nat → Prop} {Q : Post} {l : List Value} {w : World} {r : List (Oper × Bool)} {d : Option Tmp} {op : Op} {ty : TypeId} {pos : String} {af : Array Edge}
theorem WO.nil (h : Q .normal l w) : WO P ops S Q [] l w := h
theorem WO.v {v : Value} (hr : ∀ w', Ext S w w' → Runs P l w' op v) (h : WO P ops S Q r (put l d v) w) : WO P ops S Q ((⟨d, op, ty, pos, af, none⟩, true) :: r) l w :=
  ⟨v, .inl ⟨rfl, fun w' hx => by rw [act_eval]; exact hr w' hx d ty pos af⟩, h⟩
theorem WO.gv {v : Value} {g : Option (Nat × Bool)} (hw : Region.wanted ⟨d, op, ty, pos, af, g⟩ (yielded ops (act l).tmps) = true) (hr : ∀ w', Ext S w w' → Runs P l w' op v) (h : WO P ops S Q r (put l d v) w) :
    WO P ops S Q ((⟨d, op, ty, pos, af, g⟩, true) :: r) l w :=
  ⟨v, .inl ⟨hw, fun w' hx => by rw [act_eval]; exact hr w' hx d ty pos af⟩, h⟩
theorem WO.gf {g : Option (Nat × Bool)} {q : Bool} (hw : Region.wanted ⟨d, op, ty, pos, af, g⟩ (yielded ops (act l).tmps) = false) (h : WO P ops S Q r (put l d undef) w) :
    WO P ops S Q ((⟨d, op, ty, pos, af, g⟩, q) :: r) l w := by
  cases q
  · unfold WO; rw [if_neg (by rw [hw]; decide)]; exact h
  · exact ⟨undef, .inr ⟨hw, rfl⟩, h⟩
/-- one that acts, as in a list -/
theorem WO.n {o : Oper} (h : WL P ops (thn (fun l' w' => Ext S w w' ∧ WO P ops S Q r l' w') (fun _ _ _ => False)) [o] l w) : WO P ops S Q ((o, false) :: r) l w := by
  unfold WL wpList at h
  unfold WO
  split
  · rename_i hw
    rw [if_pos hw] at h
    rcases h with h | ⟨_, a0, w0, l0, _, hf⟩
    · have h' : o.wp P (act l) w (fun a' w' => ∃ l', a' = act l' ∧ Ext S w w' ∧ WO P ops S Q r l' w') (lift (thn (fun l' w' => Ext S w w' ∧ WO P ops S Q r l' w') (fun _ _ _ => False))) := Oper.wp_mono (fun a w' hk => hk) h
      unfold Oper.wp at *
      generalize (execOp (act l).eval o).run P w = res at *
      cases res with
      | ok n w' =>
        cases n <;> simp only [Oper.upon] at h' ⊢ <;> first
          | exact h'
          | exact Calls.mono h' (fun e w'' he => by
              cases e with
              | returned v => exact he
              | panicked c => obtain ⟨l', _, hf⟩ := he; exact hf.elim
              | outgrown => obtain ⟨a0, w0, l', _, hf⟩ := he; exact hf.elim)
      | halt x w' =>
        cases x <;> simp only [Oper.upon] at h' ⊢
        obtain ⟨l', _, hf⟩ := h'; exact hf.elim
    · exact hf.elim
  · rename_i hw
    rw [if_neg hw] at h
    rw [act_put] at h
    obtain ⟨l', hl, _, h⟩ := h
    cases hl
    exact h
end

end Go.Xw
