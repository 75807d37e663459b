import Derived.WalkKit
import Derived.KernelRfl
namespace Go.Xw
open Go.RowKit

/-! Frames as lists. -/
def nth : List Value → Nat → Value
  | [], _ => undef
  | v :: _, 0 => v
  | _ :: l, n + 1 => nth l n
def upd : List Value → Nat → Value → List Value
  | [], _, _ => []
  | _ :: l, 0, v => v :: l
  | x :: l, n + 1, v => x :: upd l n v
def ev (l : List Value) : Operand → Value
  | .tmp t => nth l t
  | .const v => v
  | .global g => .pointer (some ⟨g, 0, none⟩)
  | .func f => .func (.func f) #[] #[]
def put (l : List Value) (d : Option Tmp) (v : Value) : List Value :=
  match d with | some d => upd l d v | none => l

theorem nth_eq (l : List Value) (t : Nat) : l.toArray.getD t undef = nth l t := by
  induction l generalizing t with
  | nil => simp [nth]
  | cons x l ih =>
    cases t with
    | zero => simp [nth]
    | succ t => rw [nth, ← ih]; simp [Array.getD]
theorem upd_eq (l : List Value) (t : Nat) (v : Value) : l.toArray.setIfInBounds t v = (upd l t v).toArray := by
  have h : ∀ (l : List Value) t, upd l t v = l.set t v := by
    intro l
    induction l with
    | nil => intro t; rfl
    | cons x l ih => intro t; cases t with | zero => rfl | succ t => simp [upd, ih]
  rw [h]; simp
def act (l : List Value) : Act := ⟨l.toArray, []⟩
theorem act_eval (l : List Value) : (act l).eval = ev l := by
  funext x; cases x <;> first | rfl | exact nth_eq l _
theorem act_put (l : List Value) (d : Option Tmp) (v : Value) : (act l).put d v = act (put l d v) := by
  cases d with
  | none => rfl
  | some d => simp only [act, Act.put, put]; rw [upd_eq]

/-- what is known at an exit, told of frames as lists -/
abbrev Post := Exit → List Value → World → Prop
def lift (Q : Post) : Exit → Act → World → Prop := fun e a w => ∃ l, a = act l ∧ Q e l w
def W (P : Program) (c : Code) (Q : Post) (l : List Value) (w : World) : Prop := c.wp P (lift Q) (act l) w
def WL (P : Program) (ops : Array Oper) (Q : Post) (rest : List Oper) (l : List Value) (w : World) : Prop :=
  wpList P ops (lift Q) rest (act l) w
def thn (next : List Value → World → Prop) (Q : Post) : Post
  | .normal, l, w => next l w
  | e, l, w => Q e l w
def inb (id : Nat) (Q : Post) : Post
  | .exit id', l, w => if id' = id then Q .normal l w else Q (.exit id') l w
  | e, l, w => Q e l w

section
variable {P : Program} {Q : Post} {l : List Value} {w : World} {ops : Array Oper} {rest : List Oper}

theorem W.seq {x y : Code} (h : W P x (thn (W P y Q) Q) l w) : W P (.seq x y) Q l w := by
  refine wp_seq (wp_mono h ?_)
  rintro e a w ⟨l, rfl, hq⟩
  cases e <;> first | exact hq | exact ⟨l, rfl, hq⟩
theorem W.skip (h : Q .normal l w) : W P .skip Q l w := wp_skip ⟨l, rfl, h⟩
theorem W.label {n : Nat} (h : Q .normal l w) : W P (.label n) Q l w := wp_label ⟨l, rfl, h⟩
theorem W.exit {n : Nat} (h : Q (.exit n) l w) : W P (.exit n) Q l w := wp_exit ⟨l, rfl, h⟩
theorem W.ret (h : Q .ret l w) : W P .ret Q l w := wp_ret ⟨l, rfl, h⟩
theorem W.block {id : Nat} {c : Code} (h : W P c (inb id Q) l w) : W P (.block id c) Q l w := by
  refine wp_block (wp_mono h ?_)
  rintro e a w ⟨l, rfl, hq⟩
  cases e with
  | exit id' =>
    simp only [inb] at hq
    simp only [Exit.inBlock]
    split <;> rename_i hh
    · rw [if_pos hh] at hq; exact ⟨l, rfl, hq⟩
    · rw [if_neg hh] at hq; exact ⟨l, rfl, hq⟩
  | normal => exact ⟨l, rfl, hq⟩
  | goto _ => exact ⟨l, rfl, hq⟩
  | ret => exact ⟨l, rfl, hq⟩
  | panic _ => exact ⟨l, rfl, hq⟩
  | outgrown => exact ⟨l, rfl, hq⟩
theorem W.cond {c : Operand} {x y : Code} {t : Bool} (hc : ev l c = .bool t) (ht : t = true → W P x Q l w) (hf : t = false → W P y Q l w) : W P (.cond c x y) Q l w := by
  refine wp_cond_split (t := t) (by rw [act_eval]; exact hc) ht hf
theorem W.condT {c : Operand} {x y : Code} (hc : ev l c = .bool true) (ht : W P x Q l w) : W P (.cond c x y) Q l w :=
  W.cond hc (fun _ => ht) (fun h => by cases h)
theorem W.condF {c : Operand} {x y : Code} (hc : ev l c = .bool false) (hf : W P y Q l w) : W P (.cond c x y) Q l w :=
  W.cond hc (fun h => by cases h) (fun _ => hf)
theorem W.mono {c : Code} {Q' : Post} (h : W P c Q l w) (hq : ∀ e l w, Q e l w → Q' e l w) : W P c Q' l w :=
  wp_mono h fun _ _ _ ⟨l, ha, q⟩ => ⟨l, ha, hq _ _ _ q⟩
/-- a loop, by a ghost that each round lowers -/
theorem W.loop {c : Code} {α : Type} (μ : α → Nat) (I : α → List Value → World → Prop) (x : α) (h0 : I x l w)
    (round : ∀ x l w, I x l w → W P c (thn (fun l' w' => ∃ y, I y l' w' ∧ μ y < μ x) Q) l w) : W P (.loop c) Q l w := by
  have key : ∀ n x l w, μ x = n → I x l w → ∀ (b : Frame) (k : List Item) (cs : List Frame),
      ∃ e a' w', lift Q e a' w' ∧ Arrives P (lone (b.at (act l) (.code c :: .inLoop c :: k)) cs w) b k cs e a' w' := by
    intro n
    induction n using Nat.strongRecOn with
    | _ n ih =>
      intro x l w hn hI b k cs
      obtain ⟨e, a₁, w₁, hq, harr⟩ := round x l w hI b (.inLoop c :: k) cs
      obtain ⟨l₁, rfl, hq⟩ := hq
      cases e with
      | normal =>
        obtain ⟨y, hI₁, hlt⟩ := hq
        obtain ⟨e₂, a₂, w₂, hq₂, harr₂⟩ := ih (μ y) (hn ▸ hlt) y l₁ w₁ rfl hI₁ b k cs
        exact ⟨e₂, a₂, w₂, hq₂, .of_steps (Steps.trans harr (.one step_inLoop)) harr₂⟩
      | exit id => exact ⟨_, _, w₁, ⟨l₁, rfl, hq⟩, .pass (x := .inLoop c) rfl (fun _ _ => .inl (by simp)) harr⟩
      | goto _ => exact ⟨_, _, w₁, ⟨l₁, rfl, hq⟩, .pass (x := .inLoop c) rfl (fun _ _ => .inl (by simp)) harr⟩
      | ret => exact ⟨_, _, w₁, ⟨l₁, rfl, hq⟩, .pass (x := .inLoop c) rfl (fun _ _ => .inl (by simp)) harr⟩
      | panic ch => exact ⟨_, _, w₁, ⟨l₁, rfl, hq⟩, .pass (x := .inLoop c) rfl (fun _ _ => .inl (by simp)) harr⟩
      | outgrown => exact ⟨_, _, w₁, ⟨l₁, rfl, hq⟩, .pass (x := .inLoop c) rfl (fun _ _ => .inl (by simp)) harr⟩
  intro b k cs
  obtain ⟨e, a', w', hq, harr⟩ := key _ x l w rfl h0 b k cs
  exact ⟨e, a', w', hq, .of_steps (.one step_loop) harr⟩
theorem W.region {id : Nat} {ol : List Oper} (h : WL P ol.toArray Q ol l w) : W P (.region id ol.toArray false) Q l w :=
  wp_region_lit h

theorem WL.nilN {l' : List Value} (he : l = l') (h : Q .normal l' w) : WL P ops Q [] l w := by subst he; exact ⟨l, rfl, h⟩
theorem WL.nil (h : Q .normal l w) : WL P ops Q [] l w := ⟨l, rfl, h⟩
/-- an operation that gives a value -/
theorem WL.val {d : Option Tmp} {op : Op} {ty : TypeId} {pos : String} {af : Array Edge} {v : Value} {w' : World}
    (hr : (execOp (ev l) ⟨d, op, ty, pos, af, none⟩).run P w = .ok (.value v) w')
    (h : WL P ops Q rest (put l d v) w') : WL P ops Q (⟨d, op, ty, pos, af, none⟩ :: rest) l w := by
  refine wpList_plain rfl fun K hK => ?_
  simp only [Oper.wp, act_eval, hr, Oper.upon_value, act_put]
  exact hK _ _ h
theorem WL.skp {d : Option Tmp} {op : Op} {ty : TypeId} {pos : String} {af : Array Edge} {w' : World}
    (hr : (execOp (ev l) ⟨d, op, ty, pos, af, none⟩).run P w = .ok .skip w')
    (h : WL P ops Q rest (put l d undef) w') : WL P ops Q (⟨d, op, ty, pos, af, none⟩ :: rest) l w := by
  refine wpList_plain rfl fun K hK => ?_
  simp only [Oper.wp, act_eval, hr, Oper.upon_skip, act_put]
  exact hK _ _ h
theorem WL.gt {d : Option Tmp} {op : Op} {ty : TypeId} {pos : String} {af : Array Edge} {g : Option (Nat × Bool)}
    (hw : Region.wanted ⟨d, op, ty, pos, af, g⟩ (yielded ops (act l).tmps) = true)
    (h : WL P ops Q (⟨d, op, ty, pos, af, none⟩ :: rest) l w) : WL P ops Q (⟨d, op, ty, pos, af, g⟩ :: rest) l w := by
  unfold WL wpList at *
  rw [if_pos hw]
  rw [if_pos (by rfl)] at h
  exact h
theorem WL.gf {d : Option Tmp} {op : Op} {ty : TypeId} {pos : String} {af : Array Edge} {g : Option (Nat × Bool)}
    (hw : Region.wanted ⟨d, op, ty, pos, af, g⟩ (yielded ops (act l).tmps) = false)
    (h : WL P ops Q rest (put l d undef) w) : WL P ops Q (⟨d, op, ty, pos, af, g⟩ :: rest) l w := by
  unfold WL wpList
  rw [if_neg (by rw [hw]; decide)]
  show wpList P ops (lift Q) rest ((act l).put d undef) w
  rw [act_put]
  exact h
end

section
variable {next : List Value → World → Prop} {Q : Post} {l : List Value} {w : World} {id id' : Nat}
theorem thn_n (h : next l w) : thn next Q .normal l w := h
theorem thn_x (h : Q (.exit id) l w) : thn next Q (.exit id) l w := h
theorem thn_r (h : Q .ret l w) : thn next Q .ret l w := h
theorem inb_n (h : Q .normal l w) : inb id Q .normal l w := h
theorem inb_r (h : Q .ret l w) : inb id Q .ret l w := h
theorem inb_xe (h : Q .normal l w) : inb id Q (.exit id) l w := by simpa [inb] using h
theorem inb_xn (hn : (id' == id) = false) (h : Q (.exit id') l w) : inb id Q (.exit id') l w := by
  simp only [inb]; rw [if_neg (by simpa using hn)]; exact h
end

/-! A frame of which the first slots are known. -/
def tab (g : Nat → Value) : Nat → Nat → List Value
  | _, 0 => []
  | k, n + 1 => g k :: tab g (k + 1) n
def Fr (m N : Nat) (vs : List Value) (l : List Value) : Prop := l.length = N ∧ l.take m = vs
theorem tab_of (l : List Value) : ∀ (k : Nat), l = tab (fun t => nth l (t - k)) k l.length := by
  induction l with
  | nil => intro k; rfl
  | cons x l ih =>
    intro k
    have h := ih (k + 1)
    simp only [List.length_cons, tab, Nat.sub_self, nth]
    congr 1
    have he : ∀ (n j : Nat), k + 1 ≤ j → tab (fun t => nth l (t - (k + 1))) j n = tab (fun t => nth (x :: l) (t - k)) j n := by
      intro n
      induction n with
      | zero => intro j _; rfl
      | succ n ihn =>
        intro j hj
        simp only [tab]
        rw [ihn (j + 1) (by omega)]
        congr 1
        rw [show j - k = (j - (k + 1)) + 1 by omega]; rfl
    rw [← he _ _ (Nat.le_refl _)]
    exact h
theorem Fr.out {m N : Nat} {vs l : List Value} (h : Fr m N vs l) : ∃ g, l = vs ++ tab g m (N - m) := by
  obtain ⟨h1, h2⟩ := h
  refine ⟨fun t => nth (l.drop m) (t - m), ?_⟩
  have h3 := tab_of (l.drop m) m
  rw [List.length_drop, h1] at h3
  rw [← h3, ← h2, List.take_append_drop]
end Go.Xw
