import Derived.Test.YtmmlbeejeckhdaaMem
set_option linter.unusedSimpArgs false
set_option linter.unusedVariables false
namespace Go.Xw
open Go.RowKit

def apIs (P : Program) (t e k by' : Nat) : Bool :=
  (match P.underlying t with | some (.slice e') => e' == e | _ => false) &&
  (match P.info? e with
   | some i => (match i.zero with | some z => z.cells.size == k | none => false) && i.size == k && i.bytes == by'
   | none => false) && k != 0
class ApT (P : Program) (t : TypeId) (e : outParam TypeId) (k : outParam Nat) (by' : outParam Nat) : Prop where
  is : apIs P t e k by' = true
theorem ApT.parts {P : Program} {t e k by' : Nat} (h : ApT P t e k by') :
    P.underlying t = some (.slice e) ∧ (∃ i z, P.info? e = some i ∧ i.zero = some z ∧ z.cells.size = k ∧ i.size = k ∧ i.bytes = by') ∧ 0 < k := by
  obtain ⟨h⟩ := h
  simp only [apIs, Bool.and_eq_true, bne_iff_ne, ne_eq] at h
  obtain ⟨⟨h1, h2⟩, h3⟩ := h
  refine ⟨?_, ?_, by omega⟩
  · split at h1
    · rename_i e' hu; rw [hu]; simp at h1; rw [h1]
    · cases h1
  · split at h2
    · rename_i i hi
      simp only [Bool.and_eq_true, beq_iff_eq] at h2
      obtain ⟨⟨h4, h5⟩, h6⟩ := h2
      split at h4
      · rename_i z hz
        exact ⟨i, z, hi, hz, by simpa using h4, h5, h6⟩
      · cases h4
    · cases h2

/-- What a slice owns that was built by appends: from block `base` on, its cells `xs`. -/
abbrev Own (w : World) (base : Nat) (e k : Nat) (v : Value) (n : Nat) (xs : List Value) : Prop := w.ownsRow base e k v n xs
theorem Own.nil (w : World) (base e k : Nat) : Own w base e k (.slice none 0 0) 0 [] := World.ownsRow_nil w base e k
/-- the block of a slice -/
def blkOf : Value → Option Nat
  | .slice (some a) _ _ => some a.block
  | _ => none
theorem Own.ext {S : Nat → Prop} {w w' : World} {base e k : Nat} {v : Value} {n : Nat} {xs : List Value} (h : Own w base e k v n xs) (hx : Ext S w w') (hs : ∀ b, v.ownBlock = some b → ¬ S b) : Own w' base e k v n xs := by
  obtain ⟨h1, h2⟩ := h
  refine ⟨h1, ?_⟩
  rcases h2 with h2 | ⟨g, cap, cur, rfl, hb, hg, r⟩
  · exact .inl h2
  · exact .inr ⟨g, cap, cur, rfl, hb, hx.blk hg (hs g rfl), r⟩
theorem Own.lt {w : World} {base e k : Nat} {v : Value} {n : Nat} {xs : List Value} (h : Own w base e k v n xs) {b : Nat} (hv : v.ownBlock = some b) : base ≤ b ∧ b < w.heap.size := by
  obtain ⟨h1, h2⟩ := h
  rcases h2 with ⟨rfl, _⟩ | ⟨g, cap, cur, rfl, hb, hg, r⟩
  · cases hv
  · simp only [Value.ownBlock, Option.some.injEq] at hv; subst hv; exact ⟨hb, lt_of_blk hg⟩
theorem Own.shape {w : World} {base e k : Nat} {v : Value} {n : Nat} {xs : List Value} (h : Own w base e k v n xs) : ∃ a c, v = .slice a n c := by
  obtain ⟨h1, h2⟩ := h
  rcases h2 with ⟨rfl, rfl⟩ | ⟨g, cap, cur, rfl, _⟩
  · exact ⟨_, _, rfl⟩
  · exact ⟨_, _, rfl⟩
theorem Own.base {w : World} {base base' e k : Nat} {v : Value} {n : Nat} {xs : List Value} (h : Own w base e k v n xs) (hb : base' ≤ base) : Own w base' e k v n xs := by
  obtain ⟨h1, h2⟩ := h
  refine ⟨h1, ?_⟩
  rcases h2 with h2 | ⟨g, cap, cur, rfl, hb', r⟩
  · exact .inl h2
  · exact .inr ⟨g, cap, cur, rfl, Nat.le_trans hb hb', r⟩
theorem Own.cells {w : World} {base e k : Nat} {v : Value} {n : Nat} {xs : List Value} (h : Own w base e k v n xs) :
    xs.length = n * k ∧ (xs ≠ [] → ∃ b c, v = .slice (some ⟨b, 0, none⟩) n c ∧ base ≤ b ∧ b < w.heap.size ∧ ∀ j u, xs[j]? = some u → w.cell? ⟨b, j, none⟩ = some u) := by
  obtain ⟨h1, h2⟩ := h
  refine ⟨h1, fun hne => ?_⟩
  rcases h2 with ⟨rfl, rfl⟩ | ⟨g, cap, cur, rfl, hb, hg, hn, hm, hsz, ht⟩
  · simp at h1; exact absurd h1 hne
  · refine ⟨g, cap, rfl, hb, lt_of_blk hg, fun j u hj => ?_⟩
    rw [cell_of_row w g j cur e (0, 0) hg]
    rw [← ht] at hj
    rw [List.getElem?_take] at hj
    split at hj
    · simpa using hj
    · cases hj
/-- one appended: a slice of one -/
theorem Own.of_new {w w' : World} {b e k n : Nat} {cs : List Value} (h : New w w' b (.cells cs.toArray e)) (hl : cs.length = n * k) (hm : n ≤ maxLen) : Own w' w.heap.size e k (.slice (some ⟨b, 0, none⟩) n n) n cs :=
  ⟨hl, .inr ⟨b, n, cs.toArray, rfl, by rw [h.fresh]; exact Nat.le_refl _, h.blk, Nat.le_refl _, hm, by simpa using hl, by simp [← hl]⟩⟩

section
variable {P : Program} {Q : Post} {l : List Value} {w : World} {ops : Array Oper} {rest : List Oper} {d : Option Tmp} {ty : TypeId} {pos : String} {af : Array Edge}
theorem WL.app {s x : Operand} {t e k by' : Nat} [hT : ApT P t e k by'] {base n m c b o : Nat} {xs news : List Value} {v : Value} (hs : ev l s = v) (hown : Own w base e k v n xs)
    (hx : ev l x = .slice (some ⟨b, o, none⟩) m c) (hl : news.length = m * k) (hnews : ∀ j u, news[j]? = some u → w.cell? ⟨b, o + j, none⟩ = some u) (h1 : ones news = true)
    (h63 : n + m ≤ 9223372036854775807) (hbytes : (n + m) * by' ≤ 140737488355328) (hbase : base ≤ w.heap.size)
    (h : ∀ v' w', Own w' base e k v' (n + m) (xs ++ news) → Ext (fun b => v.ownBlock = some b) w w' → (∀ b, v'.ownBlock = some b → v.ownBlock = some b ∨ w.heap.size ≤ b) → WL P ops Q rest (put l d v') w') :
    WL P ops Q (⟨d, .call ⟨.builtin .append, #[s, x], #[t, t]⟩, ty, pos, af, none⟩ :: rest) l w := by
  obtain ⟨hu, ⟨i, z, hi, hz, hzs, hsz, hby⟩, hk⟩ := hT.parts
  obtain ⟨v', w', hr, h2, h3, h4⟩ := run_append_own (P := P) w base t ty e i z k by' hu hi hz hsz hby hzs hk v n xs hown ⟨b, o, none⟩ m c news hl
    (fun j u hj => by rw [add_mk]; exact hnews j u hj) (by simpa [ones] using h1) (by simpa [maxLen] using h63) hbytes hbase
  refine WL.val (v := v') (w' := w') (by simp [execOp, resolve, invoke, builtin, hs, hx, hr]) (h v' w' h2 ?_ ?_)
  · exact ⟨h3.os, h3.tape, h3.output, h3.size, fun j hj hn => h3.block j hj fun he => hn he.symm⟩
  · intro b' hb'
    have hnews' : ∀ j u, news[j]? = some u → w.cell? ((⟨b, o, none⟩ : Addr).add j) = some u := fun j u hj => by rw [add_mk]; exact hnews j u hj
    have hl' : news.length = m * i.size := by rw [hsz]; exact hl
    have hby2 : (n + m) * i.bytes ≤ 140737488355328 := by rw [hby]; exact hbytes
    have hown' := hown.2
    rcases hown' with ⟨rfl, rfl⟩ | ⟨g, cap, cur, rfl, hbg, hg, hnc, hcm, hcs, htake⟩
    · by_cases hm : m = 0
      · have := h4.2 ⟨rfl, hm⟩; subst this; cases hb'
      · have hr2 := run_append_nil (P := P) w t ty e i z hu hi hz ⟨b, o, none⟩ m c news hl' hnews' (by omega) (by omega) (by simp only [Nat.zero_add] at hby2; omega)
        rw [hr] at hr2
        cases hr2
        simp only [Value.ownBlock, Option.some.injEq] at hb'
        exact .inr (by omega)
    · by_cases hroom : n + m ≤ cap
      · have hr2 := run_append_room (P := P) w t ty e i hu hi g n cap cur hg ⟨b, o, none⟩ m c news hl' hnews' (by simpa [ones] using h1) hroom
          (by rw [hl', hcs, ← Nat.add_mul, hsz]; exact Nat.mul_le_mul_right _ hroom)
        rw [hr] at hr2
        cases hr2
        exact .inl hb'
      · have holds : ∀ j u, xs[j]? = some u → w.cell? ((⟨g, 0, none⟩ : Addr).add j) = some u := World.ownsRow.cells (g := g) hown rfl
        have hr2 := run_append_grow (P := P) w t ty e i z hu hi hz ⟨g, 0, none⟩ n cap xs (by rw [hsz]; exact hown.1) holds ⟨b, o, none⟩ m c news hl' hnews' (by omega) (by omega) (growslice_fits (by omega) hby2)
        rw [hr] at hr2
        cases hr2
        simp only [Value.ownBlock, Option.some.injEq] at hb'
        exact .inr (by omega)

/-- 'out = append(out, x)' -/
theorem WL.push {x s : Operand} {t e k by' : Nat} {z : List Value} [hT : ApT P t e k by'] [hZ : SlZ P t e k z] {base n : Nat} {xs vs : List Value} {v val : Value} {d1 : Tmp} {ty1 : TypeId} {pos1 : String} {af1 : Array Edge}
    (hx : ev l x = val) (hs : ∀ u, ev (put l (some d1) u) s = v) (hd : ∀ u, ev (put l (some d1) u) (.tmp d1) = u) (hc : val.cells = vs.toArray) (hk : vs.length = k) (h1 : ones vs = true)
    (hown : Own w base e k v n xs) (h63 : n + 1 ≤ 9223372036854775807) (hbytes : (n + 1) * by' ≤ 140737488355328) (hk24 : k ≤ 16777216) (hbase : base ≤ w.heap.size)
    (h : ∀ u v' w', Own w' base e k v' (n + 1) (xs ++ vs) → Ext (fun b => v.ownBlock = some b) w w' → (∀ b, v'.ownBlock = some b → v.ownBlock = some b ∨ w.heap.size ≤ b) → WL P ops Q rest (put (put l (some d1) u) d v') w') :
    WL P ops Q (⟨some d1, .buildSlice t 1 #[(0, x)], ty1, pos1, af1, none⟩ :: ⟨d, .call ⟨.builtin .append, #[s, .tmp d1], #[t, t]⟩, ty, pos, af, none⟩ :: rest) l w := by
  have hkp := hZ.pos
  have hsz : val.cells.size = k := by rw [hc]; simpa using hk
  have hset : ∀ (vs cs : List Value), vs.length = cs.length → setR cs 0 vs = vs := by
    have gen : ∀ (vs pre cs : List Value), vs.length = cs.length → setR (pre ++ cs) pre.length vs = pre ++ vs := by
      intro vs
      induction vs with
      | nil => intro pre cs hl; cases cs <;> simp_all [setR]
      | cons a r ih =>
        intro pre cs hl
        cases cs with
        | nil => simp at hl
        | cons c cs =>
          have hu : upd (pre ++ c :: cs) pre.length a = pre ++ a :: cs := by
            clear hl
            induction pre with
            | nil => rfl
            | cons p pre ihp => simp [upd, ihp]
          rw [setR, hu]
          have := ih (pre ++ [a]) cs (by simpa using hl)
          simpa using this
    intro vs cs hl
    exact gen vs [] cs hl
  have hfill : fillL (fun i => some (i * k, k)) ((List.range (1 * k)).map fun j => z.getD (j % k) undef) ([((0 : Nat), x)].map fun y => (y.1, ev l y.2)) = some vs := by
    simp only [List.map_cons, List.map_nil, fillL, hx, hsz]
    simp [hk, hc]
    exact hset vs _ (by simpa using hk)
  refine WL.mkslice (n := 1) (parts := [(0, x)]) (by omega) hfill ?_
  intro b2 w2 hn2
  have hown2 : Own w2 base e k v n xs := hown.ext hn2.ext (fun _ _ h => h)
  refine WL.app (base := base) (v := v) (n := n) (xs := xs) (news := vs) (m := 1) (hs _) hown2 (hd _) (by omega) (fun j u hj => ?_) h1 h63 hbytes (Nat.le_trans hbase hn2.ext.size) ?_
  · rw [Nat.zero_add]; exact at_of_blk hn2.blk (by simpa using hj)
  · intro v' w3 ho hx3 hb
    refine h _ v' w3 ho ((hn2.ext.mono (fun _ _ h => h.elim)).trans hx3) (fun b hb' => ?_)
    rcases hb b hb' with h4 | h4
    · exact .inl h4
    · exact .inr (Nat.le_trans hn2.ext.size h4)
end
end Go.Xw
