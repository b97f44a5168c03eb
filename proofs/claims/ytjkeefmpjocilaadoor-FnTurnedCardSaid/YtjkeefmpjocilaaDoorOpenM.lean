/- Plain lemmas on numbers and lists; no program in sight. Conditions: none. -/
import Derived.Test.YtjkeefmpjocilaaDoorOpenR
import Derived.Test.YtjkeefmpjocilaaDoorSxE
set_option linter.unusedVariables false
set_option linter.unusedSimpArgs false
namespace Go.Proofs.YtjkeefmpjocilaaDoor
open Go Go.RowKit Go.ChangeShapes Go.WideShapes Go.Deep
theorem list3 {cs : List Value} (h : cs.length = 3) : ∃ a b c, cs = [a, b, c] := by
  match cs, h with
  | [a, b, c], _ => exact ⟨a, b, c, rfl⟩
section
variable {H : Type} {enc : TypeId × Value → H} {P : Program} {w : World}
theorem mtCells_map : ∀ (n : Nat) (R : Nat → Mt) (V : Nat → Value), mtCells ((List.range n).map R) ((List.range n).map V) = (List.range n).flatMap fun i => mtc (R i) (V i)
  | 0, _, _ => rfl
  | n + 1, R, V => by
    rw [List.range_succ, List.map_append, List.map_append, List.flatMap_append, ← mtCells_map n R V]
    simp only [List.map_cons, List.map_nil]
    rw [mtCells_snoc (by simp)]
    simp
theorem openMts {t e : TypeId} {c : Value} (ht : P.underlying t = some (.slice e)) (hC : P.cellsOf e = 3)
    (hel : ∀ cs : List Value, cs.length = 3 → (∃ y n, DataW.trod enc P w 0 (fun _ => true) true n e cs = some y) → ∃ r v, cs = mtc r v ∧ Sl w 0 w.heap.size v r.2.2 ∧ MB r)
    (h : ∃ y n, DataW.trod enc P w 0 (fun _ => true) true n t [c] = some y) : ∃ ts vs, MtS w 0 w.heap.size c ts vs ∧ ts.length ≤ 9223372036854775807 ∧ ∀ i, i < ts.length → MB (ts.getD i mt0) := by
  obtain ⟨y, n, h⟩ := h
  rcases open_slice ht h with ⟨hcs, _⟩ | ⟨a, len, cap, m, k, D, Pl, hcs, _, hl, hm, hmm, _, hi⟩
  · simp at hcs; subst hcs
    exact ⟨[], [], MtS.nil _ _ _, by simp, fun i hi => by simp at hi⟩
  · simp at hcs; subst hcs
    simp only [if_true] at hmm
    rw [hC] at hi
    obtain ⟨F, hF⟩ := choose_lt (α := Mt × Value) (n := m) (p := fun i q => w.cells? 0 (a.add (i * 3)) 3 = some (mtc q.1 q.2) ∧ Sl w 0 w.heap.size q.2 q.1.2.2 ∧ MB q.1) (fun i him => by
      obtain ⟨cs', h1, h2⟩ := hi i him
      obtain ⟨r, v, e, h3, h4⟩ := hel cs' (World.cells?_some h1).2.1 ⟨_, _, h2⟩
      exact ⟨(r, v), by rw [← e]; exact h1, h3, h4⟩)
    have hlen : ∀ (α : Type) (f : Nat → α), ((List.range len).map f).length = len := fun α f => by simp
    have hget : ∀ (α : Type) (f : Nat → α) (d : α) (i : Nat), i < len → ((List.range len).map f).getD i d = f i := fun α f d i hi => by simp [hi]
    refine ⟨(List.range len).map fun i => (F i).1, (List.range len).map fun i => (F i).2, ⟨by simp, ?_, fun i hi => ?_⟩, by rw [hlen]; unfold maxLen at hm; omega, fun i hi => ?_⟩
    · rw [hlen]
      refine Sv.ofCells (by decide) hl (by rw [mtCells_len (by simp)]; simp) fun j u hj => ?_
      have hjl : j < len * 3 := by
        rcases Nat.lt_or_ge j (len * 3) with h' | h'
        · exact h'
        · rw [List.getElem?_eq_none (by rw [mtCells_len (by simp)]; simpa using h')] at hj; cases hj
      have hq : j / 3 < len := by omega
      have e1 : j = j / 3 * 3 + j % 3 := by omega
      rw [e1, mtCells_at (by simp) (by simpa using hq) (Nat.mod_lt _ (by decide)), hget _ _ _ _ hq, hget _ _ _ _ hq] at hj
      obtain ⟨h1, _, _⟩ := hF (j / 3) (by omega)
      obtain ⟨_, _, hat⟩ := World.cells?_some h1
      have := hat (j % 3) (Nat.mod_lt _ (by decide))
      rw [Go.Deep.add_add, ← e1] at this
      rw [this]; exact hj
    · rw [hlen] at hi
      rw [hget _ _ _ _ hi, hget _ _ _ _ hi]; exact (hF i (by omega)).2.1
    · rw [hlen] at hi
      rw [hget _ _ _ _ hi]; exact (hF i (by omega)).2.2
end
end Go.Proofs.YtjkeefmpjocilaaDoor
