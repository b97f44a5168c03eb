/- Plain lemmas on numbers and lists; no program in sight. Conditions: none. -/
import Derived.Test.YtjkeefmpjocilaaDoorOpen
import Derived.Test.YtjkeefmpjocilaaDoorSxB
import Derived.Deep.Slices
set_option linter.unusedVariables false
set_option linter.unusedSimpArgs false
namespace Go.Proofs.YtjkeefmpjocilaaDoor
open Go Go.RowKit Go.ChangeShapes Go.WideShapes Go.Deep
/-- a slice of elements of some cells that came in -/
theorem Sv.ofCells {w : World} {x : Addr} {len cap k : Nat} {xs : List Value} (hk : 0 < k) (hl : len ≤ cap) (hz : xs.length = len * k) (hc : ∀ i u, xs[i]? = some u → w.cell? (x.add i) = some u) :
    Sv w 0 w.heap.size (.slice (some x) len cap) len k xs := by
  refine ⟨hz, ?_⟩
  by_cases h0 : len = 0
  · subst h0; exact .inl ⟨rfl, _, _, rfl⟩
  · right
    have hpos : 0 < xs.length := by rw [hz]; exact Nat.mul_pos (by omega) hk
    have c0 := hc 0 xs[0] (List.getElem?_eq_getElem hpos)
    have hx : x.add 0 = x := by simp [Addr.add]
    rw [hx] at c0
    obtain ⟨b, o, sp⟩ := x
    have hsp : sp = none := by
      unfold World.cell? at c0
      split at c0
      · cases sp with
        | none => rfl
        | some s => simp at c0
      · cases c0
    subst hsp
    unfold World.cell? at c0
    split at c0
    · rename_i cs T fz hb
      refine ⟨b, o, cap, cs, T, fz, rfl, ⟨hl, Nat.zero_le _⟩, ?_, hb, fun j u hj => ?_⟩
      · rcases Nat.lt_or_ge b w.heap.size with h' | h'
        · exact h'
        · simp [Array.getElem?_eq_none h'] at hb
      · have cj := hc j u hj
        rw [add_at] at cj
        unfold World.cell? at cj
        simp only [hb] at cj
        simpa using cj
    · cases c0
theorem rtCells_map : ∀ (n : Nat) (R : Nat → Rt) (V : Nat → Value), rtCells ((List.range n).map R) ((List.range n).map V) = (List.range n).flatMap fun i => rtc (R i) (V i)
  | 0, _, _ => rfl
  | n + 1, R, V => by
    rw [List.range_succ, List.map_append, List.map_append, List.flatMap_append, ← rtCells_map n R V]
    simp only [List.map_cons, List.map_nil]
    rw [rtCells_snoc (by simp)]
    simp
theorem list5 {cs : List Value} (h : cs.length = 5) : ∃ a b c d e, cs = [a, b, c, d, e] := by
  match cs, h with
  | [a, b, c, d, e], _ => exact ⟨a, b, c, d, e, rfl⟩
section
variable {H : Type} {enc : TypeId × Value → H} {P : Program} {w : World}
/-- a slice of rates that came in -/
theorem openRts {t e : TypeId} {c : Value} (ht : P.underlying t = some (.slice e)) (hC : P.cellsOf e = 5)
    (hel : ∀ cs : List Value, cs.length = 5 → (∃ y n, DataW.trod enc P w 0 (fun _ => true) true n e cs = some y) → ∃ r v, cs = rtc r v ∧ Sl w 0 w.heap.size v r.2.2.2.1 ∧ RB r)
    (h : ∃ y n, DataW.trod enc P w 0 (fun _ => true) true n t [c] = some y) : ∃ ts vs, RtS w 0 w.heap.size c ts vs ∧ ts.length ≤ 9223372036854775807 ∧ ∀ i, i < ts.length → RB (ts.getD i rt0) := by
  obtain ⟨y, n, h⟩ := h
  rcases open_slice ht h with ⟨hcs, _⟩ | ⟨a, len, cap, m, k, D, Pl, hcs, _, hl, hm, hmm, _, hi⟩
  · simp at hcs; subst hcs
    exact ⟨[], [], RtS.nil _ _ _, by simp, fun i hi => by simp at hi⟩
  · simp at hcs; subst hcs
    simp only [if_true] at hmm
    rw [hC] at hi
    obtain ⟨F, hF⟩ := choose_lt (α := Rt × Value) (n := m) (p := fun i q => w.cells? 0 (a.add (i * 5)) 5 = some (rtc q.1 q.2) ∧ Sl w 0 w.heap.size q.2 q.1.2.2.2.1 ∧ RB q.1) (fun i him => by
      obtain ⟨cs', h1, h2⟩ := hi i him
      obtain ⟨r, v, e, h3, h4⟩ := hel cs' (World.cells?_some h1).2.1 ⟨_, _, h2⟩
      exact ⟨(r, v), by rw [← e]; exact h1, h3, h4⟩)
    have hlen : ∀ (α : Type) (f : Nat → α), ((List.range len).map f).length = len := fun α f => by simp
    have hget : ∀ (α : Type) (f : Nat → α) (d : α) (i : Nat), i < len → ((List.range len).map f).getD i d = f i := fun α f d i hi => by simp [hi]
    refine ⟨(List.range len).map fun i => (F i).1, (List.range len).map fun i => (F i).2, ⟨by simp, ?_, fun i hi => ?_⟩, by rw [hlen]; unfold maxLen at hm; omega, fun i hi => ?_⟩
    · rw [hlen]
      refine Sv.ofCells (by decide) hl (by rw [rtCells_len (by simp)]; simp) fun j u hj => ?_
      have hjl : j < len * 5 := by
        rcases Nat.lt_or_ge j (len * 5) with h' | h'
        · exact h'
        · rw [List.getElem?_eq_none (by rw [rtCells_len (by simp)]; simpa using h')] at hj; cases hj
      have hq : j / 5 < len := by omega
      have e1 : j = j / 5 * 5 + j % 5 := by omega
      rw [e1, rtCells_at (by simp) (by simpa using hq) (Nat.mod_lt _ (by decide)), hget _ _ _ _ hq, hget _ _ _ _ hq] at hj
      obtain ⟨h1, _, _⟩ := hF (j / 5) (by omega)
      obtain ⟨_, _, hat⟩ := World.cells?_some h1
      have := hat (j % 5) (Nat.mod_lt _ (by decide))
      rw [Go.Deep.add_add, ← e1] at this
      rw [this]; exact hj
    · rw [hlen] at hi
      rw [hget _ _ _ _ hi, hget _ _ _ _ hi]; exact (hF i (by omega)).2.1
    · rw [hlen] at hi
      rw [hget _ _ _ _ hi]; exact (hF i (by omega)).2.2
end
end Go.Proofs.YtjkeefmpjocilaaDoor
