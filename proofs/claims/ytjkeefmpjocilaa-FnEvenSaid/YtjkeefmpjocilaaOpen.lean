/- Plain lemmas on numbers and lists; no program in sight. Conditions: none. -/
import Derived.Test.YtjkeefmpjocilaaSx
import Derived.OpenShut
import Derived.ChangeSlices
import Derived.ProofKit
import Derived.WalkKit
set_option linter.unusedVariables false
set_option linter.unusedSimpArgs false
namespace Go.Proofs.Ytjkeefmpjocilaa
open Go Go.RowKit
/-- a slice of ints that came in -/
theorem Sl.ofCells {w : World} {x : Addr} {len cap : Nat} {zs : List Int} (hl : len ≤ cap) (hz : zs.length = cap) (hc : ∀ i, i < zs.length → w.cell? (x.add i) = some (.int .i64 (zs.getD i 0))) :
    Sl w 0 w.heap.size (.slice (some x) len cap) (zs.take len) := by
  have hlen : (zs.take len).length = len := by rw [List.length_take]; omega
  refine ⟨by rw [List.length_map, Nat.mul_one], ?_⟩
  rw [hlen]
  by_cases h0 : len = 0
  · subst h0; exact .inl ⟨rfl, _, _, rfl⟩
  · right
    have c0 := hc 0 (by omega)
    have hx : x.add 0 = x := by simp [Addr.add]
    rw [hx] at c0
    obtain ⟨b, o, sp⟩ := x
    have hsp : sp = none := by
      unfold World.cell? at c0
      split at c0
      · cases sp with
        | none => rfl
        | some s => simp at c0
      · cases c0
    subst hsp
    unfold World.cell? at c0
    split at c0
    · rename_i cs T fz hb
      refine ⟨b, o, cap, cs, T, fz, rfl, ⟨hl, Nat.zero_le _⟩, ?_, hb, fun j u hj => ?_⟩
      · rcases Nat.lt_or_ge b w.heap.size with h' | h'
        · exact h'
        · simp [Array.getElem?_eq_none h'] at hb
      · have hjl : j < len := by
          rcases Nat.lt_or_ge j len with h' | h'
          · exact h'
          · rw [List.getElem?_eq_none (by simp [hlen]; omega)] at hj; cases hj
        have cj := hc j (by omega)
        rw [add_at] at cj
        unfold World.cell? at cj
        simp only [hb] at cj
        have : ((zs.take len).map (Value.int .i64))[j]? = some (.int .i64 (zs.getD j 0)) := by
          rw [List.getElem?_map, List.getElem?_take_of_lt hjl]; simp [List.getElem?_eq_getElem (show j < zs.length by omega)]
        rw [this] at hj
        simp at hj cj
        rw [← hj]; simpa using cj
    · cases c0
theorem Sl.ofNil {w : World} : Sl w 0 w.heap.size (.slice none 0 0) [] := ⟨by simp, .inl ⟨rfl, _, _, rfl⟩⟩
end Go.Proofs.Ytjkeefmpjocilaa
namespace Go.Proofs.Ytjkeefmpjocilaa
open Go Go.RowKit Go.ChangeShapes Go.WideShapes
section
variable {H : Type} {enc : TypeId × Value → H} {P : Program} {w : World} {sp : Nat → Bool} {hd : Bool}
/-- a field of a struct that came in -/
theorem openField {t : TypeId} {fs : Array Field} {cs cs' : List Value} (ht : P.underlying t = some (.struct fs)) (h : ∃ y n, DataW.trod enc P w 0 sp hd n t cs = some y) (i : Nat) (f : Field) (hf : fs[i]? = some f) (hi : i < fs.size)
    (hc : (cs.drop f.offset).take (P.cellsOf f.type) = cs') : ∃ y n, DataW.trod enc P w 0 sp hd n f.type cs' = some y := by
  obtain ⟨y, n, h⟩ := h
  obtain ⟨xs, m, _, _, _, hlen, hx⟩ := DataW.trod_struct ht h
  have := hx i f hf
  rw [hc, List.getElem?_eq_getElem (by omega)] at this
  exact ⟨_, m, this⟩
theorem openInt {t : TypeId} {k : IntKind} {c : Value} (ht : P.underlying t = some (.int k)) (h : ∃ y n, DataW.trod enc P w 0 sp hd n t [c] = some y) : ∃ z, c = .int k z ∧ (Lit.int k z).wf = true := by
  obtain ⟨y, n, h⟩ := h
  obtain ⟨z, hc, _, hw⟩ := DataW.trod_int ht h
  exact ⟨z, by simpa using hc, hw⟩
theorem openBool {t : TypeId} {c : Value} (ht : P.underlying t = some .bool) (h : ∃ y n, DataW.trod enc P w 0 sp hd n t [c] = some y) : ∃ b, c = .bool b := by
  obtain ⟨y, n, h⟩ := h
  obtain ⟨z, hc, _⟩ := DataW.trod_bool ht h
  exact ⟨z, by simpa using hc⟩
theorem openStr {t : TypeId} {c : Value} (ht : P.underlying t = some .string) (h : ∃ y n, DataW.trod enc P w 0 sp hd n t [c] = some y) : ∃ s : ByteArray, c = .string s ∧ s.size ≤ 9223372036854775807 := by
  obtain ⟨y, n, h⟩ := h
  obtain ⟨s, hc, _, hs⟩ := DataW.trod_string ht h
  exact ⟨s, by simpa using hc, by unfold maxLen at hs; omega⟩
theorem openInts {t e : TypeId} {c : Value} (ht : P.underlying t = some (.slice e)) (he : P.underlying e = some (.int .i64)) (hc1 : P.cellsOf e = 1) (h : ∃ y n, DataW.trod enc P w 0 (fun _ => true) true n t [c] = some y) :
    ∃ zs : List Int, Sl w 0 w.heap.size c zs ∧ zs.length ≤ 9223372036854775807 := by
  obtain ⟨y, n, h⟩ := h
  rcases open_ints ht he hc1 h with ⟨hcs, _⟩ | ⟨x, l, c', zs, hcs, _, hl, hm, hz, _, hcell, hwz⟩
  · simp at hcs
    subst hcs
    exact ⟨[], Sl.ofNil, by simp⟩
  · simp at hcs
    subst hcs
    exact ⟨_, Sl.ofCells hl (by simpa using hz) hcell, by rw [List.length_take]; unfold maxLen at hm; omega⟩
theorem openTop {t : TypeId} {v : Value} {d : DataW H} {p : List MemPlace} {cs : List Value} (h : DataW.Trod enc P w 0 sp hd t v d p) (hc : v.cells.toList = cs) : ∃ y n, DataW.trod enc P w 0 sp hd n t cs = some y := by
  obtain ⟨n, hn⟩ := h
  exact ⟨_, n, by rw [← hc]; exact hn⟩
end
theorem arr2 {cs : Array Value} (h : cs.size = 2) : ∃ a b, cs = #[a, b] := by
  obtain ⟨l⟩ := cs
  match l, h with
  | [a, b], _ => exact ⟨a, b, rfl⟩
theorem arr3 {cs : Array Value} (h : cs.size = 3) : ∃ a b c, cs = #[a, b, c] := by
  obtain ⟨l⟩ := cs
  match l, h with
  | [a, b, c], _ => exact ⟨a, b, c, rfl⟩
theorem arr4 {cs : Array Value} (h : cs.size = 4) : ∃ a b c d, cs = #[a, b, c, d] := by
  obtain ⟨l⟩ := cs
  match l, h with
  | [a, b, c, d], _ => exact ⟨a, b, c, d, rfl⟩
theorem arr5 {cs : Array Value} (h : cs.size = 5) : ∃ a b c d e, cs = #[a, b, c, d, e] := by
  obtain ⟨l⟩ := cs
  match l, h with
  | [a, b, c, d, e], _ => exact ⟨a, b, c, d, e, rfl⟩
theorem wfI64 {z : Int} (h : (Lit.int .i64 z).wf = true) : -9223372036854775808 ≤ z ∧ z ≤ 9223372036854775807 := by
  simp [Lit.wf, IntKind.min, IntKind.max, IntKind.bits, IntKind.signed] at h; omega
end Go.Proofs.Ytjkeefmpjocilaa
