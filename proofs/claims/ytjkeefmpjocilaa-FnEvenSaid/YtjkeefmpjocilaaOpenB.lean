/- Plain lemmas on numbers and lists; no program in sight. Conditions: none. -/
import Derived.Test.YtjkeefmpjocilaaOpen
import Derived.Test.YtjkeefmpjocilaaSxW
set_option linter.unusedVariables false
set_option linter.unusedSimpArgs false
namespace Go.Proofs.Ytjkeefmpjocilaa
open Go Go.RowKit
/-- a slice of bytes that came in -/
theorem SlB.ofCells {w : World} {x : Addr} {len cap : Nat} {zs : List Int} (hl : len ≤ cap) (hz : zs.length = cap) (hc : ∀ i, i < zs.length → w.cell? (x.add i) = some (.int .u8 (zs.getD i 0))) :
    SlB w 0 w.heap.size (.slice (some x) len cap) (zs.take len) := by
  have hlen : (zs.take len).length = len := by rw [List.length_take]; omega
  refine ⟨by rw [List.length_map, Nat.mul_one], ?_⟩
  rw [hlen]
  by_cases h0 : len = 0
  · subst h0; exact .inl ⟨rfl, _, _, rfl⟩
  · right
    have c0 := hc 0 (by omega)
    have hx : x.add 0 = x := by simp [Addr.add]
    rw [hx] at c0
    obtain ⟨b, o, sp⟩ := x
    have hsp : sp = none := by
      unfold World.cell? at c0
      split at c0
      · cases sp with
        | none => rfl
        | some s => simp at c0
      · cases c0
    subst hsp
    unfold World.cell? at c0
    split at c0
    · rename_i cs T fz hb
      refine ⟨b, o, cap, cs, T, fz, rfl, ⟨hl, Nat.zero_le _⟩, ?_, hb, fun j u hj => ?_⟩
      · rcases Nat.lt_or_ge b w.heap.size with h' | h'
        · exact h'
        · simp [Array.getElem?_eq_none h'] at hb
      · have hjl : j < len := by
          rcases Nat.lt_or_ge j len with h' | h'
          · exact h'
          · rw [List.getElem?_eq_none (by simp [hlen]; omega)] at hj; cases hj
        have cj := hc j (by omega)
        rw [add_at] at cj
        unfold World.cell? at cj
        simp only [hb] at cj
        have : ((zs.take len).map (Value.int .u8))[j]? = some (.int .u8 (zs.getD j 0)) := by
          rw [List.getElem?_map, List.getElem?_take_of_lt hjl]; simp [List.getElem?_eq_getElem (show j < zs.length by omega)]
        rw [this] at hj
        simp at hj cj
        rw [← hj]; simpa using cj
    · cases c0
theorem SlB.ofNil {w : World} : SlB w 0 w.heap.size (.slice none 0 0) [] := ⟨by simp, .inl ⟨rfl, _, _, rfl⟩⟩
theorem wfU8 {z : Int} (h : (Lit.int .u8 z).wf = true) : 0 ≤ z ∧ z ≤ 255 := by
  simp [Lit.wf, IntKind.min, IntKind.max, IntKind.bits, IntKind.signed] at h; omega
theorem getD_wfU8 {zs : List Int} (h : ∀ n ∈ zs, (Lit.int .u8 n).wf = true) (k : Nat) : ∀ j, j < (zs.take k).length → 0 ≤ (zs.take k).getD j 0 ∧ (zs.take k).getD j 0 ≤ 255 := fun j hj => by
  have hm : (zs.take k).getD j 0 ∈ zs.take k := by
    rw [List.getD_eq_getElem?_getD, List.getElem?_eq_getElem hj]; exact List.getElem_mem hj
  exact wfU8 (h _ (List.mem_of_mem_take hm))
end Go.Proofs.Ytjkeefmpjocilaa
