/- Plain lemmas on numbers and lists; no program in sight. Conditions: none. -/
import Derived.Test.YtoeclobdbblohaaDoorNatRd
set_option linter.unusedVariables false
set_option linter.unusedSimpArgs false
namespace Go.Proofs.YtoeclobdbblohaaDoor
open Go Go.RowKit
/-! ### texts cut at a byte -/
def cutGo (b : Int) (s : ByteArray) : Nat → List ByteArray × Nat
  | 0 => ([], 0)
  | i + 1 => if strB s i = b then ((cutGo b s i).1 ++ [s.extract (cutGo b s i).2 i], i + 1) else cutGo b s i
def cutT (b : Int) (s : ByteArray) : List ByteArray := (cutGo b s s.size).1 ++ [s.extract (cutGo b s s.size).2 s.size]
theorem cutGo_le {b : Int} {s : ByteArray} : ∀ i : Nat, (cutGo b s i).2 ≤ i ∧ (cutGo b s i).1.length ≤ i
  | 0 => ⟨Nat.le_refl _, Nat.le_refl _⟩
  | i + 1 => by
    have ih := cutGo_le (b := b) (s := s) i
    rw [cutGo]; split
    · exact ⟨Nat.le_refl _, by simp only [List.length_append, List.length_singleton]; omega⟩
    · omega
theorem cutGo_from {b : Int} {s : ByteArray} {q : Nat} : ∀ d, (∀ j, q ≤ j → j < q + d → strB s j ≠ b) → cutGo b s (q + d) = cutGo b s q
  | 0, _ => rfl
  | d + 1, h => by
    show cutGo b s (q + d + 1) = _
    rw [cutGo, if_neg (h (q + d) (by omega) (by omega))]
    exact cutGo_from d (fun j h1 h2 => h j h1 (by omega))
theorem strB_ne {s : ByteArray} {b : UInt8} {j : Nat} (hj : j < s.size) (h : s.data.toList.getD j 0 ≠ b) : strB s j ≠ (b.toNat : Int) := fun e => h (strB_mem hj e)
theorem cut_none {b : UInt8} {s : ByteArray} (h : b ∉ s.data.toList) : cutT (b.toNat : Int) s = [s] := by
  have h1 := cutGo_from (b := (b.toNat : Int)) (s := s) (q := 0) s.size (fun j _ hj => strB_ne (by omega) (fun e => by
    have hl : j < s.data.toList.length := by rw [sz_list]; omega
    rw [List.getD_eq_getElem?_getD, List.getElem?_eq_getElem hl, Option.getD_some] at e
    exact h (e ▸ List.getElem_mem hl)))
  rw [Nat.zero_add] at h1
  unfold cutT
  rw [h1]
  show [] ++ [s.extract 0 s.size] = [s]
  rw [List.nil_append, ByteArray.extract_zero_size]
theorem cut_one {b : UInt8} {s : ByteArray} {x y : List UInt8} (h : s.data.toList = x ++ b :: y) (hx : b ∉ x) (hy : b ∉ y) : cutT (b.toNat : Int) s = [bl x, bl y] := by
  have hs : s.size = x.length + 1 + y.length := by rw [← sz_list, h]; simp; omega
  have h1 := cutGo_from (b := (b.toNat : Int)) (s := s) (q := 0) x.length (fun j _ hj => strB_ne (by omega) (fun e => by
    rw [h, List.getD_eq_getElem?_getD, List.getElem?_append_left (by omega), List.getElem?_eq_getElem (by omega), Option.getD_some] at e
    exact hx (e ▸ List.getElem_mem _)))
  have h2 := cutGo_from (b := (b.toNat : Int)) (s := s) (q := x.length + 1) y.length (fun j h1 hj => strB_ne (by omega) (fun e => by
    obtain ⟨k, rfl⟩ : ∃ k, j = x.length + 1 + k := ⟨j - x.length - 1, by omega⟩
    rw [h, List.getD_eq_getElem?_getD, List.getElem?_append_right (by omega), show x.length + 1 + k - x.length = k + 1 by omega, List.getElem?_cons_succ, List.getElem?_eq_getElem (by omega), Option.getD_some] at e
    exact hy (e ▸ List.getElem_mem _)))
  rw [Nat.zero_add] at h1
  have e : strB s x.length = (b.toNat : Int) := by rw [strB_list (by omega), h]; simp
  have h3 : cutGo (b.toNat : Int) s s.size = ([s.extract 0 x.length], x.length + 1) := by
    rw [hs, h2, cutGo, if_pos e, h1]; rfl
  unfold cutT
  rw [h3]
  have e1 : s.extract 0 x.length = bl x := ba_ext (by
    simp only [ByteArray.data_extract, Array.toList_extract, bl_list]
    rw [List.extract_eq_take_drop, h]; simp)
  have e2 : s.extract (x.length + 1) s.size = bl y := ba_ext (by
    simp only [ByteArray.data_extract, Array.toList_extract, bl_list]
    rw [List.extract_eq_take_drop, h, hs, show x.length + 1 + y.length - (x.length + 1) = y.length by omega, show x.length + 1 = (x ++ [b]).length by simp, show x ++ b :: y = (x ++ [b]) ++ y by simp, List.drop_left, List.take_length])
  show [s.extract 0 x.length] ++ [s.extract (x.length + 1) s.size] = _
  rw [e1, e2]; rfl
/-- a text without its sign -/
def unS (s : ByteArray) : ByteArray := if sgK s = true then s.extract 1 s.size else s
theorem unS_list {n : Bool} {z : List Int} {p : Int} (h : DOk n z p) : (unS (decT n z p)).data.toList = (if 0 < p then (padT (natT z) (p + 1)).data.toList.take ((padT (natT z) (p + 1)).size - p.toNat) ++ 46 :: (padT (natT z) (p + 1)).data.toList.drop ((padT (natT z) (p + 1)).size - p.toNat) else (padT (natT z) (p + 1)).data.toList) := by
  have l := decT_list h
  unfold unS
  rw [dec_sgK h]
  cases n
  · simpa using l
  · simp only [if_true] at l ⊢
    simp only [ByteArray.data_extract, Array.toList_extract]
    rw [List.extract_eq_take_drop, ← sz_list, l]
    simp
/-- the parts of a decimal's text at its point -/
theorem dec_parts {n : Bool} {z : List Int} {p : Int} (h : DOk n z p) : cutT 46 (unS (decT n z p)) = (if 0 < p then [bl ((padT (natT z) (p + 1)).data.toList.take ((padT (natT z) (p + 1)).size - p.toNat)), bl ((padT (natT z) (p + 1)).data.toList.drop ((padT (natT z) (p + 1)).size - p.toNat))] else [padT (natT z) (p + 1)]) := by
  have l := unS_list h
  have d := decT_digits h
  have hno := dgs_no d.1
  by_cases hp : 0 < p
  · rw [if_pos hp] at l ⊢
    exact cut_one (b := 46) l (fun hc => hno.1 (List.mem_of_mem_take hc)) (fun hc => hno.1 (List.mem_of_mem_drop hc))
  · rw [if_neg hp] at l ⊢
    have e : unS (decT n z p) = padT (natT z) (p + 1) := ba_ext l
    rw [e]
    exact cut_none (b := 46) hno.1
end Go.Proofs.YtoeclobdbblohaaDoor
