/- Plain lemmas on numbers and lists; no program in sight. Conditions: none. -/
import Derived.Test.YtemlgjheidbccaaDoorNatS
import Derived.Test.YtemlgjheidbccaaDoorSxS
import Derived.Test.YtemlgjheidbccaaDoorSxT
import Derived.Test.YtemlgjheidbccaaDoorNatE
set_option linter.unusedVariables false
set_option linter.unusedSimpArgs false
namespace Go.Proofs.YtemlgjheidbccaaDoor
open Go Go.RowKit
/-! ### the codes in their order -/
theorem codes_next {l : List Cr} {k : Nat} (h : k < l.length) : (l.map Cr.code).take k ++ [(l.getD k cr0).code] = (l.map Cr.code).take (k + 1) := by
  rw [List.take_succ_eq_append_getElem (by simpa using h)]
  simp [List.getElem?_eq_getElem h]
theorem curs_sorted : sortS ((tabI.map Cr.code).take 20) = tabS.map Cr.code := sortS_of (by decide) (by decide)
def CodeP (s : ByteArray) : Prop := (∀ i, i < s.size → 65 ≤ strB s i ∧ strB s i ≤ 90) ∧ s.size = 3
instance (s : ByteArray) : Decidable (CodeP s) := by unfold CodeP; infer_instance
theorem all_next {s : ByteArray} {k : Nat} (h : ∀ i, i < k → 65 ≤ strB s i ∧ strB s i ≤ 90) (hk : 65 ≤ strB s k ∧ strB s k ≤ 90) : ∀ i, i < k + 1 → 65 ≤ strB s i ∧ strB s i ≤ 90 := fun i hi => by
  by_cases e : i = k
  · subst e; exact hk
  · exact h i (by omega)
theorem curs_all : ∀ k, k < 20 → Known ((tabS.map Cr.code).getD k ByteArray.empty) ∧ numOf (curOf ((tabS.map Cr.code).getD k ByteArray.empty)).number = (tabS.map Cr.code).getD k ByteArray.empty ∧
    (0 ≤ (curOf ((tabS.map Cr.code).getD k ByteArray.empty)).places ∧ (curOf ((tabS.map Cr.code).getD k ByteArray.empty)).places ≤ 4) ∧ 1 ≤ (curOf ((tabS.map Cr.code).getD k ByteArray.empty)).cash ∧ CodeP ((tabS.map Cr.code).getD k ByteArray.empty) := by decide +kernel
theorem curs_order {k : Nat} (h : k < 20) (h0 : 0 < k) : (!Op.bytesLess ((tabS.map Cr.code).getD (k - 1) ByteArray.empty).toList ((tabS.map Cr.code).getD k ByteArray.empty).toList) = false :=
  (show ∀ k, k < 20 → 0 < k → (!Op.bytesLess ((tabS.map Cr.code).getD (k - 1) ByteArray.empty).toList ((tabS.map Cr.code).getD k ByteArray.empty).toList) = false by decide +kernel) k h h0
theorem places_len {p : Int} (h : 0 ≤ p ∧ p ≤ 4) : (dg (10 ^ p.toNat)).length ≤ 1 := by
  have : p = 0 ∨ p = 1 ∨ p = 2 ∨ p = 3 ∨ p = 4 := by omega
  rcases this with rfl | rfl | rfl | rfl | rfl <;> exact dg_len_le (by decide)
theorem cUnit_k {s : ByteArray} (h : Known s) : cUnit s = (ng ((10 ^ (curOf s).places.toNat : Nat) : Int), dg ((10 ^ (curOf s).places.toNat : Nat) : Int).natAbs, dg 1, true) := by
  unfold cUnit
  rw [if_pos h, dg_1, ng_false.2 (Int.natCast_nonneg _), Int.natAbs_natCast]
end Go.Proofs.YtemlgjheidbccaaDoor
