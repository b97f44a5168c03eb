/- Plain lemmas on numbers and lists; no program in sight. Conditions: none. -/
import Derived.Test.YtoeclobdbblohaaDoorNatH
import Derived.Test.YtoeclobdbblohaaDoorSxB
set_option linter.unusedVariables false
set_option linter.unusedSimpArgs false
namespace Go.Proofs.YtoeclobdbblohaaDoor
open Go Go.RowKit
theorem Sv.nilD (w : World) (lo hi : Nat) : Sl w lo hi (.slice none 0 0) (dg 0) := by rw [dg_zero]; exact Sv.nil w lo hi 1
theorem Sv.nil0 (w : World) (lo hi : Nat) : Sl w lo hi (.slice none 0 0) (dg (0 : Int).natAbs) := Sv.nilD w lo hi
theorem sign_gt {x : Int} : 0 < x.sign ↔ 0 < x := by
  rcases Int.lt_trichotomy x 0 with h | h | h
  · rw [Int.sign_eq_neg_one_of_neg h]; omega
  · subst h; simp
  · rw [Int.sign_eq_one_of_pos h]; omega
theorem cmpI_gt0 {x : Int} : 0 < cmpI x 0 ↔ 0 < x := by unfold cmpI; split <;> (try split) <;> simp <;> omega
/-! ### rates -/
def RateP (f t : ByteArray) (n : Bool) (z : List Int) (p : Int) : Prop := Known f ∧ Known t ∧ f ≠ t ∧ DOk n z p ∧ 0 < vI n z ∧ z.length ≤ 2
instance (f t : ByteArray) (n : Bool) (z : List Int) (p : Int) : Decidable (RateP f t n z p) := by unfold RateP; infer_instance
/-! ### units of currencies -/
def cUnit (s : ByteArray) : Bool × List Int × List Int × Bool := if Known s then (false, dg (10 ^ (curOf s).places.toNat), [1], true) else noR
theorem cUnit_ok {s : ByteArray} (h : Known s) : cUnit s = (false, dg (10 ^ (curOf s).places.toNat), [1], true) := by unfold cUnit; rw [if_pos h]
theorem cUnit_no {s : ByteArray} (h : ¬ Known s) : cUnit s = noR := by unfold cUnit; rw [if_neg h]
theorem cUnit_len {s : ByteArray} : (cUnit s).2.1.length ≤ 18 ∧ (cUnit s).2.2.1.length ≤ 18 := by
  unfold cUnit; split
  · exact ⟨Nat.le_trans (ten_len' (by have := cur_places s; omega)) (by omega), by simp⟩
  · exact ⟨by simp [noR], by simp [noR]⟩
end Go.Proofs.YtoeclobdbblohaaDoor
