/- Plain lemmas on numbers and lists; no program in sight. Conditions: none. -/
import Derived.Test.YtoeclobdbblohaaDoorNatK
set_option linter.unusedVariables false
set_option linter.unusedSimpArgs false
namespace Go.Proofs.YtoeclobdbblohaaDoor
open Go Go.RowKit
/-! ### fractions and money -/
theorem rRest_int (n : Bool) (z y : List Int) (m : Int) : ∃ Q : Int, (rRest n z y m).1.1 = ng Q ∧ (rRest n z y m).1.2 = dg Q.natAbs := by
  unfold rRest; split
  · rename_i h
    have h1 := h.1
    unfold rRound at h1 ⊢
    split at h1
    · rename_i h2
      rw [if_pos h2]
      exact ⟨_, rfl, rfl⟩
    · cases h1
  · exact ⟨0, (ng_false.2 (Int.le_refl 0)).symm, by rw [Int.natAbs_zero, dg_zero]⟩
def rMon (c : ByteArray) (n : Bool) (z y : List Int) (m : Int) : (ByteArray × Bool × List Int) × (Bool × List Int × List Int) × Bool :=
  if (rRest n z y m).2.2 = true ∧ (mR c (vI (rRest n z y m).1.1 (rRest n z y m).1.2)).2.2.2 = true then
    (((mR c (vI (rRest n z y m).1.1 (rRest n z y m).1.2)).1, (mR c (vI (rRest n z y m).1.1 (rRest n z y m).1.2)).2.1, (mR c (vI (rRest n z y m).1.1 (rRest n z y m).1.2)).2.2.1), (rRest n z y m).2.1, true)
  else ((⟨#[]⟩, false, []), (false, [], []), false)
theorem rMon_ok {c : ByteArray} {n : Bool} {z y : List Int} {m Q : Int} (h1 : (rRest n z y m).1.1 = ng Q) (h2 : (rRest n z y m).1.2 = dg Q.natAbs) (h3 : (rRest n z y m).2.2 = true) (h4 : (mR c Q).2.2.2 = true) :
    rMon c n z y m = (((mR c Q).1, (mR c Q).2.1, (mR c Q).2.2.1), (rRest n z y m).2.1, true) := by
  unfold rMon; rw [h1, h2, vI_ng, if_pos ⟨h3, h4⟩]
theorem rMon_no {c : ByteArray} {n : Bool} {z y : List Int} {m Q : Int} (h1 : (rRest n z y m).1.1 = ng Q) (h2 : (rRest n z y m).1.2 = dg Q.natAbs) (h : ¬ ((rRest n z y m).2.2 = true ∧ (mR c Q).2.2.2 = true)) :
    rMon c n z y m = ((⟨#[]⟩, false, []), (false, [], []), false) := by
  unfold rMon; rw [h1, h2, vI_ng, if_neg h]
theorem rMon_len {c : ByteArray} {n : Bool} {z y : List Int} {m : Int} : (rMon c n z y m).1.2.2.length ≤ 4 ∧ (rMon c n z y m).2.1.2.1.length ≤ 18 ∧ (rMon c n z y m).2.1.2.2.length ≤ 18 := by
  unfold rMon; split
  · exact ⟨mR_len, rRest_len.2.1, rRest_len.2.2⟩
  · exact ⟨by simp, by simp, by simp⟩
def mRat (c : ByteArray) (n : Bool) (z : List Int) : Bool × List Int × List Int × Bool := if MOk c n z then (n, z, [1], true) else noR
theorem mRat_no {c : ByteArray} {n : Bool} {z : List Int} (h : ¬ MOk c n z) : mRat c n z = noR := by unfold mRat; rw [if_neg h]
theorem mRat_ok {c : ByteArray} {n : Bool} {z : List Int} (h : MOk c n z) : mRat c n z = (n, z, [1], true) := by unfold mRat; rw [if_pos h]
theorem mRat_len {c : ByteArray} {n : Bool} {z : List Int} : (mRat c n z).2.1.length ≤ 18 ∧ (mRat c n z).2.2.1.length ≤ 18 := by
  unfold mRat; split
  · rename_i h; exact ⟨Nat.le_trans h.2.2 (by decide), by simp⟩
  · exact ⟨by simp [noR], by simp [noR]⟩
theorem rInt_ok {x : Int} (h : (dg x.natAbs).length ≤ 18) : rInt (ng x) (dg x.natAbs) = (ng x, dg x.natAbs, [1], true) := by
  unfold rInt
  have e1 : ng (1 : Int) = false := ng_false.2 (by decide)
  have h1 : (dg (1 : Int).natAbs).length ≤ 1 := dg_len_le (by simp only [Bs]; decide)
  rw [rMake_ok (IOk_ng (by omega)) (IOk_ng (by omega)), e1, show (ng x != false) = ng x by cases ng x <;> rfl, sgI_ng]
  show rR x 1 = _
  rw [rR_same (ROk_iff.2 ⟨by decide, h, by rw [dg_1]; simp, Nat.gcd_one_right _⟩), dg_1]
theorem mRat_int {c : ByteArray} {n : Bool} {z : List Int} (h : MOk c n z) : rInt n z = mRat c n z := by
  obtain ⟨x, rfl, rfl, hx⟩ := h.int
  rw [mRat_ok h, rInt_ok (by omega)]
attribute [irreducible] rMon
end Go.Proofs.YtoeclobdbblohaaDoor
