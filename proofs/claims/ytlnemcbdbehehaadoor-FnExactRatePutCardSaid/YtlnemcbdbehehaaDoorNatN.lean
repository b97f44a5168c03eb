/- Plain lemmas on numbers and lists; no program in sight. Conditions: none. -/
import Derived.Test.YtlnemcbdbehehaaDoorNatM
set_option linter.unusedVariables false
set_option linter.unusedSimpArgs false
namespace Go.Proofs.YtlnemcbdbehehaaDoor
open Go Go.RowKit
/-! ### smallest units, exact values -/
theorem low_scale {x : Int} {m d g : Nat} (hg : 0 < g) : rR (sgI (ng x) (m * g)) (d * g) = rR (sgI (ng x) m) d := by
  by_cases hd : d = 0
  · subst hd; rw [Nat.zero_mul, rR_zero rfl, rR_zero rfl]
  · have hd0 : 0 < d := by omega
    have e1 : Nat.gcd (m * g) (d * g) = Nat.gcd m d * g := Nat.gcd_mul_right _ _ _
    have e2 : m * g / Nat.gcd (m * g) (d * g) = m / Nat.gcd m d := by rw [e1, Nat.mul_div_mul_right _ _ hg]
    have e3 : d * g / Nat.gcd (m * g) (d * g) = d / Nat.gcd m d := by rw [e1, Nat.mul_div_mul_right _ _ hg]
    by_cases h : (dg (m / Nat.gcd m d)).length ≤ 18 ∧ (dg (d / Nat.gcd m d)).length ≤ 18
    · rw [rR_ok hd0 h.1 h.2, rR_ok (Nat.mul_pos hd0 hg) (by rw [e2]; exact h.1) (by rw [e3]; exact h.2), e2, e3]
    · rw [rR_no h, rR_no (by rw [e2, e3]; exact h)]
def uRt (pv : ByteArray) (ts : List Rt) (a b : ByteArray) : Bool × List Int × List Int × Bool :=
  if (rOf pv ts a b).2.2.2 = true then rR (sgI (rOf pv ts a b).1 (vl (rOf pv ts a b).2.1 * 10 ^ (curOf b).places.toNat)) (vl (rOf pv ts a b).2.2.1 * 10 ^ (curOf a).places.toNat) else noR
theorem uRt_no {pv : ByteArray} {ts : List Rt} {a b : ByteArray} (h : (rOf pv ts a b).2.2.2 = false) : uRt pv ts a b = noR := by unfold uRt; rw [if_neg (by rw [h]; decide)]
theorem uRt_ok {pv : ByteArray} {ts : List Rt} {a b : ByteArray} {x : Int} {e : Nat} (h : (rOf pv ts a b).2.2.2 = true) (h1 : (rOf pv ts a b).1 = ng x) (h2 : (rOf pv ts a b).2.1 = dg x.natAbs) (h3 : (rOf pv ts a b).2.2.1 = dg e) :
    uRt pv ts a b = rR (sgI (ng x) (x.natAbs * 10 ^ (curOf b).places.toNat)) (e * 10 ^ (curOf a).places.toNat) := by unfold uRt; rw [if_pos h, h1, h2, h3, vl_dg, vl_dg]
theorem uRt_len {pv : ByteArray} {ts : List Rt} {a b : ByteArray} : (uRt pv ts a b).2.1.length ≤ 18 ∧ (uRt pv ts a b).2.2.1.length ≤ 18 := by
  unfold uRt; split
  · exact rR_len
  · exact ⟨by simp [noR], by simp [noR]⟩
theorem rOf_known {pv : ByteArray} {ts : List Rt} {a b : ByteArray} (h : (rOf pv ts a b).2.2.2 = true) : Known a ∧ Known b := by
  have : how pv ts a b ≠ 0 := fun e => by rw [rOf_0 (by omega) (by omega) (by omega) (by omega)] at h; cases h
  exact (how_ok this).2
/-- the reference's way: by the quotient of the units -/
theorem uRt_mul {pv : ByteArray} {ts : List Rt} {a b : ByteArray} (h : (rOf pv ts a b).2.2.2 = true) :
    uRt pv ts a b = rMul (rOf pv ts a b).1 (rOf pv ts a b).2.1 (rOf pv ts a b).2.2.1 (rDiv (cUnit b).1 (cUnit b).2.1 (cUnit b).2.2.1 (cUnit a).1 (cUnit a).2.1 (cUnit a).2.2.1).1 (rDiv (cUnit b).1 (cUnit b).2.1 (cUnit b).2.2.1 (cUnit a).1 (cUnit a).2.1 (cUnit a).2.2.1).2.1 (rDiv (cUnit b).1 (cUnit b).2.1 (cUnit b).2.2.1 (cUnit a).1 (cUnit a).2.1 (cUnit a).2.2.1).2.2.1 := by
  have hk := rOf_known h
  have hR := rOf_ROk h
  obtain ⟨x, e, h1, h2, h3, he, _, _, _⟩ := hR.rat
  rw [uRt_ok h h1 h2 h3, h1, h2, h3, cUnit_ok hk.1, cUnit_ok hk.2]
  rw [h1, h2, h3] at hR
  have pa := cur_places a
  have pb := cur_places b
  have la := ten_len' (k := (curOf a).places) (by omega)
  have lb := ten_len' (k := (curOf b).places) (by omega)
  have ha : 0 < 10 ^ (curOf a).places.toNat := Nat.pow_pos (by decide)
  have hb : 0 < 10 ^ (curOf b).places.toNat := Nat.pow_pos (by decide)
  generalize 10 ^ (curOf a).places.toNat = A at *
  generalize 10 ^ (curOf b).places.toNat = B at *
  have ngp : ∀ n : Nat, ng ((n : Nat) : Int) = false := fun n => ng_false.2 (by omega)
  have hUb : ROk (ng ((B : Nat) : Int)) (dg ((B : Nat) : Int).natAbs) (dg 1) := ROk_iff.2 ⟨by decide, by rw [Int.natAbs_natCast]; omega, by rw [dg_1]; simp, Nat.gcd_one_right _⟩
  have hUa : ROk (ng ((A : Nat) : Int)) (dg ((A : Nat) : Int).natAbs) (dg 1) := ROk_iff.2 ⟨by decide, by rw [Int.natAbs_natCast]; omega, by rw [dg_1]; simp, Nat.gcd_one_right _⟩
  have hD := rDiv_ok hUb hUa
  rw [ngp, ngp, Int.natAbs_natCast, Int.natAbs_natCast, dg_1, Nat.mul_one, Nat.one_mul] at hD
  show _ = rMul (ng x) (dg x.natAbs) (dg e) (rDiv false (dg B) [1] false (dg A) [1]).1 (rDiv false (dg B) [1] false (dg A) [1]).2.1 (rDiv false (dg B) [1] false (dg A) [1]).2.2.1
  rw [hD, show (false != false) = false from rfl, sgI_false]
  have hP := Pos_rR (x := (B : Int)) (d := A) (by omega) ha (by rw [Int.natAbs_natCast]; exact lb) la
  have hlow := low_mul ((B : Nat) : Int) A
  rw [Int.natAbs_natCast] at hlow
  have hg : 0 < Nat.gcd B A := Nat.gcd_pos_of_pos_right _ ha
  have hrr : rR ((B : Nat) : Int) A = (ng (lowN (B : Int) A), dg (lowN (B : Int) A).natAbs, dg (lowD (B : Int) A), true) := by
    have h4 : (dg (lowN (B : Int) A).natAbs).length ≤ 18 := by rw [lowN_abs, Int.natAbs_natCast]; exact Nat.le_trans (len_div _ _) (by omega)
    have h5 : (dg (lowD (B : Int) A)).length ≤ 18 := Nat.le_trans (len_div _ _) (by omega)
    unfold rR; rw [if_pos ⟨ha, h4, h5⟩]
  have hF := hP.rok
  rw [hrr] at hF ⊢
  show _ = rMul (ng x) (dg x.natAbs) (dg e) (ng (lowN (B : Int) A)) (dg (lowN (B : Int) A).natAbs) (dg (lowD (B : Int) A))
  rw [rMul_ok hR hF, lowN_ng _ ha, ngp, show (ng x != false) = ng x by cases ng x <;> rfl]
  generalize (lowN (B : Int) A).natAbs = F at *
  generalize lowD (B : Int) A = G at *
  generalize Nat.gcd B A = g at *
  rw [hlow.1, hlow.2, show x.natAbs * (g * F) = x.natAbs * F * g by grind, show e * (g * G) = e * G * g by grind, low_scale hg]
def exct (pv : ByteArray) (ts : List Rt) (c : ByteArray) (n : Bool) (z : List Int) (to : ByteArray) : Bool × List Int × List Int × Bool :=
  if MOk c n z ∧ (uRt pv ts c to).2.2.2 = true then rMul (mRat c n z).1 (mRat c n z).2.1 (mRat c n z).2.2.1 (uRt pv ts c to).1 (uRt pv ts c to).2.1 (uRt pv ts c to).2.2.1 else noR
theorem exct_no {pv : ByteArray} {ts : List Rt} {c : ByteArray} {n : Bool} {z : List Int} {to : ByteArray} (h : ¬ (MOk c n z ∧ (uRt pv ts c to).2.2.2 = true)) : exct pv ts c n z to = noR := by unfold exct; rw [if_neg h]
theorem exct_ok {pv : ByteArray} {ts : List Rt} {c : ByteArray} {n : Bool} {z : List Int} {to : ByteArray} (h : MOk c n z) (h2 : (uRt pv ts c to).2.2.2 = true) : exct pv ts c n z to = rMul (mRat c n z).1 (mRat c n z).2.1 (mRat c n z).2.2.1 (uRt pv ts c to).1 (uRt pv ts c to).2.1 (uRt pv ts c to).2.2.1 := by unfold exct; rw [if_pos ⟨h, h2⟩]
theorem exct_len {pv : ByteArray} {ts : List Rt} {c : ByteArray} {n : Bool} {z : List Int} {to : ByteArray} : (exct pv ts c n z to).2.1.length ≤ 18 ∧ (exct pv ts c n z to).2.2.1.length ≤ 18 := by
  unfold exct; split
  · exact rMul_len
  · exact ⟨by simp [noR], by simp [noR]⟩
end Go.Proofs.YtlnemcbdbehehaaDoor
