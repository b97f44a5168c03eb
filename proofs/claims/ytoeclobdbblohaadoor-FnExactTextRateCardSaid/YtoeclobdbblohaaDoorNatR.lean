/- Plain lemmas on numbers and lists; no program in sight. Conditions: none. -/
import Derived.Test.YtoeclobdbblohaaDoorNatI
set_option linter.unusedVariables false
set_option linter.unusedSimpArgs false
namespace Go.Proofs.YtoeclobdbblohaaDoor
open Go Go.RowKit
/-! ### laws of rounding -/
theorem cmpN_cases (a b : Nat) : (cmpN a b = -1 ∧ a < b) ∨ (cmpN a b = 0 ∧ a = b) ∨ (cmpN a b = 1 ∧ b < a) := by
  unfold cmpN
  by_cases h1 : a < b
  · exact .inl ⟨by rw [if_pos h1], h1⟩
  · rw [if_neg h1]
    by_cases h2 : a = b
    · exact .inr (.inl ⟨by simp [h2], h2⟩)
    · exact .inr (.inr ⟨by simp [h2], by omega⟩)
/-- rounding is off by less than one -/
theorem rq_strict (x : Int) {d : Nat} (hd : 0 < d) (m : Int) : (x + -rqI x d m * (d : Int)).natAbs < d := by
  have h1 := Nat.div_add_mod x.natAbs d
  have h2 := Nat.mod_lt x.natAbs hd
  have h3 : rq x d m = x.natAbs / d ∨ (0 < x.natAbs % d ∧ rq x d m = x.natAbs / d + 1) := by
    unfold rq; split
    · rename_i h; exact .inr ⟨h.1, rfl⟩
    · exact .inl rfl
  have e0 : ((rq x d m : Nat) : Int) * (d : Int) = ((d * (rq x d m) : Nat) : Int) := by rw [Int.natCast_mul, Int.mul_comm]
  have h4 : d * rq x d m = d * (x.natAbs / d) ∨ (0 < x.natAbs % d ∧ d * rq x d m = d * (x.natAbs / d) + d) := by
    rcases h3 with h | ⟨h0, h⟩
    · rw [h]; exact .inl rfl
    · rw [h, Nat.mul_add, Nat.mul_one]; exact .inr ⟨h0, rfl⟩
  unfold rqI sgI
  by_cases hx : x < 0
  · rw [if_pos (ng_true.2 hx), Int.neg_neg, e0]; omega
  · rw [if_neg (by rw [ng_false.2 (by omega)]; decide), Int.neg_mul, e0]; omega
/-- to the nearest: off by a half at most -/
theorem rq_half (x : Int) {d : Nat} (hd : 0 < d) {m : Int} (hm : 4 ≤ m ∧ m ≤ 6) : 2 * (x + -rqI x d m * (d : Int)).natAbs ≤ d := by
  have h1 := Nat.div_add_mod x.natAbs d
  have h2 := Nat.mod_lt x.natAbs hd
  have h3 : (2 * (x.natAbs % d) ≤ d ∧ rq x d m = x.natAbs / d) ∨ (d ≤ 2 * (x.natAbs % d) ∧ rq x d m = x.natAbs / d + 1) := by
    have hc := cmpN_cases (x.natAbs % d + x.natAbs % d) d
    unfold rq
    have hm3 : m = 4 ∨ m = 5 ∨ m = 6 := by omega
    by_cases hr : 0 < x.natAbs % d
    · rcases hm3 with rfl | rfl | rfl <;> rcases hc with ⟨hc, hl⟩ | ⟨hc, hl⟩ | ⟨hc, hl⟩ <;> simp only [awayB, hc] <;> by_cases ho : (x.natAbs / d) % 2 = 1 <;> simp [hr, ho] <;> omega
    · rw [if_neg (fun h => hr h.1)]; omega
  have e0 : ((rq x d m : Nat) : Int) * (d : Int) = ((d * (rq x d m) : Nat) : Int) := by rw [Int.natCast_mul, Int.mul_comm]
  have h4 : (2 * (x.natAbs % d) ≤ d ∧ d * rq x d m = d * (x.natAbs / d)) ∨ (d ≤ 2 * (x.natAbs % d) ∧ d * rq x d m = d * (x.natAbs / d) + d) := by
    rcases h3 with ⟨h0, h⟩ | ⟨h0, h⟩
    · rw [h]; exact .inl ⟨h0, rfl⟩
    · rw [h, Nat.mul_add, Nat.mul_one]; exact .inr ⟨h0, rfl⟩
  unfold rqI sgI
  by_cases hx : x < 0
  · rw [if_pos (ng_true.2 hx), Int.neg_neg, e0]; omega
  · rw [if_neg (by rw [ng_false.2 (by omega)]; decide), Int.neg_mul, e0]; omega
/-- the mode that rounds to the other side -/
def turn (m : Int) : Int := if m = 2 then 3 else if m = 3 then 2 else m
theorem away_turn {m : Int} (hm : 0 ≤ m ∧ m ≤ 6) (b : Bool) (c : Int) (o : Bool) : awayB (turn m) (!b) c o = awayB m b c o := by
  have : m = 0 ∨ m = 1 ∨ m = 2 ∨ m = 3 ∨ m = 4 ∨ m = 5 ∨ m = 6 := by omega
  rcases this with rfl | rfl | rfl | rfl | rfl | rfl | rfl <;> simp [awayB, turn]
theorem rq_turn (x : Int) (d : Nat) {m : Int} (hm : 0 ≤ m ∧ m ≤ 6) : rq (-x) d (turn m) = rq x d m := by
  by_cases h0 : x = 0
  · subst h0; unfold rq; simp
  have hn : ng (-x) = !ng x := by
    by_cases hx : x < 0
    · rw [ng_true.2 hx, ng_false.2 (show 0 ≤ -x by omega)]; rfl
    · rw [ng_false.2 (show 0 ≤ x by omega), ng_true.2 (show -x < 0 by omega)]; rfl
  unfold rq
  rw [Int.natAbs_neg, hn, away_turn hm]
theorem rqI_turn (x : Int) (d : Nat) {m : Int} (hm : 0 ≤ m ∧ m ≤ 6) : rqI x d m = -rqI (-x) d (turn m) := by
  unfold rqI; rw [rq_turn x d hm]; unfold sgI
  by_cases h0 : x = 0
  · subst h0; simp [ng, rq]
  by_cases hx : x < 0
  · rw [if_pos (ng_true.2 hx), if_neg (by rw [ng_false.2 (show 0 ≤ -x by omega)]; decide)]
  · rw [if_neg (by rw [ng_false.2 (show 0 ≤ x by omega)]; decide), if_pos (ng_true.2 (show -x < 0 by omega)), Int.neg_neg]
/-- no mode is below floor or above ceil -/
theorem rqI_order (x : Int) (d : Nat) (m : Int) : rqI x d 2 ≤ rqI x d m ∧ rqI x d m ≤ rqI x d 3 := by
  have h1 : rq x d 0 ≤ rq x d m ∧ rq x d m ≤ rq x d 1 := by
    by_cases hr : 0 < x.natAbs % d
    · have a0 : rq x d 0 = x.natAbs / d := by unfold rq; simp [awayB]
      have a1 : rq x d 1 = x.natAbs / d + 1 := by unfold rq; simp [awayB, hr]
      have a2 := rq_le x d m
      have a3 : x.natAbs / d ≤ rq x d m := by unfold rq; exact Nat.le_add_right _ _
      omega
    · have a : ∀ k, rq x d k = x.natAbs / d := fun k => rq_dn (fun h => hr h.1)
      rw [a 0, a 1, a m]; exact ⟨Nat.le_refl _, Nat.le_refl _⟩
  unfold rqI sgI
  by_cases hx : x < 0
  · rw [if_pos (ng_true.2 hx), if_pos (ng_true.2 hx), if_pos (ng_true.2 hx)]
    have e2 : rq x d 2 = rq x d 1 := by unfold rq; simp [awayB, ng_true.2 hx]
    have e3 : rq x d 3 = rq x d 0 := by unfold rq; simp [awayB, ng_true.2 hx]
    omega
  · have hf := ng_false.2 (show 0 ≤ x by omega)
    have e2 : rq x d 2 = rq x d 0 := by unfold rq; simp [awayB, hf]
    have e3 : rq x d 3 = rq x d 1 := by unfold rq; simp [awayB, hf]
    rw [hf]
    simp; omega
theorem rqI_whole (x m : Int) : rqI x 1 m = x := by
  have : rq x 1 m = x.natAbs := by unfold rq; simp [Nat.mod_one]
  unfold rqI; rw [this, sgI_ng]
end Go.Proofs.YtoeclobdbblohaaDoor
