/- Plain lemmas on numbers and lists; no program in sight. Conditions: none. -/
import Derived.Test.YtoeclobdbblohaaDoorNatE
set_option linter.unusedVariables false
set_option linter.unusedSimpArgs false
namespace Go.Proofs.YtoeclobdbblohaaDoor
/-! ### division, from above -/
theorem drop_set {os : List Int} {j : Nat} {x : Int} (h : j < os.length) : (os.set j x).drop j = x :: os.drop (j + 1) := by
  rw [List.set_eq_take_append_cons_drop, if_pos h, List.drop_append, List.length_take, Nat.min_eq_left (by omega)]
  simp [List.drop_eq_nil_of_le]
theorem drop_getD {os : List Int} {j : Nat} (h : j < os.length) : os.drop j = os.getD j 0 :: os.drop (j + 1) := by
  have e : os.getD j 0 = os[j] := by simp [List.getElem?_eq_getElem h]
  rw [e, ← List.drop_eq_getElem_cons h]
theorem vl_drop {os : List Int} {k : Nat} (hk : 0 < k) (h : k ≤ os.length) : vl (os.drop (k - 1)) = (os.getD (k - 1) 0).toNat + Bs * vl (os.drop k) := by
  rw [drop_getD (by omega), Nat.sub_add_cancel hk, vl]
theorem vl_drop_set {os : List Int} {k : Nat} {x : Int} (hk : 0 < k) (h : k ≤ os.length) : vl ((os.set (k - 1) x).drop (k - 1)) = x.toNat + Bs * vl (os.drop k) := by
  rw [drop_set (by omega), Nat.sub_add_cancel hk, vl]
theorem small_q {r d a : Int} (h0 : 0 ≤ r) (h1 : r < d) (a0 : 0 ≤ a) (a1 : a < 1000000000) : 0 ≤ (r * 1000000000 + a) / d ∧ (r * 1000000000 + a) / d < 1000000000 ∧ 0 ≤ (r * 1000000000 + a) % d ∧ (r * 1000000000 + a) % d < d := by
  refine ⟨Int.ediv_nonneg (by omega) (by omega), Int.ediv_lt_of_lt_mul (by omega) (by omega), Int.emod_nonneg _ (by omega), Int.emod_lt_of_pos _ (by omega)⟩
theorem small_step {A os : List Int} {k : Nat} {r d X : Int} (hk : 0 < k) (hA : k ≤ A.length) (ho : k ≤ os.length) (hr : 0 ≤ r ∧ r < d) (ha : 0 ≤ A.getD (k - 1) 0 ∧ A.getD (k - 1) 0 < 1000000000) (hX : X = r * 1000000000 + A.getD (k - 1) 0)
    (hv : vl (A.drop k) = d.toNat * vl (os.drop k) + r.toNat) : vl (A.drop (k - 1)) = d.toNat * vl ((os.set (k - 1) (X / d)).drop (k - 1)) + (X % d).toNat := by
  rw [vl_drop hk hA, vl_drop_set hk ho, hv]
  have hq := small_q hr.1 hr.2 ha.1 ha.2
  rw [← hX] at hq
  have h1 := Int.mul_ediv_add_emod X d
  have h2 : d.toNat * (X / d).toNat + (X % d).toNat = r.toNat * Bs + (A.getD (k - 1) 0).toNat := by
    have e1 : ((d.toNat * (X / d).toNat + (X % d).toNat : Nat) : Int) = X := by
      rw [Int.natCast_add, Int.natCast_mul, Int.toNat_of_nonneg (by omega), Int.toNat_of_nonneg hq.1, Int.toNat_of_nonneg hq.2.2.1]; exact h1
    simp only [Bs]; omega
  generalize (X / d).toNat = q at *
  generalize (X % d).toNat = s at *
  generalize vl (os.drop k) = V at *
  generalize (A.getD (k - 1) 0).toNat = a at *
  generalize d.toNat = e at *
  generalize r.toNat = t at *
  grind
theorem div_end {m d v r : Nat} (h : m = d * v + r) (hr : r < d) : v = m / d ∧ r = m % d := by
  subst h
  have h0 : 0 < d := by omega
  refine ⟨?_, ?_⟩
  · rw [Nat.mul_add_div h0, Nat.div_eq_of_lt hr, Nat.add_zero]
  · rw [Nat.mul_add_mod, Nat.mod_eq_of_lt hr]
theorem one_limb {n : Nat} (h : (dg n).length = 1) : ((dg n).getD 0 0).toNat = n ∧ 1 ≤ (dg n).getD 0 0 ∧ (dg n).getD 0 0 ≤ 999999999 := by
  have h0 : n ≠ 0 := fun e => by subst e; rw [dg_zero] at h; cases h
  have hb := (Lm_dg n).getD 0
  have e : n / Bs = 0 := by
    rw [dg_pos h0, List.length_cons] at h
    exact len_zero.1 (by omega)
  have hm : n % Bs = n := Nat.mod_eq_of_lt (by
    rcases Nat.lt_or_ge n Bs with h1 | h1
    · exact h1
    · have := Nat.div_pos h1 (by decide); omega)
  have h2 : (dg n).getD 0 0 = (n : Int) := by rw [dg_pos h0, hm]; rfl
  rw [h2] at hb ⊢
  refine ⟨by simp, by omega, by omega⟩
theorem cmpN_le {m n : Nat} : cmpN m n ≤ 0 ↔ m ≤ n := by unfold cmpN; split <;> (try split) <;> simp <;> omega
theorem digit_end {r n : Nat} {lo hi : Int} (h0 : 0 ≤ lo) (he : ¬ lo < hi) (hle : lo ≤ hi) (hl : lo.toNat * n ≤ r) (hh : r < (hi.toNat + 1) * n) : lo = ((r / n : Nat) : Int) := by
  have e : lo = hi := by omega
  subst e
  have h1 : 0 < n := by
    rcases Nat.eq_zero_or_pos n with h | h
    · subst h; simp at hh
    · exact h
  have : r / n = lo.toNat := by
    apply Nat.le_antisymm
    · exact Nat.lt_succ_iff.1 ((Nat.div_lt_iff_lt_mul h1).2 hh)
    · exact (Nat.le_div_iff_mul_le h1).2 hl
  omega
theorem head_vl (a : Int) (R : Nat) : vl ([a] ++ dg R) = a.toNat + 1000000000 * R := by
  rw [vl_append, vl_dg]; simp [vl, Bs]
/-- a part brought down -/
theorem down_step {A os : List Int} {k n R X : Nat} (hk : 0 < k) (hA : k ≤ A.length) (ho : k ≤ os.length) (hz : os.getD (k - 1) 0 = 0) (hX : X = (A.getD (k - 1) 0).toNat + 1000000000 * R)
    (hv : vl (A.drop k) = n * vl (os.drop k) + R) : vl (A.drop (k - 1)) = n * vl (os.drop (k - 1)) + X := by
  rw [vl_drop hk hA, vl_drop hk ho, hv, hz, hX]
  simp only [Bs, Int.toNat_zero]
  grind
theorem div_step {A os : List Int} {k n R X : Nat} (hk : 0 < k) (hA : k ≤ A.length) (ho : k ≤ os.length) (hX : X = (A.getD (k - 1) 0).toNat + 1000000000 * R) (hn : 0 < n)
    (hv : vl (A.drop k) = n * vl (os.drop k) + R) : vl (A.drop (k - 1)) = n * vl ((os.set (k - 1) (((X / n : Nat) : Int))).drop (k - 1)) + (X - n * (((X / n : Nat) : Int)).toNat) := by
  rw [vl_drop hk hA, vl_drop_set hk ho, hv]
  rw [Int.toNat_natCast]
  have h1 := Nat.div_add_mod X n
  have h2 : X - n * (X / n) = X % n := by omega
  rw [h2]
  simp only [Bs]
  generalize X / n = q at *
  generalize X % n = s at *
  generalize (A.getD (k - 1) 0).toNat = a at *
  generalize vl (os.drop k) = V at *
  grind
theorem sub_mod {X n : Nat} (hn : 0 < n) : X - n * (((X / n : Nat) : Int)).toNat < n := by
  rw [Int.toNat_natCast]
  have h1 := Nat.div_add_mod X n
  have := Nat.mod_lt X hn
  omega
theorem q_limb {X n a R : Nat} (hX : X = a + 1000000000 * R) (ha : a < 1000000000) (hR : R < n) : X / n < 1000000000 := by
  rw [Nat.div_lt_iff_lt_mul (by omega)]
  have : 1000000000 * (R + 1) ≤ 1000000000 * n := Nat.mul_le_mul_left _ hR
  omega
theorem zero_below {os : List Int} {k : Nat} {x : Int} (h : ∀ i, i < k → os.getD i 0 = 0) : ∀ i, i < k - 1 → (os.set (k - 1) x).getD i 0 = 0 := fun i hi => by
  rw [getD_set_ne' (by omega)]; exact h i (by omega)
theorem zero_rep' (n k : Nat) : ∀ i, i < k → (List.replicate n (0 : Int)).getD i 0 = 0 := fun i _ => zero_rep n i (Nat.zero_le _)
theorem len_lt_mul {X n : Nat} (h : X < 1000000000 * n) : (dg X).length ≤ (dg n).length + 1 := by
  apply dg_len_le
  have h2 : n < Bs ^ (dg n).length := lt_of_dg_len (Nat.le_refl _)
  rw [Nat.pow_succ]; simp only [Bs] at *; omega
end Go.Proofs.YtoeclobdbblohaaDoor
