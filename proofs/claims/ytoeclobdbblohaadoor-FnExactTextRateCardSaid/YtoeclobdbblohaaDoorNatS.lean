/- Plain lemmas on numbers and lists; no program in sight. Conditions: none. -/
import Derived.Test.YtoeclobdbblohaaDoorNatR
import Derived.Test.YtoeclobdbblohaaDoorNatL
set_option linter.unusedVariables false
set_option linter.unusedSimpArgs false
namespace Go.Proofs.YtoeclobdbblohaaDoor
open Go Go.RowKit
/-! ### what draws make -/
theorem mem_getD {zs : List Int} {j : Nat} (h : j < zs.length) : zs.getD j 0 ∈ zs := by
  simp [List.getElem?_eq_getElem h]
theorem vl_trim_len {zs : List Int} (h : Lm zs) : (dg (vl zs)).length ≤ zs.length := dg_len_le (vl_lt h)
/-- the fraction that rR makes is x / d -/
theorem rR_value {x : Int} {d : Nat} : lowN x d * (d : Int) = x * (lowD x d : Int) := by
  have e : ∀ a : Nat, (a / Nat.gcd a d) * d = a * (d / Nat.gcd a d) := fun a => by
    obtain ⟨p, hp⟩ := Nat.gcd_dvd_left a d
    obtain ⟨q, hq⟩ := Nat.gcd_dvd_right a d
    rcases Nat.eq_zero_or_pos (Nat.gcd a d) with h0 | h0
    · rw [h0] at hp hq ⊢; simp at hp hq; simp [hp, hq]
    · have h1 : a / Nat.gcd a d = p := Nat.div_eq_of_eq_mul_right h0 hp
      have h2 : d / Nat.gcd a d = q := Nat.div_eq_of_eq_mul_right h0 hq
      rw [h1, h2]
      calc p * d = p * (Nat.gcd a d * q) := by rw [← hq]
        _ = (Nat.gcd a d * p) * q := by rw [Nat.mul_comm (Nat.gcd a d) p, Nat.mul_assoc]
        _ = a * q := by rw [← hp]
  have e2 : ((x.natAbs / Nat.gcd x.natAbs d : Nat) : Int) * (d : Int) = (x.natAbs : Int) * (lowD x d : Int) := by
    unfold lowD; rw [← Int.natCast_mul, ← Int.natCast_mul, e]
  unfold lowN sgI
  by_cases hx : x < 0
  · rw [if_pos (ng_true.2 hx), Int.neg_mul, e2]
    have : x = -(x.natAbs : Int) := by omega
    rw [← Int.neg_mul, ← this]
  · rw [if_neg (by rw [ng_false.2 (by omega)]; decide), e2]
    have : x = (x.natAbs : Int) := by omega
    rw [← this]
/-- a right fraction out of a number and a positive number -/
theorem rR_right {x : Int} {d k : Nat} (hk : k ≤ 18) (hx : (dg x.natAbs).length ≤ k) (hd : 0 < d) (hl : (dg d).length ≤ k) :
    ∃ (X : Int) (E : Nat), rR x d = (ng X, dg X.natAbs, dg E, true) ∧ ROk (ng X) (dg X.natAbs) (dg E) ∧ (dg X.natAbs).length ≤ k ∧ (dg E).length ≤ k ∧ X * (d : Int) = x * (E : Int) := by
  have hN : (dg (lowN x d).natAbs).length ≤ k := by
    rw [lowN_abs]; have := len_div x.natAbs (Nat.gcd x.natAbs d); omega
  have hE : (dg (lowD x d)).length ≤ k := by
    have := len_div d (Nat.gcd x.natAbs d); unfold lowD; omega
  have e : rR x d = (ng (lowN x d), dg (lowN x d).natAbs, dg (lowD x d), true) := by
    unfold rR; rw [if_pos ⟨hd, by omega, by omega⟩]
  have h1 := rR_ROk (x := x) (d := d) (by rw [e])
  rw [e] at h1
  exact ⟨_, _, e, h1, hN, hE, rR_value⟩
theorem draw_rat {x : Int} {n2 : Bool} {zs : List Int} {k : Nat} (hk : k ≤ 18) (hx : (dg x.natAbs).length ≤ k) (hz : Lm zs) (hl : zs.getLast? ≠ some 0) (h5 : 0 < zs.length ∧ zs.length ≤ k) :
    ∃ (X : Int) (E : Nat), rMake (ng x) (dg x.natAbs) n2 zs = (ng X, dg X.natAbs, dg E, true) ∧ ROk (ng X) (dg X.natAbs) (dg E) ∧ (dg X.natAbs).length ≤ k ∧ (dg E).length ≤ k := by
  have ez := dg_vl hz hl
  have hd : 0 < vl zs := len_pos.1 (by rw [ez]; exact h5.1)
  have e : rMake (ng x) (dg x.natAbs) n2 zs = rR (sgI (ng x != n2) x.natAbs) (vl zs) := by
    unfold rMake; rw [if_pos ⟨IOk_ng (by omega), ⟨⟨hz, by omega, hl⟩, fun _ => h5.1⟩⟩, vl_dg]
  rw [e]
  obtain ⟨X, E, h1, h2, h3, h4, _⟩ := rR_right (x := sgI (ng x != n2) x.natAbs) hk (by rw [sgI_abs]; exact hx) hd (by rw [ez]; exact h5.2)
  exact ⟨X, E, h1, h2, h3, h4⟩
theorem turn_tab {k : Nat} (h : k < 7) : ([0, 1, 3, 2, 4, 5, 6] : List Int).getD k 0 = turn (k : Int) := by
  have : k = 0 ∨ k = 1 ∨ k = 2 ∨ k = 3 ∨ k = 4 ∨ k = 5 ∨ k = 6 := by omega
  rcases this with rfl | rfl | rfl | rfl | rfl | rfl | rfl <;> rfl
theorem turn_bd {m : Int} (h : 0 ≤ m ∧ m ≤ 6) : 0 ≤ turn m ∧ turn m ≤ 6 := by unfold turn; split <;> (try split) <;> omega
theorem cmpI_le {x y : Int} (h : x ≤ y) : ¬ 0 < cmpI x y := by
  unfold cmpI; split <;> (try split) <;> omega
theorem cmpI_eq0 {x y : Int} (h : x = y) : cmpI x y = 0 := by subst h; unfold cmpI; simp
theorem half_iff {e : Nat} : ((dg e).length = 1 ∧ (dg e).getD 0 0 = 2) ↔ e = 2 := by
  have h2 : dg 2 = [2] := by have := dg_one (s := 2) (by decide) (by decide); simpa using this
  constructor
  · rintro ⟨h1, h3⟩
    have : dg e = dg 2 := by
      rw [h2]
      match hm : dg e, h1, h3 with
      | [a], _, h3 => simp at h3; rw [h3]
    exact dg_inj this
  · rintro rfl; rw [h2]; exact ⟨rfl, rfl⟩
/-- a half is rounded to the even one -/
theorem rqI_even {x : Int} (h : Nat.gcd x.natAbs 2 = 1) : (rqI x 2 6).natAbs % 2 = 0 := by
  have ho : x.natAbs % 2 = 1 := by
    rcases Nat.mod_two_eq_zero_or_one x.natAbs with h0 | h1
    · have : 2 ∣ Nat.gcd x.natAbs 2 := Nat.dvd_gcd (Nat.dvd_of_mod_eq_zero h0) (Nat.dvd_refl 2)
      rw [h] at this; omega
    · exact h1
  unfold rqI; rw [sgI_abs]
  have hc : cmpN (x.natAbs % 2 + x.natAbs % 2) 2 = 0 := by rw [ho]; rfl
  by_cases hq : (x.natAbs / 2) % 2 = 1
  · rw [rq_up (by omega) (by simp [awayB, hc, hq])]; omega
  · rw [rq_dn (fun hh => by have h9 := hh.2; simp [awayB, hc, hq] at h9)]; omega
theorem ROk_whole {x : Int} (h : (dg x.natAbs).length ≤ 18) : ROk (ng x) (dg x.natAbs) (dg 1) := by
  rw [ROk_iff]; exact ⟨by decide, h, by rw [dg_1]; decide, Nat.gcd_one_right _⟩
/-- what rounding leaves, over the same denominator, is right -/
theorem ROk_rest {x Q : Int} {e : Nat} (hR : ROk (ng x) (dg x.natAbs) (dg e)) (hl : (dg (x + -Q * (e : Int)).natAbs).length ≤ 18) : ROk (ng (x + -Q * (e : Int))) (dg (x + -Q * (e : Int)).natAbs) (dg e) := by
  rw [ROk_iff] at hR ⊢
  refine ⟨hR.1, hl, hR.2.2.1, ?_⟩
  have h1 := Nat.gcd_dvd_left (x + -Q * (e : Int)).natAbs e
  have h2 := Nat.gcd_dvd_right (x + -Q * (e : Int)).natAbs e
  have h3 : ((Nat.gcd (x + -Q * (e : Int)).natAbs e : Nat) : Int) ∣ x := by
    have a : ((Nat.gcd (x + -Q * (e : Int)).natAbs e : Nat) : Int) ∣ x + -Q * (e : Int) := Int.dvd_natAbs.1 (Int.natCast_dvd_natCast.2 h1)
    have b : ((Nat.gcd (x + -Q * (e : Int)).natAbs e : Nat) : Int) ∣ Q * (e : Int) := Int.dvd_trans (Int.natCast_dvd_natCast.2 h2) (Int.dvd_mul_left _ _)
    have c := Int.dvd_add a b
    have e0 : x + -Q * (e : Int) + Q * (e : Int) = x := by rw [Int.neg_mul]; omega
    rwa [e0] at c
  have h4 : Nat.gcd (x + -Q * (e : Int)).natAbs e ∣ Nat.gcd x.natAbs e := Nat.dvd_gcd (Int.natCast_dvd_natCast.1 (Int.dvd_natAbs.2 h3)) h2
  rw [hR.2.2.2] at h4
  exact Nat.dvd_one.1 h4
theorem rest_len {x : Int} {e : Nat} (he : 0 < e) (m : Int) : (dg (x + -rqI x e m * (e : Int)).natAbs).length ≤ (dg e).length := len_le (Nat.le_of_lt (rq_strict x he m))
theorem rRest_right {x : Int} {e : Nat} {m : Int} (hR : ROk (ng x) (dg x.natAbs) (dg e)) (hm : 0 ≤ m ∧ m ≤ 6) (hx : (dg x.natAbs).length ≤ 5) :
    rRest (ng x) (dg x.natAbs) (dg e) m = ((ng (rqI x e m), dg (rqI x e m).natAbs), (ng (x + -rqI x e m * (e : Int)), dg (x + -rqI x e m * (e : Int)).natAbs, dg e), true) := by
  have hi := ROk_iff.1 hR
  have hq : (dg (rqI x e m).natAbs).length ≤ 6 := by unfold rqI; rw [sgI_abs]; exact rq_len hx
  have hl := rest_len (x := x) hi.1 m
  have hN := ROk_rest (Q := rqI x e m) hR (by omega)
  have h1 := rRound_ok ⟨hR, hm⟩
  have h2 := rInt_ok (x := rqI x e m) (by omega)
  have hW := ROk_whole (x := rqI x e m) (by omega)
  have h3 : rSub (ng x) (dg x.natAbs) (dg e) (ng (rqI x e m)) (dg (rqI x e m).natAbs) [1] = (ng (x + -rqI x e m * (e : Int)), dg (x + -rqI x e m * (e : Int)).natAbs, dg e, true) := by
    rw [← dg_1, rSub_ok hR hW, rAdd_ok hR (ROk_neg hW)]
    simp only [Int.natCast_one, Int.mul_one, Nat.mul_one]
    exact rR_same hN
  have e1 : (rRound (ng x) (dg x.natAbs) (dg e) m).1 = ng (rqI x e m) := by rw [h1]; rfl
  have e2 : (rRound (ng x) (dg x.natAbs) (dg e) m).2.1 = dg (rqI x e m).natAbs := by rw [h1]; rfl
  have e3 : (rRound (ng x) (dg x.natAbs) (dg e) m).2.2 = true := by rw [h1]; rfl
  rw [rRest_ok e3 (by rw [e1, e2, h2]) (by rw [e1, e2, h2, h3]), e1, e2, h2, h3]
/-- nothing is done to a whole number, and to no other -/
theorem whole_rest {x : Int} {e : Nat} (hR : ROk (ng x) (dg x.natAbs) (dg e)) (m : Int) : (ROk (ng x) (dg x.natAbs) (dg e) ∧ dg e = [1]) ↔ (x + -rqI x e m * (e : Int)).sign = 0 := by
  have hi := ROk_iff.1 hR
  constructor
  · rintro ⟨_, h⟩
    have h1 := dg_is_one.1 h
    subst h1
    rw [rqI_whole]; simp; omega
  · intro h
    refine ⟨hR, dg_is_one.2 ?_⟩
    have h0 := Int.sign_eq_zero_iff_zero.1 h
    have hx : x = rqI x e m * (e : Int) := by rw [Int.neg_mul] at h0; omega
    have hd : e ∣ x.natAbs := by
      have : (e : Int) ∣ x := by rw [hx]; exact Int.dvd_mul_left _ _
      exact Int.natCast_dvd_natCast.1 (Int.dvd_natAbs.2 this)
    have := Nat.dvd_gcd hd (Nat.dvd_refl e)
    rw [hi.2.2.2] at this
    exact Nat.dvd_one.1 this
theorem rAdd_right {x1 x2 : Int} {e1 e2 : Nat} (h1 : ROk (ng x1) (dg x1.natAbs) (dg e1)) (h2 : ROk (ng x2) (dg x2.natAbs) (dg e2)) (l1 : (dg x1.natAbs).length ≤ 8) (l2 : (dg x2.natAbs).length ≤ 8) (k1 : (dg e1).length ≤ 8) (k2 : (dg e2).length ≤ 8) :
    ∃ (X : Int) (E : Nat), rAdd (ng x1) (dg x1.natAbs) (dg e1) (ng x2) (dg x2.natAbs) (dg e2) = (ng X, dg X.natAbs, dg E, true) ∧ ROk (ng X) (dg X.natAbs) (dg E) ∧ (dg X.natAbs).length ≤ 17 ∧ (dg E).length ≤ 17 ∧ X * ((e1 * e2 : Nat) : Int) = (x1 * (e2 : Int) + x2 * (e1 : Int)) * (E : Int) := by
  rw [rAdd_ok h1 h2]
  have a1 : (x1 * (e2 : Int)).natAbs = x1.natAbs * e2 := by rw [Int.natAbs_mul, Int.natAbs_natCast]
  have a2 : (x2 * (e1 : Int)).natAbs = x2.natAbs * e1 := by rw [Int.natAbs_mul, Int.natAbs_natCast]
  have m1 := len_mul x1.natAbs e2
  have m2 := len_mul x2.natAbs e1
  have m3 := len_mul e1 e2
  have m4 := len_addI (x1 * (e2 : Int)) (x2 * (e1 : Int))
  rw [a1, a2] at m4
  exact rR_right (k := 17) (by decide) (by omega) (Nat.mul_pos (ROk_iff.1 h1).1 (ROk_iff.1 h2).1) (by omega)
theorem back_cmp {x Q X : Int} {e E : Nat} (h : X * ((1 * e : Nat) : Int) = (Q * (e : Int) + (x + -Q * (e : Int)) * ((1 : Nat) : Int)) * (E : Int)) : cmpI (X * (e : Int)) (x * (E : Int)) = 0 := by
  apply cmpI_eq0
  rw [Nat.one_mul] at h
  rw [h]
  have : Q * (e : Int) + (x + -Q * (e : Int)) * ((1 : Nat) : Int) = x := by
    rw [Int.natCast_one, Int.mul_one, Int.neg_mul]; omega
  rw [this]
theorem ROk_abs {x : Int} {e : Nat} (hR : ROk (ng x) (dg x.natAbs) (dg e)) : ROk (ng (x.natAbs : Int)) (dg (x.natAbs : Int).natAbs) (dg e) := by
  rw [ROk_iff] at hR ⊢; simpa using hR
theorem rMake_half : rMake (ng 1) (dg (1 : Int).natAbs) (ng 2) (dg (2 : Int).natAbs) = (ng 1, dg (1 : Int).natAbs, dg 2, true) := by
  have hl : ∀ n, n < 3 → (dg n).length ≤ 1 := fun n h => dg_len_le (by simp only [Bs]; omega)
  rw [rMake_ok (IOk_ng (Nat.le_trans (hl 1 (by decide)) (by decide))) (IOk_ng (Nat.le_trans (hl 2 (by decide)) (by decide)))]
  exact rR_same (x := 1) (d := 2) (by rw [ROk_iff]; exact ⟨by decide, Nat.le_trans (hl 1 (by decide)) (by decide), Nat.le_trans (hl 2 (by decide)) (by decide), by decide⟩)
theorem ROk_half : ROk (ng 1) (dg (1 : Int).natAbs) (dg 2) := by
  have hl : ∀ n, n < 3 → (dg n).length ≤ 1 := fun n h => dg_len_le (by simp only [Bs]; omega)
  rw [ROk_iff]; exact ⟨by decide, Nat.le_trans (hl 1 (by decide)) (by decide), Nat.le_trans (hl 2 (by decide)) (by decide), by decide⟩
theorem cmpI_lt0 {x y : Int} : cmpI x y < 0 ↔ x < y := by
  unfold cmpI; split <;> (try split) <;> omega
theorem cmpI_small {x : Int} {e : Nat} : decide (cmpI ((x.natAbs : Int) * ((1 : Nat) : Int)) (1 * (e : Int)) < 0) = decide (x.natAbs < e) := by
  rw [decide_eq_decide, cmpI_lt0]; omega
theorem bne_dec {p q : Prop} [Decidable p] [Decidable q] (h : p ↔ q) : (decide p != decide q) = false := by simp [h]
theorem half_cmp {a e : Nat} (h : 2 * a ≤ e) : ¬ 0 < cmpI ((a : Int) * ((2 : Nat) : Int)) (1 * (e : Int)) := cmpI_le (by omega)
end Go.Proofs.YtoeclobdbblohaaDoor
