/- Plain lemmas on numbers and lists; no program in sight. Conditions: none. -/
import Derived.Test.YtoeclobdbblohaaGreatDoorNatX
import Derived.Test.YtoeclobdbblohaaGreatDoorNatI
import Derived.Test.YtoeclobdbblohaaGreatDoorNatJ
set_option linter.unusedVariables false
set_option linter.unusedSimpArgs false
namespace Go.Proofs.YtoeclobdbblohaaGreatDoor
open Go Go.RowKit
/-! ### decimals: what is drawn, is written and read, is put low and up again, agrees with its fraction -/
theorem abs_lt {x : Int} {k : Nat} (h : (dg x.natAbs).length ≤ k) : x.natAbs < Bs ^ k := lt_of_dg_len h
theorem len_of {x : Int} {k : Nat} (h : x.natAbs < Bs ^ k) : (dg x.natAbs).length ≤ k := dg_len_le h
theorem tenI_zero {k : Int} (h : k ≤ 0) : tenI k = 1 := by unfold tenI; rw [show k.toNat = 0 by omega]; rfl
theorem tenI_add {a b : Int} (ha : 0 ≤ a) (hb : 0 ≤ b) : tenI (a + b) = tenI a * tenI b := by
  unfold tenI; rw [show (a + b).toNat = a.toNat + b.toNat by omega, Nat.pow_add, Int.natCast_mul]
theorem least_nat {f : Nat → Bool} : ∀ n : Nat, f n = true → ∃ k, k ≤ n ∧ f k = true ∧ ∀ i, i < k → f i = false := by
  intro n
  induction n using Nat.strongRecOn with
  | _ n ih =>
    intro h
    by_cases hx : ∃ i, i < n ∧ f i = true
    · obtain ⟨i, h1, h2⟩ := hx
      obtain ⟨k, h3, h4, h5⟩ := ih i h1 h2
      exact ⟨k, by omega, h4, h5⟩
    · exact ⟨n, Nat.le_refl _, h, fun i hi => by
        cases e : f i with
        | false => rfl
        | true => exact absurd ⟨i, hi, e⟩ hx⟩
theorem decR_true {x p : Int} (h : (decR x p).2.2.2 = true) : DOk (ng x) (dg x.natAbs) p ∧ decR x p = (ng x, dg x.natAbs, p, true) := by
  by_cases hd : DOk (ng x) (dg x.natAbs) p
  · exact ⟨hd, decR_ok hd⟩
  · rw [decR_no hd] at h; cases h
theorem low_form {x p : Int} (h : DOk (ng x) (dg x.natAbs) p) : ∃ y q : Int, dLow (ng x) (dg x.natAbs) p = (ng y, dg y.natAbs, q, true) ∧ DOk (ng y) (dg y.natAbs) q ∧ (0 ≤ q ∧ q ≤ p) ∧ y * tenI (p - q) = x := by
  have hp := (DOk_iff.1 h).2
  have hs := dAt_self h
  obtain ⟨k, hk, h1, h2⟩ := least_nat (f := fun i : Nat => (dAt (ng x) (dg x.natAbs) p (i : Nat)).2.2.2) p.toNat (by show (dAt _ _ _ ((p.toNat : Nat) : Int)).2.2.2 = true; rw [show ((p.toNat : Nat) : Int) = p by omega]; exact hs)
  have e := dLow_some (n := ng x) (z := dg x.natAbs) (p := p) (k := k) (by omega) h2 h1
  have h1' : (dAt (ng x) (dg x.natAbs) p (k : Nat)).2.2.2 = true := h1
  rw [e]
  by_cases hpq : p ≤ (k : Int)
  · have ek : (k : Int) = p := by omega
    rw [ek] at h1' ⊢
    rw [dAt_up h hp (Int.le_refl _), tenI_zero (by omega), Int.mul_one] at h1' ⊢
    have := decR_true h1'
    exact ⟨x, p, this.2, this.1, by omega, by rw [tenI_zero (by omega), Int.mul_one]⟩
  · by_cases hr : x.natAbs % 10 ^ (p - (k : Int)).toNat = 0
    · rw [dAt_dn h (by omega) hpq hr] at h1' ⊢
      have := decR_true h1'
      refine ⟨_, _, this.2, this.1, by omega, ?_⟩
      have hd := Nat.div_add_mod x.natAbs (10 ^ (p - (k : Int)).toNat)
      rw [hr, Nat.add_zero] at hd
      have hx := sgI_ng x
      unfold tenI
      have key : ∀ b : Bool, sgI b (x.natAbs / 10 ^ (p - (k : Int)).toNat) * ((10 ^ (p - (k : Int)).toNat : Nat) : Int) = sgI b x.natAbs := by
        intro b
        cases b with
        | false => show ((x.natAbs / 10 ^ (p - (k : Int)).toNat : Nat) : Int) * _ = (x.natAbs : Int); rw [← Int.natCast_mul, Nat.mul_comm, hd]
        | true => show -((x.natAbs / 10 ^ (p - (k : Int)).toNat : Nat) : Int) * _ = -(x.natAbs : Int); rw [Int.neg_mul, ← Int.natCast_mul, Nat.mul_comm, hd]
      rw [key, hx]
    · rw [dAt_rest h (by omega) hpq hr] at h1'; cases h1'
abbrev ratN (x p : Int) : Int := lowN x (10 ^ p.toNat)
abbrev ratE (x p : Int) : Nat := lowD x (10 ^ p.toNat)
theorem tup_inj3 {x y : Int} {d e : Nat} {b c : Bool} (h : (ng x, dg x.natAbs, dg d, b) = (ng y, dg y.natAbs, dg e, c)) : x = y ∧ d = e := by
  simp only [Prod.mk.injEq] at h
  obtain ⟨h1, h2, h3, _⟩ := h
  refine ⟨?_, dg_inj h3⟩
  rw [← sgI_ng x, ← sgI_ng y, h1, dg_inj h2]
theorem dRat_form {x p : Int} (h : DOk (ng x) (dg x.natAbs) p) (hl : p ≤ 18) : dRat (ng x) (dg x.natAbs) p = (ng (ratN x p), dg (ratN x p).natAbs, dg (ratE x p), true) ∧ ROk (ng (ratN x p)) (dg (ratN x p).natAbs) (dg (ratE x p)) ∧ ((dg (ratN x p).natAbs).length ≤ 6 ∧ (dg (ratE x p)).length ≤ 6) ∧ ratN x p * tenI p = x * (ratE x p : Int) := by
  have hD := DOk_iff.1 h
  have lt := ten_len' (k := p) (by omega)
  rw [dRat_ok h, sgI_ng]
  obtain ⟨X, E, r1, r2, r3, r4, r5⟩ := rR_right (x := x) (d := 10 ^ p.toNat) (k := 6) (by decide) (by omega) (Nat.pow_pos (by decide)) (by omega)
  have l1 : (dg (ratN x p).natAbs).length ≤ 18 := by show (dg (lowN x _).natAbs).length ≤ 18; rw [lowN_abs]; exact Nat.le_trans (len_div _ _) (by omega)
  have l2 : (dg (ratE x p)).length ≤ 18 := Nat.le_trans (len_div _ _) (by omega)
  have e : rR x (10 ^ p.toNat) = (ng (ratN x p), dg (ratN x p).natAbs, dg (ratE x p), true) := by
    unfold rR; rw [if_pos ⟨Nat.pow_pos (by decide), l1, l2⟩]
  obtain ⟨e1, e2⟩ := tup_inj3 (e.symm.trans r1)
  subst e1; subst e2
  exact ⟨e, r2, ⟨r3, r4⟩, r5⟩
theorem rMul_form {x1 x2 : Int} {e1 e2 : Nat} (h1 : ROk (ng x1) (dg x1.natAbs) (dg e1)) (h2 : ROk (ng x2) (dg x2.natAbs) (dg e2)) (a : (dg x1.natAbs).length ≤ 8) (b : (dg x2.natAbs).length ≤ 8) (c : (dg e1).length ≤ 8) (d : (dg e2).length ≤ 8) :
    ∃ (X : Int) (E : Nat), rMul (ng x1) (dg x1.natAbs) (dg e1) (ng x2) (dg x2.natAbs) (dg e2) = (ng X, dg X.natAbs, dg E, true) ∧ ROk (ng X) (dg X.natAbs) (dg E) ∧ X * ((e1 * e2 : Nat) : Int) = x1 * x2 * (E : Int) := by
  have l1 := len_mulI x1 x2
  have l2 := len_mul e1 e2
  have hm : rMul (ng x1) (dg x1.natAbs) (dg e1) (ng x2) (dg x2.natAbs) (dg e2) = rR (x1 * x2) (e1 * e2) := by
    rw [rMul_ok h1 h2, ← sgI_nz, (mul_sg x1 x2).1, ← Int.natAbs_mul, sgI_ng]
  obtain ⟨X, E, r1, r2, _, _, r5⟩ := rR_right (x := x1 * x2) (d := e1 * e2) (k := 16) (by decide) (by omega) (Nat.mul_pos (ROk_iff.1 h1).1 (ROk_iff.1 h2).1) (by omega)
  exact ⟨X, E, hm.trans r1, r2, r5⟩
theorem dCmp_self {x p : Int} (h : DOk (ng x) (dg x.natAbs) p) : dCmp (ng x) (dg x.natAbs) p (ng x) (dg x.natAbs) p = 0 := by
  rw [dCmp_ok h h]; exact cmpI_eq0 rfl
theorem dCmp_low {x p y q : Int} (h : DOk (ng x) (dg x.natAbs) p) (h2 : DOk (ng y) (dg y.natAbs) q) (hq : q ≤ p) (hv : y * tenI (p - q) = x) : dCmp (ng y) (dg y.natAbs) q (ng x) (dg x.natAbs) p = 0 := by
  rw [dCmp_ok h2 h]
  apply cmpI_eq0
  rw [show max q p - q = p - q by omega, show max q p - p = 0 by omega, hv, tenI_zero (Int.le_refl _), Int.mul_one]
abbrev sumD (x p y q : Int) : Int := x * tenI (max p q - p) + y * tenI (max p q - q)
theorem ten_lt {k : Int} (h : k ≤ 9) : (tenI k).natAbs ≤ 1000000000 := by
  rw [tenI_abs]
  calc 10 ^ k.toNat ≤ 10 ^ 9 := Nat.pow_le_pow_right (by decide) (by omega)
    _ = 1000000000 := by decide
theorem sum_dok {x p y q : Int} (hx : (dg x.natAbs).length ≤ 2) (hy : (dg y.natAbs).length ≤ 2) (hp : 0 ≤ p ∧ p ≤ 9) (hq : 0 ≤ q ∧ q ≤ 9) : DOk (ng (sumD x p y q)) (dg (sumD x p y q).natAbs) (max p q) ∧ (dg (sumD x p y q).natAbs).length ≤ 4 := by
  have l1 := len_mulI x (tenI (max p q - p))
  have l2 := len_mulI y (tenI (max p q - q))
  have t1 : (dg (tenI (max p q - p)).natAbs).length ≤ 2 := dg_len_le (Nat.lt_of_le_of_lt (ten_lt (by omega)) (by decide))
  have t2 : (dg (tenI (max p q - q)).natAbs).length ≤ 2 := dg_len_le (Nat.lt_of_le_of_lt (ten_lt (by omega)) (by decide))
  have a1 := abs_lt hx
  have a2 := abs_lt hy
  have b1 := ten_lt (k := max p q - p) (by omega)
  have b2 := ten_lt (k := max p q - q) (by omega)
  have c1 : (x * tenI (max p q - p)).natAbs ≤ Bs ^ 2 * 1000000000 := by rw [Int.natAbs_mul]; exact Nat.mul_le_mul (by omega) b1
  have c2 : (y * tenI (max p q - q)).natAbs ≤ Bs ^ 2 * 1000000000 := by rw [Int.natAbs_mul]; exact Nat.mul_le_mul (by omega) b2
  have c3 : (sumD x p y q).natAbs < Bs ^ 4 := by
    have : (sumD x p y q).natAbs ≤ Bs ^ 2 * 1000000000 + Bs ^ 2 * 1000000000 := Nat.le_trans (Int.natAbs_add_le _ _) (Nat.add_le_add c1 c2)
    exact Nat.lt_of_le_of_lt this (by decide)
  have c4 := len_of c3
  exact ⟨DOk_iff.2 ⟨by omega, by omega⟩, c4⟩
theorem mul_dok {x p y q : Int} (hx : (dg x.natAbs).length ≤ 2) (hy : (dg y.natAbs).length ≤ 2) (hp : 0 ≤ p ∧ p ≤ 9) (hq : 0 ≤ q ∧ q ≤ 9) : DOk (ng (x * y)) (dg (x * y).natAbs) (p + q) := by
  have l1 := len_mulI x y
  exact DOk_iff.2 ⟨by omega, by omega⟩
abbrev subD (x p y q : Int) : Int := x * tenI (max p q - p) + -(y * tenI (max p q - q))
theorem sub_back {x p y q : Int} (hp : 0 ≤ p ∧ p ≤ 9) (hq : 0 ≤ q ∧ q ≤ 9) : subD (sumD x p y q) (max p q) y q = x * tenI (max p q - p) := by
  show (x * tenI (max p q - p) + y * tenI (max p q - q)) * tenI (max (max p q) q - max p q) + -(y * tenI (max (max p q) q - q)) = _
  rw [show max (max p q) q = max p q by omega, tenI_zero (show max p q - max p q ≤ 0 by omega), Int.mul_one]
  omega
theorem sub_dok {x p y q : Int} (hx : (dg x.natAbs).length ≤ 2) (hp : 0 ≤ p ∧ p ≤ 9) (hq : 0 ≤ q ∧ q ≤ 9) : DOk (ng (subD (sumD x p y q) (max p q) y q)) (dg (subD (sumD x p y q) (max p q) y q).natAbs) (max (max p q) q) := by
  rw [sub_back hp hq]
  have l1 := len_mulI x (tenI (max p q - p))
  have t1 := len_ten (k := max p q - p) (by omega)
  exact DOk_iff.2 ⟨by omega, by omega⟩
theorem sub_cmp {x p y q : Int} (hx : (dg x.natAbs).length ≤ 2) (hp : 0 ≤ p ∧ p ≤ 9) (hq : 0 ≤ q ∧ q ≤ 9) : dCmp (ng (subD (sumD x p y q) (max p q) y q)) (dg (subD (sumD x p y q) (max p q) y q).natAbs) (max (max p q) q) (ng x) (dg x.natAbs) p = 0 := by
  have h1 := sub_dok (y := y) hx hp hq
  rw [dCmp_ok h1 (DOk_iff.2 ⟨by omega, by omega⟩)]
  apply cmpI_eq0
  rw [sub_back hp hq, show max (max p q) q = max p q by omega, show max (max p q) p = max p q by omega, tenI_zero (show max p q - max p q ≤ 0 by omega), Int.mul_one]
/-- the fraction of a sum is the sum of the fractions -/
theorem sum_rat {x p y q X1 X2 S X : Int} {E1 E2 F E : Nat} (hp : 0 ≤ p) (hq : 0 ≤ q) (h1 : X1 * tenI p = x * (E1 : Int)) (h2 : X2 * tenI q = y * (E2 : Int)) (hS : S * tenI (max p q) = sumD x p y q * (F : Int)) (he : 0 < E1 ∧ 0 < E2)
    (hX : X * ((E1 * E2 : Nat) : Int) = (X1 * (E2 : Int) + X2 * (E1 : Int)) * (E : Int)) : cmpI (S * (E : Int)) (X * (F : Int)) = 0 := by
  apply cmpI_eq0
  have t1 : tenI (max p q) = tenI (max p q - p) * tenI p := by rw [← tenI_add (by omega) hp]; congr 1; omega
  have t2 : tenI (max p q) = tenI (max p q - q) * tenI q := by rw [← tenI_add (by omega) hq]; congr 1; omega
  have hm := tenI_pos (max p q)
  have hE : (0 : Int) < (E1 : Int) * (E2 : Int) := Int.mul_pos (by omega) (by omega)
  have hk : tenI (max p q) * ((E1 : Int) * (E2 : Int)) ≠ 0 := Int.ne_of_gt (Int.mul_pos hm hE)
  refine Int.eq_of_mul_eq_mul_right hk ?_
  rw [Int.natCast_mul] at hX
  generalize tenI (max p q) = M at *
  have hS' : S * M = (x * tenI (max p q - p) + y * tenI (max p q - q)) * (F : Int) := hS
  generalize tenI (max p q - p) = A at *
  generalize tenI (max p q - q) = B at *
  generalize tenI p = P at *
  generalize tenI q = Q at *
  generalize (E1 : Int) = e1 at *
  generalize (E2 : Int) = e2 at *
  generalize (F : Int) = f at *
  generalize (E : Int) = e at *
  clear hm hE hk hS he hp hq
  have a1 : S * e * (M * (e1 * e2)) = (S * M) * (e * e1 * e2) := by grind
  have a2 : X * f * (M * (e1 * e2)) = (X * (e1 * e2)) * (f * M) := by grind
  rw [a1, a2, hS', hX]
  have b1 : X1 * M = A * (x * e1) := by rw [t1, ← h1]; grind
  have b2 : X2 * M = B * (y * e2) := by rw [t2, ← h2]; grind
  have b3 : (X1 * e2 + X2 * e1) * e * (f * M) = ((X1 * M) * e2 + (X2 * M) * e1) * (e * f) := by grind
  rw [b3, b1, b2]; grind
/-- the fraction of a product is the product of the fractions -/
theorem mul_rat {x p y q X1 X2 S X : Int} {E1 E2 F E : Nat} (hp : 0 ≤ p) (hq : 0 ≤ q) (h1 : X1 * tenI p = x * (E1 : Int)) (h2 : X2 * tenI q = y * (E2 : Int)) (hS : S * tenI (p + q) = x * y * (F : Int)) (he : 0 < E1 ∧ 0 < E2)
    (hX : X * ((E1 * E2 : Nat) : Int) = X1 * X2 * (E : Int)) : cmpI (S * (E : Int)) (X * (F : Int)) = 0 := by
  apply cmpI_eq0
  rw [tenI_add hp hq] at hS
  have hm := tenI_pos p
  have hn := tenI_pos q
  have hE : (0 : Int) < (E1 : Int) * (E2 : Int) := Int.mul_pos (by omega) (by omega)
  have hk : (tenI p * tenI q) * ((E1 : Int) * (E2 : Int)) ≠ 0 := Int.ne_of_gt (Int.mul_pos (Int.mul_pos hm hn) hE)
  refine Int.eq_of_mul_eq_mul_right hk ?_
  rw [Int.natCast_mul] at hX
  generalize tenI p = P at *
  generalize tenI q = Q at *
  generalize (E1 : Int) = e1 at *
  generalize (E2 : Int) = e2 at *
  generalize (F : Int) = f at *
  generalize (E : Int) = e at *
  clear hm hE hk hn he hp hq
  have a1 : S * e * ((P * Q) * (e1 * e2)) = (S * (P * Q)) * (e * e1 * e2) := by grind
  have a2 : X * f * ((P * Q) * (e1 * e2)) = (X * (e1 * e2)) * (f * P * Q) := by grind
  rw [a1, a2, hS, hX]
  have b3 : X1 * X2 * e * (f * P * Q) = (X1 * P) * (X2 * Q) * (e * f) := by grind
  rw [b3, h1, h2]; grind
theorem cmpI_scale {a b k : Int} (hk : 0 < k) : cmpI (a * k) (b * k) = cmpI a b := by
  unfold cmpI
  by_cases h : a < b
  · rw [if_pos h, if_pos (Int.mul_lt_mul_of_pos_right h hk)]
  · rw [if_neg h, if_neg (fun h' => h (Int.lt_of_mul_lt_mul_right h' (Int.le_of_lt hk)))]
    by_cases h2 : a = b
    · rw [if_pos h2, if_pos (by rw [h2])]
    · rw [if_neg h2, if_neg (fun h' => h2 (Int.eq_of_mul_eq_mul_right (by omega) h'))]
/-- decimals are in the order of their fractions -/
theorem cmp_rat {x p y q X1 X2 : Int} {E1 E2 : Nat} (hx : DOk (ng x) (dg x.natAbs) p) (hy : DOk (ng y) (dg y.natAbs) q) (h1 : X1 * tenI p = x * (E1 : Int)) (h2 : X2 * tenI q = y * (E2 : Int)) (he : 0 < E1 ∧ 0 < E2) :
    dCmp (ng x) (dg x.natAbs) p (ng y) (dg y.natAbs) q = cmpI (X1 * (E2 : Int)) (X2 * (E1 : Int)) := by
  have hp := (DOk_iff.1 hx).2.1
  have hq := (DOk_iff.1 hy).2.1
  rw [dCmp_ok hx hy, ← cmpI_scale (a := x * tenI (max p q - p)) (k := (E1 : Int) * (E2 : Int)) (Int.mul_pos (by omega) (by omega)), ← cmpI_scale (a := X1 * (E2 : Int)) (k := tenI (max p q)) (tenI_pos _)]
  have t1 : tenI (max p q) = tenI (max p q - p) * tenI p := by rw [← tenI_add (by omega) hp]; congr 1; omega
  have t2 : tenI (max p q) = tenI (max p q - q) * tenI q := by rw [← tenI_add (by omega) hq]; congr 1; omega
  congr 1
  · rw [t1, show X1 * (E2 : Int) * (tenI (max p q - p) * tenI p) = (X1 * tenI p) * (tenI (max p q - p) * (E2 : Int)) by grind, h1]; grind
  · rw [t2, show X2 * (E1 : Int) * (tenI (max p q - q) * tenI q) = (X2 * tenI q) * (tenI (max p q - q) * (E1 : Int)) by grind, h2]; grind
theorem decT_sz {n : Bool} {z : List Int} {p : Int} (h : DOk n z p) : (decT n z p).size ≤ 100 := by
  have ht := dec_tn h
  rw [← sz_list, decT_list h]
  generalize padT (natT z) (p + 1) = T at *
  have h56 : T.data.toList.length ≤ 56 := ht.2
  have key : (if 0 < p then T.data.toList.take (T.size - p.toNat) ++ 46 :: T.data.toList.drop (T.size - p.toNat) else T.data.toList).length ≤ 57 := by
    split
    · rw [List.length_append, List.length_cons, List.length_take, List.length_drop]; omega
    · omega
  rw [List.length_append]
  have k2 : (if n = true then [45] else [] : List UInt8).length ≤ 1 := by cases n <;> decide
  omega
end Go.Proofs.YtoeclobdbblohaaGreatDoor

namespace Go.Proofs.YtoeclobdbblohaaGreatDoor
open Go Go.RowKit
theorem RsOk_add {pv : ByteArray} {ts : List Rt} {r : Rt} (hT : RsOk pv ts) (hP : RPr r) (hl : ts.length ≤ 11) : RsOk pv (putR ts r) := by
  rcases atI_range (ts := ts) (a := r.1) (b := r.2.1) with h1 | h1
  · have e : putR ts r = ts ++ [r] := by unfold putR; rw [if_neg (by omega)]
    refine ⟨hT.1, by have := putR_len (ts := ts) (r := r); omega, putR_all hT.2.2.1 hP, fun j hj i hi => ?_⟩
    have h2 : ∀ i, i < ts.length → ¬ ((ts.getD i rt0).1 = r.1 ∧ (ts.getD i rt0).2.1 = r.2.1) := fun i hi hh => by
      obtain ⟨k, k1, k2, k3⟩ := first_of (p := fun i => (ts.getD i rt0).1 = r.1 ∧ (ts.getD i rt0).2.1 = r.2.1) ts.length ⟨i, hi, hh⟩
      have := atI_some k1 k3 k2
      omega
    rw [e] at hj ⊢
    rw [List.length_append, List.length_singleton] at hj
    rcases Nat.lt_or_ge j ts.length with h3 | h3
    · rw [getD_append_left' h3, getD_append_left' (by omega)]; exact hT.2.2.2 j h3 i hi
    · have ej : j = ts.length := by omega
      subst ej
      rw [getD_append_at rfl, getD_append_left' (by omega)]
      exact h2 i hi
  · exact RsOk_put hT hP h1.1
theorem put_at {ts : List Rt} (r : Rt) : ∃ k, k < (putR ts r).length ∧ (putR ts r).getD k rt0 = r := by
  unfold putR
  rcases atI_range (ts := ts) (a := r.1) (b := r.2.1) with h1 | h1
  · rw [if_neg (by omega)]; exact ⟨ts.length, by simp, getD_append_at rfl⟩
  · rw [if_pos h1.1]; exact ⟨(atI ts r.1 r.2.1).toNat, by rw [List.length_set]; omega, by simp [show (atI ts r.1 r.2.1).toNat < ts.length by omega]⟩
theorem put_keep {ts : List Rt} {r : Rt} {k : Nat} (hk : k < ts.length) (hn : ¬ ((ts.getD k rt0).1 = r.1 ∧ (ts.getD k rt0).2.1 = r.2.1)) : k < (putR ts r).length ∧ (putR ts r).getD k rt0 = ts.getD k rt0 := by
  unfold putR
  rcases atI_range (ts := ts) (a := r.1) (b := r.2.1) with h1 | h1
  · rw [if_neg (by omega)]; exact ⟨by rw [List.length_append]; omega, getD_append_left' hk⟩
  · rw [if_pos h1.1]
    have hne : (atI ts r.1 r.2.1).toNat ≠ k := fun e => hn (by rw [← e]; exact ⟨h1.2.2.1, h1.2.2.2⟩)
    exact ⟨by rw [List.length_set]; exact hk, by simp [List.getElem?_set_ne hne]⟩
theorem put_hit {pv : ByteArray} {ts : List Rt} {r : Rt} (h : RsOk pv (putR ts r)) : how pv (putR ts r) r.1 r.2.1 = 2 ∧ rOf pv (putR ts r) r.1 r.2.1 = dRat r.2.2.1 r.2.2.2.1 r.2.2.2.2 := by
  obtain ⟨k, hk, e⟩ := put_at (ts := ts) r
  have := rate_hit h hk
  rw [e] at this; exact this
theorem put_other {pv : ByteArray} {ts : List Rt} {r : Rt} (h : RsOk pv (putR ts r)) {k : Nat} (hk : k < ts.length) (hn : ¬ ((ts.getD k rt0).1 = r.1 ∧ (ts.getD k rt0).2.1 = r.2.1)) :
    how pv (putR ts r) (ts.getD k rt0).1 (ts.getD k rt0).2.1 = 2 ∧ rOf pv (putR ts r) (ts.getD k rt0).1 (ts.getD k rt0).2.1 = dRat (ts.getD k rt0).2.2.1 (ts.getD k rt0).2.2.2.1 (ts.getD k rt0).2.2.2.2 := by
  have := put_keep hk hn
  have h2 := rate_hit h this.1
  rw [this.2] at h2; exact h2
theorem rate_new {a b : ByteArray} {x : Int} (ha : Known a) (hb : Known b) (hn : a ≠ b) (hx : 1 ≤ x ∧ x ≤ 1000) : RateP a b (ng x) (dg x.natAbs) 2 := by
  have hl : (dg x.natAbs).length ≤ 1 := dg_len_le (by simp only [Bs]; omega)
  exact ⟨ha, hb, hn, DOk_iff.2 ⟨by omega, by decide, by decide⟩, by rw [vI_ng]; omega, by omega⟩
theorem codes_known : ∀ s ∈ tabS.map Cr.code, Known s := by decide +kernel
theorem mok_len {c : ByteArray} {x : Int} (hc : Known c) (h : (dg x.natAbs).length ≤ 4) : MOk c (ng x) (dg x.natAbs) := MOk_iff.2 ⟨hc, h⟩
theorem mok_dok {c : ByteArray} {x : Int} (h : MOk c (ng x) (dg x.natAbs)) : DOk (ng x) (dg x.natAbs) (curOf c).places := by
  have := cur_places c
  exact DOk_iff.2 ⟨Nat.le_trans h.2.2 (by decide), by omega, by omega⟩
theorem eur_usd {c : ByteArray} (h : c = ⟨#[69, 85, 82]⟩) : c ≠ ⟨#[85, 83, 68]⟩ := by subst h; decide
theorem monT_sz {c : ByteArray} {n : Bool} {z : List Int} (h : MOk c n z) (hd : DOk n z (curOf c).places) : (monT c n z).size ≤ 1000 := by
  have h1 := known_size h.1
  have h2 := decT_sz hd
  rw [monT_ok h, ByteArray.size_append, ByteArray.size_append]
  have : (⟨#[32]⟩ : ByteArray).size = 1 := rfl
  omega
theorem ratT_sz {f t : ByteArray} {n : Bool} {z : List Int} {p : Int} (h : RateP f t n z p) : (ratT f t n z p).size ≤ 1000 := by
  have h1 := known_size h.1
  have h2 := known_size h.2.1
  have h3 := decT_sz h.2.2.2.1
  rw [ratT_ok h, ByteArray.size_append, ByteArray.size_append, ByteArray.size_append, ByteArray.size_append]
  have : (⟨#[32]⟩ : ByteArray).size = 1 := rfl
  omega
theorem len3 {x y : Int} (hx : (dg x.natAbs).length ≤ 3) (hy : (dg y.natAbs).length ≤ 3) : (dg (x + y).natAbs).length ≤ 4 ∧ (dg (x * 2).natAbs).length ≤ 4 ∧ (dg (-x).natAbs).length ≤ 3 := by
  have h1 := len_addI x y
  have h2 := len_mulI x 2
  have h3 : (dg (2 : Int).natAbs).length ≤ 1 := dg_len_le (by decide)
  refine ⟨by omega, by omega, by rw [Int.natAbs_neg]; exact hx⟩
end Go.Proofs.YtoeclobdbblohaaGreatDoor
