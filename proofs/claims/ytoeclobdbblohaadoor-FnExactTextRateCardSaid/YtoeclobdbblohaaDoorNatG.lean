/- Plain lemmas on numbers and lists; no program in sight. Conditions: none. -/
import Derived.Test.YtoeclobdbblohaaDoorNatF
set_option linter.unusedVariables false
set_option linter.unusedSimpArgs false
namespace Go.Proofs.YtoeclobdbblohaaDoor
/-! ### long division -/
theorem getD_drop {os zs : List Int} {k : Nat} (h : os.drop k = zs.drop k) : os.getD k 0 = zs.getD k 0 := by
  have h1 : (os.drop k)[0]? = (zs.drop k)[0]? := by rw [h]
  simp only [List.getElem?_drop, Nat.add_zero] at h1
  simp only [List.getD_eq_getElem?_getD, h1]
theorem drop_set_succ {os zs : List Int} {k : Nat} {x : Int} (h : os.drop k = zs.drop k) : (os.set k x).drop (k + 1) = zs.drop (k + 1) := by
  rw [List.drop_set_of_lt (by omega)]
  have h1 : (os.drop k).drop 1 = (zs.drop k).drop 1 := by rw [h]
  simpa only [List.drop_drop] using h1
theorem Lm_take_set {os : List Int} {k : Nat} {x : Int} (h : Lm (os.take k)) (hk : k < os.length) (h0 : 0 ≤ x) (h1 : x < 1000000000) : Lm ((os.set k x).take (k + 1)) := by
  rw [List.take_succ_eq_append_getElem (by simpa using hk), List.take_set_of_le (Nat.le_refl k), List.getElem_set_self]
  exact h.append (Lm.single h0 h1)
/-- one limb of a multiple taken off -/
theorem subt_step {Z O Y P c c' u nl x q : Nat} (hv : Z + P * c = O + q * Y) (hs : u + Bs * c' = nl + x * q + c) : (Z + P * u) + P * Bs * c' = (O + P * nl) + q * (Y + P * x) := by
  have h1 : P * (u + Bs * c') = P * (nl + x * q + c) := by rw [hs]
  grind
theorem toNat_mul' {x q : Int} (hx : 0 ≤ x) (hq : 0 ≤ q) : (x * q).toNat = x.toNat * q.toNat := by
  have h : ((x.toNat * q.toNat : Nat) : Int) = x * q := by rw [Int.natCast_mul, Int.toNat_of_nonneg hx, Int.toNat_of_nonneg hq]
  omega
theorem subt_next {zs ys os : List Int} {k : Nat} {q c c' x : Int} (hk : k < os.length) (hdr : os.drop k = zs.drop k) (hq : 0 ≤ q) (hc : 0 ≤ c) (hc' : 0 ≤ c') (hx : 0 ≤ x ∧ x < 1000000000) (hz : 0 ≤ zs.getD k 0) (hy : 0 ≤ ys.getD k 0)
    (hs : os.getD k 0 + c' * 1000000000 = x + ys.getD k 0 * q + c) (hv : vl (zs.take k) + Bs ^ k * c.toNat = vl (os.take k) + q.toNat * vl (ys.take k)) :
    vl (zs.take (k + 1)) + Bs ^ (k + 1) * c'.toNat = vl ((os.set k x).take (k + 1)) + q.toNat * vl (ys.take (k + 1)) := by
  rw [vl_take_set hk, vl_take_succ', vl_take_succ', Nat.pow_succ]
  refine subt_step hv ?_
  have e1 := getD_drop hdr
  have e2 := toNat_mul' hy hq
  rw [← e2]
  have e3 : 0 ≤ ys.getD k 0 * q := Int.mul_nonneg hy hq
  rw [e1] at hs
  simp only [Bs]
  omega
/-- the last limb -/
theorem take_set_self {os : List Int} {n : Nat} {x : Int} : (os.set n x).take n = os.take n := List.take_set_of_le (Nat.le_refl n)
theorem subt_end {zs ys os : List Int} {n : Nat} {q c : Int} (hn : n < os.length) (hy : ys.length = n) (hdr : os.drop n = zs.drop n) (hq : 0 ≤ q) (hc : 0 ≤ c) (hv : vl (zs.take n) + Bs ^ n * c.toNat = vl (os.take n) + q.toNat * vl (ys.take n)) :
    ((vl ((os.set n (os.getD n 0 - c)).take n) : Nat) : Int) + ((Bs ^ n : Nat) : Int) * (os.set n (os.getD n 0 - c)).getD n 0 = ((vl (zs.take n) : Nat) : Int) + ((Bs ^ n : Nat) : Int) * zs.getD n 0 - q * ((vl ys : Nat) : Int) := by
  rw [take_set_self, getD_set_eq hn, getD_drop hdr]
  rw [vl_take_ge (show ys.length ≤ n by omega)] at hv
  have h1 : ((vl (zs.take n) : Nat) : Int) + ((Bs ^ n : Nat) : Int) * c = ((vl (os.take n) : Nat) : Int) + q * ((vl ys : Nat) : Int) := by
    have h2 : ((vl (zs.take n) + Bs ^ n * c.toNat : Nat) : Int) = ((vl (os.take n) + q.toNat * vl ys : Nat) : Int) := by rw [hv]
    rw [Int.natCast_add, Int.natCast_add, Int.natCast_mul, Int.natCast_mul, Int.toNat_of_nonneg hc, Int.toNat_of_nonneg hq] at h2
    exact h2
  generalize ((Bs ^ n : Nat) : Int) = B at *
  grind
/-- one limb of a sum put back -/
theorem addb_next {zs ys os : List Int} {k : Nat} {c : Nat} {s : Int} (hk : k < os.length) (hdr : os.drop k = zs.drop k) (hz : 0 ≤ zs.getD k 0) (hy : 0 ≤ ys.getD k 0)
    (hs : s = (c : Int) + (os.getD k 0 + ys.getD k 0)) (hv : vl (os.take k) + Bs ^ k * c = vl (zs.take k) + vl (ys.take k)) :
    vl ((os.set k (s % 1000000000)).take (k + 1)) + Bs ^ (k + 1) * (s / 1000000000).toNat = vl (zs.take (k + 1)) + vl (ys.take (k + 1)) := by
  rw [vl_take_set hk, vl_take_succ', vl_take_succ', Nat.pow_succ]
  have e1 := getD_drop hdr
  refine add_step (s := s) ?_ hv
  omega
theorem addb_end {zs ys os : List Int} {n c : Nat} (hn : n < os.length) (hy : ys.length = n) (hdr : os.drop n = zs.drop n) (hv : vl (os.take n) + Bs ^ n * c = vl (zs.take n) + vl (ys.take n)) :
    ((vl ((os.set n (os.getD n 0 + (c : Int))).take n) : Nat) : Int) + ((Bs ^ n : Nat) : Int) * (os.set n (os.getD n 0 + (c : Int))).getD n 0 = ((vl (zs.take n) : Nat) : Int) + ((Bs ^ n : Nat) : Int) * zs.getD n 0 + ((vl ys : Nat) : Int) := by
  rw [take_set_self, getD_set_eq hn, getD_drop hdr]
  rw [vl_take_ge (show ys.length ≤ n by omega)] at hv
  have h2 : ((vl (os.take n) + Bs ^ n * c : Nat) : Int) = ((vl (zs.take n) + vl ys : Nat) : Int) := by rw [hv]
  rw [Int.natCast_add, Int.natCast_add, Int.natCast_mul] at h2
  generalize ((Bs ^ n : Nat) : Int) = B at *
  grind
/-! the guess -/
theorem kn_up {P L u2 top K v2 v1 : Nat} (hL : L < P) (hu2 : u2 < 1000000000) (hv1 : 0 < v1) : (L + P * (u2 + 1000000000 * top)) / (K + P * (v2 + 1000000000 * v1)) ≤ top / v1 := by
  generalize hQ : (L + P * (u2 + 1000000000 * top)) / (K + P * (v2 + 1000000000 * v1)) = Q
  have h0 : Q * (K + P * (v2 + 1000000000 * v1)) ≤ L + P * (u2 + 1000000000 * top) := by rw [← hQ]; exact Nat.div_mul_le_self _ _
  rw [Nat.le_div_iff_mul_le hv1]
  rcases Nat.lt_or_ge top (Q * v1) with h | h
  · exfalso
    have h1 : P * (top + 1) ≤ P * (Q * v1) := Nat.mul_le_mul_left _ h
    have h2 : P * (u2 + 1) ≤ P * 1000000000 := Nat.mul_le_mul_left _ hu2
    have h3 : Q * (K + P * (v2 + 1000000000 * v1)) = Q * K + Q * P * v2 + 1000000000 * (P * (Q * v1)) := by grind
    have h4 : P * (u2 + 1000000000 * top) = P * u2 + 1000000000 * (P * top) := by grind
    rw [Nat.mul_add, Nat.mul_one] at h1 h2
    rw [h3, h4] at h0
    omega
  · exact h
theorem kn_dn {P L u2 top K v2 v1 q r : Nat} (hL : L < P) (ht : top = q * v1 + r) (hg : r * 1000000000 + u2 < q * v2) : (L + P * (u2 + 1000000000 * top)) / (K + P * (v2 + 1000000000 * v1)) < q := by
  generalize hQ : (L + P * (u2 + 1000000000 * top)) / (K + P * (v2 + 1000000000 * v1)) = Q
  have h0 : Q * (K + P * (v2 + 1000000000 * v1)) ≤ L + P * (u2 + 1000000000 * top) := by rw [← hQ]; exact Nat.div_mul_le_self _ _
  rcases Nat.lt_or_ge Q q with h | h
  · exact h
  · exfalso
    have h1 : q * (K + P * (v2 + 1000000000 * v1)) ≤ Q * (K + P * (v2 + 1000000000 * v1)) := Nat.mul_le_mul_right _ h
    have h2 : P * (r * 1000000000 + u2 + 1) ≤ P * (q * v2) := Nat.mul_le_mul_left _ hg
    have h3 : q * (K + P * (v2 + 1000000000 * v1)) = q * K + P * (q * v2) + 1000000000 * (P * (q * v1)) := by grind
    have h4 : P * (u2 + 1000000000 * top) = P * u2 + 1000000000 * (P * (q * v1)) + 1000000000 * (P * r) := by rw [ht]; grind
    have h5 : P * (r * 1000000000 + u2 + 1) = 1000000000 * (P * r) + P * u2 + P := by grind
    rw [h4] at h0; rw [h3] at h1; rw [h5] at h2
    omega
theorem kn_ge {P L u2 top K v2 v1 q r : Nat} (hK : K < P) (ht : top = q * v1 + r) (hq : q < 1000000000) (hv2 : v2 < 1000000000) (hv1 : 0 < v1) (hx : q * v2 ≤ r * 1000000000 + u2 ∨ 1000000000 ≤ r) :
    q ≤ (L + P * (u2 + 1000000000 * top)) / (K + P * (v2 + 1000000000 * v1)) + 1 := by
  have hV : 0 < K + P * (v2 + 1000000000 * v1) := by
    have : P * 1 ≤ P * (v2 + 1000000000 * v1) := Nat.mul_le_mul_left _ (by omega)
    omega
  have h0 := Nat.lt_mul_div_succ (L + P * (u2 + 1000000000 * top)) hV
  generalize (L + P * (u2 + 1000000000 * top)) / (K + P * (v2 + 1000000000 * v1)) = Q at *
  rcases Nat.lt_or_ge (Q + 1) q with h | h
  · exfalso
    obtain ⟨p, rfl⟩ : ∃ p, q = p + 1 := ⟨q - 1, by omega⟩
    have h1 : (K + P * (v2 + 1000000000 * v1)) * (Q + 1) ≤ (K + P * (v2 + 1000000000 * v1)) * p := Nat.mul_le_mul_left _ (by omega)
    have h2 : (K + P * (v2 + 1000000000 * v1)) * p ≤ (P + P * (v2 + 1000000000 * v1)) * p := Nat.mul_le_mul_right _ (by omega)
    have h3 : P * (u2 + 1000000000 * top) < P * ((v2 + 1000000000 * v1 + 1) * p) := by
      have : (P + P * (v2 + 1000000000 * v1)) * p = P * ((v2 + 1000000000 * v1 + 1) * p) := by grind
      omega
    have h4 := Nat.lt_of_mul_lt_mul_left h3
    have h5 : (v2 + 1000000000 * v1 + 1) * p = p * v2 + 1000000000 * (p * v1) + p := by grind
    have h6 : top = p * v1 + v1 + r := by rw [ht]; grind
    rw [h5, h6] at h4
    rcases hx with hx | hx
    · have h7 : (p + 1) * v2 = p * v2 + v2 := by grind
      omega
    · have h7 : p * (v2 + 1) ≤ p * 1000000000 := Nat.mul_le_mul_left _ hv2
      have h8 : p * (v2 + 1) = p * v2 + p := by grind
      omega
  · exact h
theorem vl_split (zs : List Int) (j : Nat) (h : j ≤ zs.length) : vl zs = vl (zs.take j) + Bs ^ j * vl (zs.drop j) := by
  conv => lhs; rw [← List.take_append_drop j zs]
  rw [vl_append, List.length_take, Nat.min_eq_left h]
theorem vl_drop_one {zs : List Int} {j : Nat} (h : j < zs.length) : vl (zs.drop j) = (zs.getD j 0).toNat + Bs * vl (zs.drop (j + 1)) := by
  rw [drop_getD h, vl]
theorem vl_drop_end {zs : List Int} {j : Nat} (h : zs.length ≤ j) : vl (zs.drop j) = 0 := by rw [List.drop_eq_nil_of_le h]; rfl
/-- a number by its topmost limbs -/
theorem vl_top3 {zs : List Int} {n : Nat} (h2 : 2 ≤ n) (hl : zs.length = n + 1) : vl zs = vl (zs.take (n - 2)) + Bs ^ (n - 2) * ((zs.getD (n - 2) 0).toNat + 1000000000 * ((zs.getD n 0).toNat * 1000000000 + (zs.getD (n - 1) 0).toNat)) := by
  rw [vl_split zs (n - 2) (by omega), vl_drop_one (by omega), show n - 2 + 1 = n - 1 by omega, vl_drop_one (by omega), show n - 1 + 1 = n by omega, vl_drop_one (by omega), vl_drop_end (by omega)]
  congr 2
  simp only [Bs]; omega
theorem vl_top2 {zs : List Int} {n : Nat} (h2 : 2 ≤ n) (hl : zs.length = n) : vl zs = vl (zs.take (n - 2)) + Bs ^ (n - 2) * ((zs.getD (n - 2) 0).toNat + 1000000000 * (zs.getD (n - 1) 0).toNat) := by
  rw [vl_split zs (n - 2) (by omega), vl_drop_one (by omega), show n - 2 + 1 = n - 1 by omega, vl_drop_one (by omega), vl_drop_end (by omega)]
  simp only [Bs, Nat.mul_zero, Nat.add_zero]
theorem vl_take_lt {zs : List Int} (h : Lm zs) {k : Nat} (hk : k ≤ zs.length) : vl (zs.take k) < Bs ^ k := by
  have := vl_lt (h.take k); rwa [List.length_take, Nat.min_eq_left hk] at this
/-- what is known of the guess: it is not below the quotient -/
structure Guess (zs ys : List Int) (n : Nat) (top q : Int) : Prop where
  q0 : 0 ≤ q
  q1 : q ≤ 999999999
  qv : q * ys.getD (n - 1) 0 ≤ top
  up : vl zs / vl ys ≤ q.toNat
theorem top_eq {zs : List Int} {n : Nat} {top : Int} (hz : Lm zs) (ht : top = zs.getD n 0 * 1000000000 + zs.getD (n - 1) 0) : 0 ≤ top ∧ top ≤ 999999999999999999 ∧ top.toNat = (zs.getD n 0).toNat * 1000000000 + (zs.getD (n - 1) 0).toNat := by
  have h1 := hz.getD n
  have h2 := hz.getD (n - 1)
  omega
theorem guess_init {zs ys : List Int} {n : Nat} {top : Int} (h2 : 2 ≤ n) (hl : zs.length = n + 1) (hy : ys.length = n) (hz : Lm zs) (hY : Lm ys) (hv1 : 0 < ys.getD (n - 1) 0) (hU : vl zs < 1000000000 * vl ys)
    (ht : top = zs.getD n 0 * 1000000000 + zs.getD (n - 1) 0) : Guess zs ys n top (min (top / ys.getD (n - 1) 0) 999999999) := by
  obtain ⟨t0, t1, t2⟩ := top_eq hz ht
  have hd0 : 0 ≤ top / ys.getD (n - 1) 0 := Int.ediv_nonneg t0 (by omega)
  refine ⟨by omega, by omega, ?_, ?_⟩
  · have h3 : top / ys.getD (n - 1) 0 * ys.getD (n - 1) 0 ≤ top := Int.ediv_mul_le _ (by omega)
    have h4 : min (top / ys.getD (n - 1) 0) 999999999 * ys.getD (n - 1) 0 ≤ top / ys.getD (n - 1) 0 * ys.getD (n - 1) 0 := Int.mul_le_mul_of_nonneg_right (by omega) (by omega)
    omega
  · have hVpos : 0 < vl ys := by
      rcases Nat.eq_zero_or_pos (vl ys) with h | h
      · rw [h] at hU; omega
      · exact h
    have h3 : vl zs / vl ys < 1000000000 := (Nat.div_lt_iff_lt_mul hVpos).2 hU
    have h4 : vl zs / vl ys ≤ top.toNat / (ys.getD (n - 1) 0).toNat := by
      rw [vl_top3 h2 hl, vl_top2 h2 hy, t2]
      have := hz.getD (n - 2)
      exact kn_up (vl_take_lt hz (by omega)) (by omega) (by omega)
    have h5 : top.toNat / (ys.getD (n - 1) 0).toNat = (top / ys.getD (n - 1) 0).toNat := by
      have h6 : ((top.toNat / (ys.getD (n - 1) 0).toNat : Nat) : Int) = top / ys.getD (n - 1) 0 := by rw [Int.natCast_ediv, Int.toNat_of_nonneg t0, Int.toNat_of_nonneg (by omega)]
      rw [← h6, Int.toNat_natCast]
    rw [h5] at h4
    omega
theorem guess_next {zs ys : List Int} {n : Nat} {top q : Int} (h2 : 2 ≤ n) (hl : zs.length = n + 1) (hy : ys.length = n) (hz : Lm zs) (hY : Lm ys) (hv1 : 0 < ys.getD (n - 1) 0)
    (ht : top = zs.getD n 0 * 1000000000 + zs.getD (n - 1) 0) (hg : Guess zs ys n top q) (hq : 0 < q) (hx : (top - q * ys.getD (n - 1) 0) * 1000000000 + zs.getD (n - 2) 0 < q * ys.getD (n - 2) 0) : Guess zs ys n top (q - 1) := by
  obtain ⟨t0, t1, t2⟩ := top_eq hz ht
  have hz2 := hz.getD (n - 2)
  have hy2 := hY.getD (n - 2)
  have hqv := hg.qv
  refine ⟨by omega, by have := hg.q1; omega, ?_, ?_⟩
  · have : (q - 1) * ys.getD (n - 1) 0 = q * ys.getD (n - 1) 0 - ys.getD (n - 1) 0 := by grind
    omega
  · have e1 := toNat_mul' (x := q) (q := ys.getD (n - 1) 0) (by omega) (by omega)
    have e2 := toNat_mul' (x := q) (q := ys.getD (n - 2) 0) (by omega) (by omega)
    have e3 : 0 ≤ q * ys.getD (n - 1) 0 := Int.mul_nonneg (by omega) (by omega)
    have h3 : vl zs / vl ys < q.toNat := by
      rw [vl_top3 h2 hl, vl_top2 h2 hy, ← t2]
      refine kn_dn (r := (top - q * ys.getD (n - 1) 0).toNat) (vl_take_lt hz (by omega)) ?_ ?_
      · rw [← e1]; omega
      · rw [← e2]; omega
    omega
theorem guess_end {zs ys : List Int} {n : Nat} {top q : Int} (h2 : 2 ≤ n) (hl : zs.length = n + 1) (hy : ys.length = n) (hz : Lm zs) (hY : Lm ys) (hv1 : 0 < ys.getD (n - 1) 0)
    (ht : top = zs.getD n 0 * 1000000000 + zs.getD (n - 1) 0) (hg : Guess zs ys n top q) (hx : ¬ 0 < q ∨ ¬ top - q * ys.getD (n - 1) 0 < 1000000000 ∨ ¬ (top - q * ys.getD (n - 1) 0) * 1000000000 + zs.getD (n - 2) 0 < q * ys.getD (n - 2) 0) : q.toNat ≤ vl zs / vl ys + 1 := by
  obtain ⟨t0, t1, t2⟩ := top_eq hz ht
  have hz2 := hz.getD (n - 2)
  have hy2 := hY.getD (n - 2)
  have hqv := hg.qv
  have hq0 := hg.q0
  have hq1 := hg.q1
  have e1 := toNat_mul' (x := q) (q := ys.getD (n - 1) 0) (by omega) (by omega)
  have e2 := toNat_mul' (x := q) (q := ys.getD (n - 2) 0) (by omega) (by omega)
  have e3 : 0 ≤ q * ys.getD (n - 1) 0 := Int.mul_nonneg (by omega) (by omega)
  rcases hx with hx | hx
  · rw [show q.toNat = 0 by omega]; exact Nat.zero_le _
  · rw [vl_top3 h2 hl, vl_top2 h2 hy, ← t2]
    refine kn_ge (r := (top - q * ys.getD (n - 1) 0).toNat) (vl_take_lt hY (by omega)) ?_ (by omega) (by omega) (by omega) ?_
    · rw [← e1]; omega
    · rw [← e2]
      rcases hx with hx | hx
      · exact .inr (by omega)
      · exact .inl (by omega)
/-- a window whose value is below a power has nothing on top -/
theorem win_fin {os : List Int} {n R : Nat} (hl : os.length = n + 1) (hlm : Lm (os.take n)) (hR : R < Bs ^ n) (hv : ((vl (os.take n) : Nat) : Int) + ((Bs ^ n : Nat) : Int) * os.getD n 0 = ((R : Nat) : Int)) : Lm os ∧ vl os = R := by
  have h1 := vl_lt hlm
  rw [List.length_take, Nat.min_eq_left (by omega)] at h1
  have h0 : os.getD n 0 = 0 := by
    rcases Int.lt_trichotomy (os.getD n 0) 0 with h | h | h
    · have : ((Bs ^ n : Nat) : Int) * os.getD n 0 ≤ ((Bs ^ n : Nat) : Int) * (-1) := Int.mul_le_mul_of_nonneg_left (by omega) (by omega)
      omega
    · exact h
    · have : ((Bs ^ n : Nat) : Int) * 1 ≤ ((Bs ^ n : Nat) : Int) * os.getD n 0 := Int.mul_le_mul_of_nonneg_left (by omega) (by omega)
      omega
  rw [h0, Int.mul_zero] at hv
  have e : os = os.take n ++ [0] := by
    have e1 : os = os.take (n + 1) := by rw [List.take_of_length_le (by omega)]
    rw [List.take_succ_eq_append_getElem (by omega)] at e1
    have e2 : os[n] = 0 := by rw [← h0]; simp [List.getElem?_eq_getElem (show n < os.length by omega)]
    rw [e2] at e1; exact e1
  refine ⟨by rw [e]; exact hlm.append (Lm.single (by decide) (by decide)), ?_⟩
  rw [e, vl_concat]
  simp only [Int.toNat_zero, Nat.mul_zero]
  omega
theorem vlI {zs : List Int} {n : Nat} (hl : zs.length = n + 1) (h0 : 0 ≤ zs.getD n 0) : ((vl (zs.take n) : Nat) : Int) + ((Bs ^ n : Nat) : Int) * zs.getD n 0 = ((vl zs : Nat) : Int) := by
  have h1 := vl_take_succ' (a := zs) (k := n)
  rw [List.take_of_length_le (by omega)] at h1
  rw [h1, Int.natCast_add, Int.natCast_mul (Bs ^ n), Int.toNat_of_nonneg h0]
/-- what the subtraction leaves: right, or one too far -/
theorem step_sub {zs ys os : List Int} {n : Nat} {q : Int} (hl : zs.length = n + 1) (hz : Lm zs) (hY : Lm ys) (hy : ys.length = n) (hV : 0 < vl ys) (hq : 0 ≤ q) (hup : vl zs / vl ys ≤ q.toNat) (hdn : q.toNat ≤ vl zs / vl ys + 1)
    (hol : os.length = n + 1) (hlm : Lm (os.take n)) (hv : ((vl (os.take n) : Nat) : Int) + ((Bs ^ n : Nat) : Int) * os.getD n 0 = ((vl (zs.take n) : Nat) : Int) + ((Bs ^ n : Nat) : Int) * zs.getD n 0 - q * ((vl ys : Nat) : Int)) :
    (0 ≤ os.getD n 0 → q = ((vl zs / vl ys : Nat) : Int) ∧ Lm os ∧ vl os = vl zs % vl ys) ∧ (os.getD n 0 < 0 → os.getD n 0 = -1 ∧ q - 1 = ((vl zs / vl ys : Nat) : Int) ∧
      ∀ os' : List Int, os'.length = n + 1 → Lm (os'.take n) → ((vl (os'.take n) : Nat) : Int) + ((Bs ^ n : Nat) : Int) * os'.getD n 0 = ((vl (os.take n) : Nat) : Int) + ((Bs ^ n : Nat) : Int) * os.getD n 0 + ((vl ys : Nat) : Int) → Lm os' ∧ vl os' = vl zs % vl ys) := by
  have hVB : vl ys < Bs ^ n := by have := vl_lt hY; rwa [hy] at this
  have hm := Nat.mod_lt (vl zs) hV
  rw [vlI hl (hz.getD n).1] at hv
  have hda : ((vl ys : Nat) : Int) * ((vl zs / vl ys : Nat) : Int) + ((vl zs % vl ys : Nat) : Int) = ((vl zs : Nat) : Int) := by
    have := Nat.div_add_mod (vl zs) (vl ys)
    rw [← Int.natCast_mul, ← Int.natCast_add, this]
  generalize hQ : vl zs / vl ys = Q at *
  generalize vl zs % vl ys = R at *
  have h1 := vl_lt hlm
  rw [List.length_take, Nat.min_eq_left (by omega)] at h1
  have hqq : q = (Q : Int) ∨ q = (Q : Int) + 1 := by omega
  refine ⟨fun h0 => ?_, fun h0 => ?_⟩
  · have hq1 : q = (Q : Int) := by
      rcases hqq with h | h
      · exact h
      · exfalso
        have e : q * ((vl ys : Nat) : Int) = ((vl ys : Nat) : Int) * ((Q : Nat) : Int) + ((vl ys : Nat) : Int) := by rw [h]; grind
        have : 0 ≤ ((Bs ^ n : Nat) : Int) * os.getD n 0 := Int.mul_nonneg (by omega) h0
        omega
    refine ⟨hq1, ?_⟩
    have e : q * ((vl ys : Nat) : Int) = ((vl ys : Nat) : Int) * ((Q : Nat) : Int) := by rw [hq1]; grind
    exact win_fin hol hlm (by omega) (by omega)
  · have hq1 : q = (Q : Int) + 1 := by
      rcases hqq with h | h
      · exfalso
        have e : q * ((vl ys : Nat) : Int) = ((vl ys : Nat) : Int) * ((Q : Nat) : Int) := by rw [h]; grind
        have : ((Bs ^ n : Nat) : Int) * os.getD n 0 ≤ ((Bs ^ n : Nat) : Int) * (-1) := Int.mul_le_mul_of_nonneg_left (by omega) (by omega)
        omega
      · exact h
    have e : q * ((vl ys : Nat) : Int) = ((vl ys : Nat) : Int) * ((Q : Nat) : Int) + ((vl ys : Nat) : Int) := by rw [hq1]; grind
    refine ⟨?_, by omega, fun os' l' m' v' => win_fin l' m' (by omega) (by omega)⟩
    rcases Int.lt_or_le (os.getD n 0) (-1) with h | h
    · exfalso
      have : ((Bs ^ n : Nat) : Int) * os.getD n 0 ≤ ((Bs ^ n : Nat) : Int) * (-2) := Int.mul_le_mul_of_nonneg_left (by omega) (by omega)
      omega
    · omega
/-! the whole division -/
theorem dg_top {n : Nat} (h : 0 < n) : 1 ≤ (dg n).getD ((dg n).length - 1) 0 := by
  have hl : 0 < (dg n).length := len_pos.2 h
  have h1 := (Lm_dg n).getD ((dg n).length - 1)
  have h2 : (dg n).getD ((dg n).length - 1) 0 ≠ 0 := fun e => dg_last n ((last_getD hl).2 e)
  omega
theorem scale_bd {t : Int} (h1 : 1 ≤ t) (h2 : t < 1000000000) : 1 ≤ 1000000000 / (t + 1) ∧ 1000000000 / (t + 1) ≤ 500000000 ∧ (t + 1) * (1000000000 / (t + 1)) ≤ 1000000000 := by
  refine ⟨?_, ?_, Int.mul_ediv_self_le (by omega)⟩
  · exact Int.le_ediv_of_mul_le (by omega) (by omega)
  · exact Int.ediv_le_of_le_mul (by omega) (by omega)
/-- the scaled divisor has as many limbs -/
theorem scale_len {n : Nat} {s : Int} (h : 0 < n) (hs : 1 ≤ s) (hb : ((dg n).getD ((dg n).length - 1) 0 + 1) * s ≤ 1000000000) : (dg (n * s.toNat)).length = (dg n).length := by
  have hl : 0 < (dg n).length := len_pos.2 h
  apply Nat.le_antisymm
  · apply dg_len_le
    have h1 := vl_split (dg n) ((dg n).length - 1) (by omega)
    rw [vl_dg, vl_drop_one (by omega), vl_drop_end (by omega)] at h1
    have h2 := vl_take_lt (Lm_dg n) (k := (dg n).length - 1) (by omega)
    have h3 := (Lm_dg n).getD ((dg n).length - 1)
    generalize (dg n).getD ((dg n).length - 1) 0 = t at *
    generalize hL : (dg n).length - 1 = L at *
    have hL2 : (dg n).length = L + 1 := by omega
    rw [hL2, Nat.pow_succ]
    have h4 : n + 1 ≤ Bs ^ L * (t.toNat + 1) := by
      rw [Nat.mul_add, Nat.mul_one]
      simp only [Nat.mul_zero, Nat.add_zero] at h1
      omega
    have h5 : (n + 1) * s.toNat ≤ Bs ^ L * (t.toNat + 1) * s.toNat := Nat.mul_le_mul_right _ h4
    have h6 : (t.toNat + 1) * s.toNat ≤ Bs := by
      have e : (((t.toNat + 1) * s.toNat : Nat) : Int) = (t + 1) * s := by
        rw [Int.natCast_mul, Int.natCast_add, Int.toNat_of_nonneg h3.1, Int.toNat_of_nonneg (by omega)]; rfl
      simp only [Bs]; omega
    have h7 : Bs ^ L * ((t.toNat + 1) * s.toNat) ≤ Bs ^ L * Bs := Nat.mul_le_mul_left _ h6
    rw [Nat.mul_assoc] at h5
    have h8 : (n + 1) * s.toNat = n * s.toNat + s.toNat := by grind
    omega
  · exact len_le (Nat.le_mul_of_pos_right _ (by omega))
theorem top_init {us : List Int} {m n s La Lb : Nat} (hl : us.length = La + 1) (hm : (dg m).length = La) (hn : (dg n).length = Lb) (hb : 0 < Lb) (hab : Lb ≤ La) (hs : 0 < s) (hv : vl us = m * s) : vl (us.drop (La + 1 - Lb)) < n * s := by
  have h1 := vl_split us (La + 1 - Lb) (by omega)
  have h2 : m < Bs ^ La := lt_of_dg_len (by omega)
  have h3 : Bs ^ (Lb - 1) ≤ n := by have := le_of_len (m := n) (by omega); rwa [hn] at this
  have h4 : Bs ^ La = Bs ^ (La + 1 - Lb) * Bs ^ (Lb - 1) := by rw [← Nat.pow_add]; congr 1; omega
  have h5 : m * s < Bs ^ La * s := Nat.mul_lt_mul_of_pos_right h2 hs
  have h6 : Bs ^ (Lb - 1) * s ≤ n * s := Nat.mul_le_mul_right _ h3
  rcases Nat.lt_or_ge (vl (us.drop (La + 1 - Lb))) (n * s) with h | h
  · exact h
  · exfalso
    have h7 : Bs ^ (La + 1 - Lb) * (Bs ^ (Lb - 1) * s) ≤ Bs ^ (La + 1 - Lb) * vl (us.drop (La + 1 - Lb)) := Nat.mul_le_mul_left _ (by omega)
    rw [h4, Nat.mul_assoc] at h5
    omega
/-- the window of a step holds all that is above it -/
theorem win_of {us : List Int} {j n V : Nat} (hz : Lm us) (hl : j + n + 1 ≤ us.length) (hV : V < Bs ^ n) (ht : vl (us.drop (j + 1)) < V) :
    vl ((us.drop j).take (j + n + 1 - j)) = vl (us.drop j) ∧ vl (us.drop j) < 1000000000 * V ∧ vl (us.drop (j + n + 1)) = 0 := by
  have h1 := vl_drop_one (zs := us) (j := j) (by omega)
  have h2 := hz.getD j
  have h3 : vl (us.drop j) < 1000000000 * V := by
    rw [h1]; simp only [Bs] at *; omega
  have h4 := vl_split (us.drop j) (n + 1) (by rw [List.length_drop]; omega)
  rw [List.drop_drop, show j + (n + 1) = j + n + 1 by omega] at h4
  have h5 : vl (us.drop (j + n + 1)) = 0 := by
    rcases Nat.eq_zero_or_pos (vl (us.drop (j + n + 1))) with h | h
    · exact h
    · exfalso
      have h6 : Bs ^ (n + 1) * 1 ≤ Bs ^ (n + 1) * vl (us.drop (j + n + 1)) := Nat.mul_le_mul_left _ h
      rw [Nat.mul_one] at h6
      have h7 : Bs ^ (n + 1) = Bs ^ n * 1000000000 := Nat.pow_succ ..
      omega
  refine ⟨?_, h3, h5⟩
  rw [h5, Nat.mul_zero, Nat.add_zero] at h4
  rw [show j + n + 1 - j = n + 1 by omega]; exact h4.symm
/-- the step: the window replaced by its rest, the digit set -/
theorem div_put {us qs ys : List Int} {k n V M W : Nat} (hk : 0 < k) (hkq : k ≤ qs.length) (hl : k - 1 + n + 1 ≤ us.length) (hW : W = vl (us.drop (k - 1))) (h0 : vl (us.drop (k - 1 + n + 1)) = 0) (hyl : ys.length = n + 1) (hys : vl ys = W % V)
    (hv : M = vl us + Bs ^ k * (V * vl (qs.drop k))) :
    vl ((us.take (k - 1) ++ ys ++ us.drop (k - 1 + n + 1)).drop (k - 1)) = W % V ∧ M = vl (us.take (k - 1) ++ ys ++ us.drop (k - 1 + n + 1)) + Bs ^ (k - 1) * (V * vl ((qs.set (k - 1) ((W / V : Nat) : Int)).drop (k - 1))) := by
  have hlt : (us.take (k - 1)).length = k - 1 := by rw [List.length_take]; omega
  have e1 : (us.take (k - 1) ++ ys ++ us.drop (k - 1 + n + 1)).drop (k - 1) = ys ++ us.drop (k - 1 + n + 1) := by
    rw [List.append_assoc, List.drop_append_of_le_length (by omega), List.drop_of_length_le (by omega), List.nil_append]
  have e2 : vl (ys ++ us.drop (k - 1 + n + 1)) = W % V := by rw [vl_append, h0, Nat.mul_zero, Nat.add_zero, hys]
  refine ⟨by rw [e1, e2], ?_⟩
  rw [List.append_assoc, vl_append, hlt, e2, vl_drop_set hk hkq, Int.toNat_natCast, hv, vl_split us (k - 1) (by omega), ← hW]
  have h3 := Nat.div_add_mod W V
  have h4 : Bs ^ k = Bs ^ (k - 1) * Bs := by rw [← Nat.pow_succ]; congr 1; omega
  rw [h4]
  generalize Bs ^ (k - 1) = P at *
  generalize vl (qs.drop k) = D at *
  generalize W / V = q at *
  generalize W % V = r at *
  generalize vl (us.take (k - 1)) = T at *
  have : P * W = P * (V * q + r) := by rw [h3]
  grind
theorem scaled_end {m n s u q : Nat} (hs : 0 < s) (hn : 0 < n) (hv : m * s = u + Bs ^ 0 * (n * s * q)) (hu : u < n * s) : q = m / n ∧ u = m % n * s := by
  rw [Nat.pow_zero, Nat.one_mul] at hv
  have h := div_end (m := m * s) (d := n * s) (v := q) (r := u) (by omega) hu
  rw [Nat.mul_div_mul_right _ _ hs, Nat.mul_mod_mul_right] at h
  exact h
theorem dg_one {s : Int} (h0 : 1 ≤ s) (h1 : s < 1000000000) : dg s.toNat = [s] := by
  rw [dg_pos (by omega), show s.toNat / Bs = 0 by simp only [Bs]; omega, dg_zero]
  congr 1
  simp only [Bs]; omega
theorem Lm.drop {a : List Int} (ha : Lm a) (k : Nat) : Lm (a.drop k) := fun x hx => ha x (List.mem_of_mem_drop hx)
theorem dg_getD_pos {n : Nat} (h : 0 < n) {k : Nat} (hk : k = (dg n).length - 1) : 0 < (dg n).getD k 0 := by subst hk; have := dg_top h; omega
end Go.Proofs.YtoeclobdbblohaaDoor
namespace Go.Proofs.YtoeclobdbblohaaDoor
theorem one_dg {s : Int} (h0 : 1 ≤ s) (h1 : s < 1000000000) : [s] = dg (vl [s]) := by rw [show vl [s] = s.toNat by simp [vl], dg_one h0 h1]
end Go.Proofs.YtoeclobdbblohaaDoor
