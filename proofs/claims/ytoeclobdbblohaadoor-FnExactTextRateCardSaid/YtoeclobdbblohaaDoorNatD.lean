/- Plain lemmas on numbers and lists; no program in sight. Conditions: none. -/
import Derived.Test.YtoeclobdbblohaaDoorNatC
set_option linter.unusedVariables false
set_option linter.unusedSimpArgs false
namespace Go.Proofs.YtoeclobdbblohaaDoor
/-! ### signed numbers -/
def ng (x : Int) : Bool := decide (x < 0)
def nz (n : Bool) (zs : List Int) : Bool := n && decide (0 < zs.length)
def vI (n : Bool) (zs : List Int) : Int := if n then -((vl zs : Nat) : Int) else ((vl zs : Nat) : Int)
theorem len_zero {m : Nat} : (dg m).length = 0 ↔ m = 0 := by rw [List.length_eq_zero_iff, dg_nil]
theorem len_pos {m : Nat} : 0 < (dg m).length ↔ 0 < m := by have := len_zero (m := m); omega
theorem nz_dg (n : Bool) (m : Nat) : nz n (dg m) = (n && decide (0 < m)) := by unfold nz; simp only [len_pos]
theorem sg_eq {n : Bool} {m : Nat} {x : Int} (h1 : m = x.natAbs) (h2 : x < 0 → n = true) (h3 : 0 < x → n = false) : nz n (dg m) = ng x ∧ dg m = dg x.natAbs := by
  refine ⟨?_, by rw [h1]⟩
  rw [nz_dg]; unfold ng
  rcases Int.lt_trichotomy x 0 with h | h | h
  · rw [h2 h]; simp; omega
  · subst h; subst h1; simp
  · rw [h3 h]; simp; omega
theorem vI_ng (x : Int) : vI (ng x) (dg x.natAbs) = x := by
  unfold vI ng; rw [vl_dg]; split <;> simp_all <;> omega
theorem ng_true {x : Int} : ng x = true ↔ x < 0 := by simp [ng]
theorem ng_false {x : Int} : ng x = false ↔ 0 ≤ x := by simp [ng]
theorem ng_beq {x y : Int} : (ng x == ng y) = true ↔ (x < 0 ↔ y < 0) := by simp [ng]
theorem ng_beq' {x y : Int} : (ng x == ng y) = false ↔ ¬ (x < 0 ↔ y < 0) := by simp [ng]
theorem IOk.int {n : Bool} {zs : List Int} (h : IOk n zs) : ∃ x : Int, n = ng x ∧ zs = dg x.natAbs ∧ (dg x.natAbs).length ≤ 50 := by
  obtain ⟨m, rfl, hm⟩ := NOk.dg h.1
  cases n with
  | false => exact ⟨(m : Int), by simp [ng], by simp, by simpa using hm⟩
  | true =>
    have h0 := len_pos.1 (h.2 rfl)
    exact ⟨-(m : Int), by simp [ng]; omega, by simp, by simpa using hm⟩
theorem IOk_iff {x : Int} : IOk (ng x) (dg x.natAbs) ↔ (dg x.natAbs).length ≤ 50 :=
  ⟨fun h => h.1.2.1, fun h => ⟨NOk_dg h, fun e => len_pos.2 (by have := ng_true.1 e; omega)⟩⟩
theorem IOk_ng {x : Int} (h : (dg x.natAbs).length ≤ 50) : IOk (ng x) (dg x.natAbs) := IOk_iff.2 h
theorem DOk.int {n : Bool} {zs : List Int} {p : Int} (h : DOk n zs p) : ∃ x : Int, n = ng x ∧ zs = dg x.natAbs ∧ (dg x.natAbs).length ≤ 6 ∧ 0 ≤ p ∧ p ≤ 30 := by
  obtain ⟨x, rfl, rfl, _⟩ := h.1.int
  exact ⟨x, rfl, rfl, h.2⟩
theorem DOk_iff {x p : Int} : DOk (ng x) (dg x.natAbs) p ↔ ((dg x.natAbs).length ≤ 6 ∧ 0 ≤ p ∧ p ≤ 30) :=
  ⟨fun h => h.2, fun h => ⟨IOk_ng (by omega), h⟩⟩
theorem mul_neg_iff {x y : Int} : x * y < 0 ↔ (x < 0 ∧ 0 < y) ∨ (0 < x ∧ y < 0) := by
  rcases Int.lt_trichotomy x 0 with hx | hx | hx
  · rcases Int.lt_trichotomy y 0 with hy | hy | hy
    · have := Int.mul_pos_of_neg_of_neg hx hy; omega
    · subst hy; simp
    · have := Int.mul_neg_of_neg_of_pos hx hy; omega
  · subst hx; simp
  · rcases Int.lt_trichotomy y 0 with hy | hy | hy
    · have := Int.mul_neg_of_pos_of_neg hx hy; omega
    · subst hy; simp
    · have := Int.mul_pos hx hy; omega
theorem mul_sg (x y : Int) : nz (ng x != ng y) (dg (x.natAbs * y.natAbs)) = ng (x * y) ∧ dg (x.natAbs * y.natAbs) = dg (x * y).natAbs := by
  refine sg_eq (Int.natAbs_mul x y).symm (fun h => ?_) (fun h => ?_)
  · rcases mul_neg_iff.1 h with ⟨h1, h2⟩ | ⟨h1, h2⟩ <;> simp [ng] <;> omega
  · have h' : ¬ (x * y < 0) := by omega
    rw [mul_neg_iff] at h'
    have hx : x ≠ 0 := by rintro rfl; simp at h
    have hy : y ≠ 0 := by rintro rfl; simp at h
    simp [ng]; omega
theorem neg_sg (x : Int) : nz (!ng x) (dg x.natAbs) = ng (-x) ∧ dg x.natAbs = dg (-x).natAbs :=
  sg_eq (by omega) (fun h => by simp [ng]; omega) (fun h => by simp [ng]; omega)
theorem same_sg {x : Int} : nz (ng x) (dg x.natAbs) = ng x ∧ dg x.natAbs = dg x.natAbs := sg_eq rfl ng_true.2 fun h => ng_false.2 (by omega)
theorem add_sg {x y : Int} (h : (ng x == ng y) = true) : nz (ng x) (dg (x.natAbs + y.natAbs)) = ng (x + y) ∧ dg (x.natAbs + y.natAbs) = dg (x + y).natAbs := by
  have h := ng_beq.1 h
  exact sg_eq (by omega) (fun h => ng_true.2 (by omega)) (fun h => ng_false.2 (by omega))
theorem sub_sg {x y : Int} (h : (ng x == ng y) = false) (hle : y.natAbs ≤ x.natAbs) : nz (ng x) (dg (x.natAbs - y.natAbs)) = ng (x + y) ∧ dg (x.natAbs - y.natAbs) = dg (x + y).natAbs := by
  have h := ng_beq'.1 h
  exact sg_eq (by omega) (fun h => ng_true.2 (by omega)) (fun h => ng_false.2 (by omega))
theorem sub_sg2 {x y : Int} (h : (ng x == ng y) = false) (hle : x.natAbs ≤ y.natAbs) : nz (ng y) (dg (y.natAbs - x.natAbs)) = ng (x + y) ∧ dg (y.natAbs - x.natAbs) = dg (x + y).natAbs := by
  have h := ng_beq'.1 h
  exact sg_eq (by omega) (fun h => ng_true.2 (by omega)) (fun h => ng_false.2 (by omega))
theorem sign_z {x : Int} (h : (dg x.natAbs).length = 0) : x.sign = 0 := by
  have := len_zero.1 h; have : x = 0 := by omega
  subst this; rfl
theorem sign_n {x : Int} (h : ng x = true) : x.sign = -1 := Int.sign_eq_neg_one_of_neg (ng_true.1 h)
theorem sign_p {x : Int} (h : ¬ (dg x.natAbs).length = 0) (h1 : ng x = false) : x.sign = 1 := by
  have := mt len_zero.2 h; have := ng_false.1 h1
  exact Int.sign_eq_one_of_pos (by omega)
def cmpI (x y : Int) : Int := if x < y then -1 else if x = y then 0 else 1
theorem cmpI_sign (x y : Int) : (x + -y).sign = cmpI x y := by
  unfold cmpI
  split
  · exact Int.sign_eq_neg_one_of_neg (by omega)
  · split
    · rename_i h; subst h; rw [Int.add_right_neg]; rfl
    · exact Int.sign_eq_one_of_pos (by omega)
theorem cmpI_lt {x y : Int} (h : x < y) : -1 = cmpI x y := by simp [cmpI, h]
theorem cmpI_gt {x y : Int} (h : y < x) : 1 = cmpI x y := by
  have h1 : ¬ x < y := by omega
  have h2 : ¬ x = y := by omega
  simp [cmpI, h1, h2]
theorem cmpI_nn {x y : Int} (hx : 0 ≤ x) (hy : 0 ≤ y) : cmpL (dg x.natAbs) (dg y.natAbs) = cmpI x y := by
  rw [cmpL_dg]; unfold cmpN cmpI
  have h1 : x.natAbs < y.natAbs ↔ x < y := by omega
  have h2 : x.natAbs = y.natAbs ↔ x = y := by omega
  simp only [h1, h2]
theorem cmpI_mm {x y : Int} (hx : x < 0) (hy : y < 0) : cmpL (dg y.natAbs) (dg x.natAbs) = cmpI x y := by
  rw [cmpL_dg]; unfold cmpN cmpI
  have h1 : y.natAbs < x.natAbs ↔ x < y := by omega
  have h2 : y.natAbs = x.natAbs ↔ x = y := by omega
  simp only [h1, h2]
theorem cmpN_neg {m n : Nat} : cmpN m n < 0 ↔ m < n := by unfold cmpN; split <;> (try split) <;> simp <;> omega
theorem cmpN_nonneg {m n : Nat} : 0 ≤ cmpN m n ↔ n ≤ m := by have := cmpN_neg (m := m) (n := n); omega
/-- a number that does not fit is nought -/
def capN (m : Nat) : Nat := if (dg m).length ≤ 50 then m else 0
def cap (x : Int) : Int := if (dg x.natAbs).length ≤ 50 then x else 0
def capI (n : Bool) (m : Nat) : Int := if n then -((capN m : Nat) : Int) else ((capN m : Nat) : Int)
theorem capN_ok {m : Nat} (h : (dg m).length ≤ 50) : capN m = m := by simp [capN, h]
theorem capN_no {m : Nat} (h : ¬ (dg m).length ≤ 50) : capN m = 0 := by simp [capN, h]
theorem cap_ok {x : Int} (h : (dg x.natAbs).length ≤ 50) : cap x = x := by simp [cap, h]
theorem cap_sg (n : Bool) (m : Nat) : nz n (dg (capN m)) = ng (capI n m) ∧ dg (capN m) = dg (capI n m).natAbs := by
  refine sg_eq (by unfold capI; split <;> omega) (fun h => ?_) (fun h => ?_)
  · unfold capI at h; split at h
    · assumption
    · omega
  · unfold capI at h; split at h
    · omega
    · simp_all
theorem capI_of {n : Bool} {m : Nat} {x : Int} (h : nz n (dg m) = ng x ∧ dg m = dg x.natAbs) : capI n m = cap x := by
  have h2 : m = x.natAbs := dg_inj h.2
  have h1 := h.1
  unfold capI capN cap
  rw [nz_dg] at h1
  rw [← h2]
  by_cases hc : (dg m).length ≤ 50
  · rw [if_pos hc, if_pos hc]
    cases n with
    | false =>
      have : ng x = false := by rw [← h1]; rfl
      have := ng_false.1 this
      simp; omega
    | true =>
      simp only [Bool.true_and] at h1
      by_cases h0 : 0 < m
      · have : ng x = true := by rw [← h1]; simpa using h0
        have := ng_true.1 this
        simp; omega
      · simp; omega
  · rw [if_neg hc, if_neg hc]; simp
/-! ### powers of ten -/
def tenI (k : Int) : Int := ((10 ^ k.toNat : Nat) : Int)
theorem tenI_abs (k : Int) : (tenI k).natAbs = 10 ^ k.toNat := by unfold tenI; exact Int.natAbs_natCast _
theorem tenI_pos (k : Int) : 0 < tenI k := by unfold tenI; have := Nat.pow_pos (n := k.toNat) (show 0 < 10 by decide); omega
theorem ten_ng (k : Int) : false = ng (tenI k) := (ng_false.2 (Int.le_of_lt (tenI_pos k))).symm
theorem ten_le {j : Nat} (h : j ≤ 8) : 10 ^ j ≤ 100000000 := by
  have : 10 ^ j ≤ 10 ^ 8 := Nat.pow_le_pow_right (by decide) h
  simpa using this
theorem pow_bs (q : Nat) : Bs ^ q = 10 ^ (9 * q) := by rw [Nat.pow_mul]
theorem ten_dg {k : Int} (h0 : 0 ≤ k) {j c : Nat} (hj : (j : Int) = k % 9) (hc : c = 10 ^ j) : List.replicate (k / 9).toNat 0 ++ [((c : Nat) : Int)] = dg (10 ^ k.toNat) := by
  have hj8 : j ≤ 8 := by omega
  have h8 := ten_le hj8
  have e : k.toNat = 9 * (k / 9).toNat + j := by omega
  have hv : vl (List.replicate (k / 9).toNat 0 ++ [((c : Nat) : Int)]) = 10 ^ k.toNat := by
    rw [vl_concat, vl_replicate, List.length_replicate, Int.toNat_natCast, Nat.zero_add, pow_bs, hc, ← Nat.pow_add, e]
  refine dg_of ((Lm.replicate _).append (Lm.single (by omega) (by omega))) hv (.inr ?_)
  rw [List.length_append, List.length_replicate, List.length_singleton, Nat.add_sub_cancel, pow_bs]
  exact Nat.pow_le_pow_right (by decide) (by omega)
theorem ten_lenq {k : Int} {q : Nat} (h : k.toNat < 9 * q) : (dg (10 ^ k.toNat)).length ≤ q := by
  apply dg_len_le
  rw [pow_bs]
  exact Nat.pow_lt_pow_right (by decide) h
theorem ten_len {k : Int} (h : k ≤ 449) : (dg (10 ^ k.toNat)).length ≤ 50 := ten_lenq (by omega)
theorem ten_len' {k : Int} (h : k ≤ 30) : (dg (10 ^ k.toNat)).length ≤ 4 := ten_lenq (by omega)
theorem ten_mul_sg (x k : Int) : nz (ng x) (dg (x.natAbs * 10 ^ k.toNat)) = ng (x * tenI k) ∧ dg (x.natAbs * 10 ^ k.toNat) = dg (x * tenI k).natAbs := by
  have h := mul_sg x (tenI k)
  rw [tenI_abs, ← ten_ng] at h
  simpa using h
theorem len_mulI (x y : Int) : (dg (x * y).natAbs).length ≤ (dg x.natAbs).length + (dg y.natAbs).length := by rw [Int.natAbs_mul]; exact len_mul _ _
theorem len_addI (x y : Int) : (dg (x + y).natAbs).length ≤ max (dg x.natAbs).length (dg y.natAbs).length + 1 :=
  Nat.le_trans (len_le (show (x + y).natAbs ≤ x.natAbs + y.natAbs by omega)) (len_add _ _)
theorem len_ten {k : Int} (h : k ≤ 30) : (dg (tenI k).natAbs).length ≤ 4 := by rw [tenI_abs]; exact ten_len' h
/-! ### decimals -/
/-- what a decimal result is: sign, digits, places, whether it is good -/
def decR (x p : Int) : Bool × List Int × Int × Bool := if (dg x.natAbs).length ≤ 6 ∧ 0 ≤ p ∧ p ≤ 30 then (ng x, dg x.natAbs, p, true) else (false, [], 0, false)
theorem decR_ok {x p : Int} (h : DOk (ng x) (dg x.natAbs) p) : decR x p = (ng x, dg x.natAbs, p, true) := by unfold decR; rw [if_pos (DOk_iff.1 h)]
theorem decR_no {x p : Int} (h : ¬ DOk (ng x) (dg x.natAbs) p) : decR x p = (false, [], 0, false) := by unfold decR; rw [if_neg (mt DOk_iff.2 h)]
def dBin (f : Int → Int → Int → Int → Int × Int) (n1 : Bool) (z1 : List Int) (p1 : Int) (n2 : Bool) (z2 : List Int) (p2 : Int) : Bool × List Int × Int × Bool :=
  if DOk n1 z1 p1 ∧ DOk n2 z2 p2 then decR (f (vI n1 z1) p1 (vI n2 z2) p2).1 (f (vI n1 z1) p1 (vI n2 z2) p2).2 else (false, [], 0, false)
theorem dBin_no {f : Int → Int → Int → Int → Int × Int} {n1 : Bool} {z1 : List Int} {p1 : Int} {n2 : Bool} {z2 : List Int} {p2 : Int} (h : ¬ (DOk n1 z1 p1 ∧ DOk n2 z2 p2)) : dBin f n1 z1 p1 n2 z2 p2 = (false, [], 0, false) := by unfold dBin; rw [if_neg h]
theorem dBin_ok {f : Int → Int → Int → Int → Int × Int} {x p y q : Int} (h1 : DOk (ng x) (dg x.natAbs) p) (h2 : DOk (ng y) (dg y.natAbs) q) : dBin f (ng x) (dg x.natAbs) p (ng y) (dg y.natAbs) q = decR (f x p y q).1 (f x p y q).2 := by
  unfold dBin; rw [if_pos ⟨h1, h2⟩, vI_ng, vI_ng]
abbrev fMul (x p y q : Int) : Int × Int := (x * y, p + q)
abbrev fAdd (x p y q : Int) : Int × Int := (x * tenI (max p q - p) + y * tenI (max p q - q), max p q)
abbrev fSub (x p y q : Int) : Int × Int := (x * tenI (max p q - p) + -(y * tenI (max p q - q)), max p q)
def dCmp (n1 : Bool) (z1 : List Int) (p1 : Int) (n2 : Bool) (z2 : List Int) (p2 : Int) : Int :=
  if DOk n1 z1 p1 ∧ DOk n2 z2 p2 then cmpI (vI n1 z1 * tenI (max p1 p2 - p1)) (vI n2 z2 * tenI (max p1 p2 - p2)) else 0
theorem dCmp_no {n1 : Bool} {z1 : List Int} {p1 : Int} {n2 : Bool} {z2 : List Int} {p2 : Int} (h : ¬ (DOk n1 z1 p1 ∧ DOk n2 z2 p2)) : dCmp n1 z1 p1 n2 z2 p2 = 0 := by unfold dCmp; rw [if_neg h]
theorem dCmp_ok {x p y q : Int} (h1 : DOk (ng x) (dg x.natAbs) p) (h2 : DOk (ng y) (dg y.natAbs) q) : dCmp (ng x) (dg x.natAbs) p (ng y) (dg y.natAbs) q = cmpI (x * tenI (max p q - p)) (y * tenI (max p q - q)) := by
  unfold dCmp; rw [if_pos ⟨h1, h2⟩, vI_ng, vI_ng]
/-! ### marks -/
def mk (n : Int) (k : Nat) : List Int := (List.range k).map fun i : Nat => n + (i : Int)
theorem mk_length (n : Int) (k : Nat) : (mk n k).length = k := by simp [mk]
theorem mk_getD {n : Int} {k i : Nat} (h : i < k) : (mk n k).getD i 0 = n + i := by simp [mk, h]
theorem mk_zero (n : Int) : mk n 0 = [] := rfl
theorem mk_set {n : Int} {k : Nat} {os : List Int} (h : os.take k = mk n k) (hk : k < os.length) : (os.set k (n + k)).take (k + 1) = mk n (k + 1) := by
  rw [List.take_succ_eq_append_getElem (by simpa using hk)]
  simp only [List.take_set_of_le (Nat.le_refl k), List.getElem_set_self, h]
  simp [mk, List.range_succ]
end Go.Proofs.YtoeclobdbblohaaDoor
namespace Go.Proofs.YtoeclobdbblohaaDoor
theorem dBin_sub {n1 : Bool} {z1 : List Int} {p1 x q : Int} : dBin fSub n1 z1 p1 (ng x) (dg x.natAbs) q = dBin fAdd n1 z1 p1 (ng (-x)) (dg (-x).natAbs) q := by
  unfold dBin
  have e : DOk (ng (-x)) (dg (-x).natAbs) q ↔ DOk (ng x) (dg x.natAbs) q := by rw [DOk_iff, DOk_iff, Int.natAbs_neg]
  simp only [e, vI_ng, fAdd, fSub, Int.neg_mul]
end Go.Proofs.YtoeclobdbblohaaDoor
namespace Go.Proofs.YtoeclobdbblohaaDoor
theorem decR_len (x p : Int) : (decR x p).2.1.length ≤ 6 := by
  unfold decR; split
  · rename_i h; exact h.1
  · simp
theorem dBin_len {f : Int → Int → Int → Int → Int × Int} {n1 : Bool} {z1 : List Int} {p1 : Int} {n2 : Bool} {z2 : List Int} {p2 : Int} : (dBin f n1 z1 p1 n2 z2 p2).2.1.length ≤ 6 := by
  unfold dBin; split
  · exact decR_len _ _
  · simp
end Go.Proofs.YtoeclobdbblohaaDoor
namespace Go.Proofs.YtoeclobdbblohaaDoor
/-! ### numbers out of ints -/
theorem of_step {os : List Int} {q v n : Nat} (hv : vl os + Bs ^ os.length * n = v) : vl (os ++ [((n % Bs : Nat) : Int)]) + Bs ^ (os ++ [((n % Bs : Nat) : Int)]).length * (n / Bs) = v := by
  rw [vl_concat, List.length_append, List.length_singleton, Int.toNat_natCast, Nat.pow_succ, Nat.add_assoc, Nat.mul_assoc, ← Nat.mul_add, Nat.mod_add_div]; exact hv
theorem of_stepI {os : List Int} {v : Nat} {n : Int} (h0 : 0 ≤ n) (hv : vl os + Bs ^ os.length * n.toNat = v) : vl (os ++ [n % 1000000000]) + Bs ^ (os ++ [n % 1000000000]).length * (n / 1000000000).toNat = v := by
  have e1 : n % 1000000000 = ((n.toNat % Bs : Nat) : Int) := by simp only [Bs]; omega
  have e2 : (n / 1000000000).toNat = n.toNat / Bs := by simp only [Bs]; omega
  rw [e1, e2]; exact of_step (q := 0) hv
theorem of_len {os : List Int} {v : Nat} {n : Int} (h0 : 0 < n) (hv : vl os + Bs ^ os.length * n.toNat = v) : Bs ^ ((os ++ [n % 1000000000]).length - 1) ≤ v := by
  rw [List.length_append, List.length_singleton, Nat.add_sub_cancel, ← hv]
  exact Nat.le_trans (Nat.le_mul_of_pos_right _ (by omega)) (Nat.le_add_left _ _)
theorem len_u64 {n : Int} (h : n ≤ 18446744073709551615) : (dg n.toNat).length ≤ 3 := dg_len_le (by simp only [Bs]; omega)
theorem len_i64 {n : Int} (h : -9223372036854775808 ≤ n ∧ n ≤ 9223372036854775807) : (dg n.natAbs).length ≤ 3 := dg_len_le (by simp only [Bs]; omega)
theorem dg_min : dg (-9223372036854775808 : Int).natAbs = [854775808, 223372036, 9] := by decide +kernel
end Go.Proofs.YtoeclobdbblohaaDoor
namespace Go.Proofs.YtoeclobdbblohaaDoor
theorem capI_neg {n : Int} (h : -9223372036854775808 ≤ n ∧ n ≤ 0) : capI true (-n).toNat = n := by
  have e : (-n).toNat = n.natAbs := by omega
  have := len_i64 (n := n) (by omega)
  unfold capI; rw [e, capN_ok (by omega), if_pos rfl]; omega
theorem capI_pos {n : Int} (h : 0 ≤ n ∧ n ≤ 9223372036854775807) : capI false n.toNat = n := by
  have e : n.toNat = n.natAbs := by omega
  have := len_i64 (n := n) (by omega)
  unfold capI; rw [e, capN_ok (by omega), if_neg (by decide)]; omega
theorem capI_min : capI true (-9223372036854775808 : Int).natAbs = -9223372036854775808 := by
  have := capI_neg (n := -9223372036854775808) (by decide)
  exact this
end Go.Proofs.YtoeclobdbblohaaDoor
namespace Go.Proofs.YtoeclobdbblohaaDoor
theorem of_ln {m : Int} (h : 0 < m) : (dg m.toNat).length = (dg (m / 1000000000).toNat).length + 1 := by
  have e : (m / 1000000000).toNat = m.toNat / Bs := by simp only [Bs]; omega
  rw [e, dg_pos (n := m.toNat) (by omega), List.length_cons]
end Go.Proofs.YtoeclobdbblohaaDoor
