/- Plain lemmas on numbers and lists; no program in sight. Conditions: none. -/
import Derived.Test.YtoeclobdbblohaaDoorNatG
set_option linter.unusedVariables false
set_option linter.unusedSimpArgs false
namespace Go.Proofs.YtoeclobdbblohaaDoor
/-! ### fractions in lowest terms -/
theorem vl_one : vl [1] = 1 := rfl
theorem dg_1 : dg 1 = [1] := by have := dg_one (s := 1) (by decide) (by decide); simpa using this
theorem dg_is_one {G : Nat} : dg G = [1] ↔ G = 1 := ⟨fun h => by have := congrArg vl h; rw [vl_dg] at this; exact this, fun h => by subst h; exact dg_1⟩
theorem one_iff {zs : List Int} : zs = [1] ↔ (zs.length = 1 ∧ zs.getD 0 0 = 1) := by
  cases zs with
  | nil => simp
  | cons a l => cases l <;> simp
theorem gcd_next {m n : Nat} : Nat.gcd n (m % n) = Nat.gcd m n := by rw [Nat.gcd_comm m n, Nat.gcd_rec n m, Nat.gcd_comm]
theorem gcd_le_left {m n k : Nat} (h1 : (dg m).length ≤ k) (h2 : (dg n).length ≤ k) : (dg (Nat.gcd m n)).length ≤ k := by
  rcases Nat.eq_zero_or_pos m with h | h
  · subst h; rw [Nat.gcd_zero_left]; exact h2
  · exact Nat.le_trans (len_le (Nat.gcd_le_left _ h)) h1
def ROk (n : Bool) (z y : List Int) : Prop := IOk n z ∧ NOk y ∧ 0 < y.length ∧ y.length ≤ 18 ∧ z.length ≤ 18 ∧ Nat.gcd (vl z) (vl y) = 1
instance (n : Bool) (z y : List Int) : Decidable (ROk n z y) := by unfold ROk; infer_instance
theorem ROk.rat {n : Bool} {z y : List Int} (h : ROk n z y) : ∃ (x : Int) (d : Nat), n = ng x ∧ z = dg x.natAbs ∧ y = dg d ∧ 0 < d ∧ (dg x.natAbs).length ≤ 18 ∧ (dg d).length ≤ 18 ∧ Nat.gcd x.natAbs d = 1 := by
  obtain ⟨h1, h2, h3, h4, h5, h6⟩ := h
  obtain ⟨x, rfl, rfl, _⟩ := h1.int
  obtain ⟨d, rfl, _⟩ := h2.dg
  rw [vl_dg, vl_dg] at h6
  exact ⟨x, d, rfl, rfl, rfl, len_pos.1 h3, h5, h4, h6⟩
theorem ROk_iff {x : Int} {d : Nat} : ROk (ng x) (dg x.natAbs) (dg d) ↔ (0 < d ∧ (dg x.natAbs).length ≤ 18 ∧ (dg d).length ≤ 18 ∧ Nat.gcd x.natAbs d = 1) := by
  unfold ROk
  rw [vl_dg, vl_dg, len_pos]
  constructor
  · rintro ⟨_, _, h3, h4, h5, h6⟩; exact ⟨h3, h5, h4, h6⟩
  · rintro ⟨h3, h5, h4, h6⟩; exact ⟨IOk_ng (by omega), NOk_dg (by omega), h3, h4, h5, h6⟩
/-- a sign and a size -/
def sgI (n : Bool) (m : Nat) : Int := if n then -(m : Int) else (m : Int)
theorem sgI_abs (n : Bool) (m : Nat) : (sgI n m).natAbs = m := by unfold sgI; split <;> omega
theorem sgI_ng (x : Int) : sgI (ng x) x.natAbs = x := by
  unfold sgI; by_cases h : x < 0
  · rw [if_pos (ng_true.2 h)]; omega
  · rw [if_neg (by rw [ng_false.2 (by omega)]; decide)]; omega
theorem ng_sgI (n : Bool) (m : Nat) : nz n (dg m) = ng (sgI n m) := by
  rw [nz_dg]; unfold sgI ng; cases n <;> simp <;> omega
theorem sgI_nz (n : Bool) (m : Nat) : sgI (nz n (dg m)) m = sgI n m := by
  rw [nz_dg]; unfold sgI; cases n <;> simp; intro h; omega
theorem sgI_vI (n : Bool) (z : List Int) : sgI n (vl z) = vI n z := rfl
theorem sgI_false (m : Nat) : sgI false m = (m : Int) := rfl
theorem capI_sgI {n : Bool} {m : Nat} (h : (dg m).length ≤ 50) : capI n m = sgI n m := by unfold capI sgI; rw [capN_ok h]
/-- in lowest terms -/
def lowN (x : Int) (d : Nat) : Int := sgI (ng x) (x.natAbs / Nat.gcd x.natAbs d)
def lowD (x : Int) (d : Nat) : Nat := d / Nat.gcd x.natAbs d
theorem lowN_abs (x : Int) (d : Nat) : (lowN x d).natAbs = x.natAbs / Nat.gcd x.natAbs d := sgI_abs _ _
theorem lowN_sg (n : Bool) (m d : Nat) : nz n (dg (m / Nat.gcd m d)) = ng (lowN (sgI n m) d) := by
  unfold lowN; rw [sgI_abs, ← ng_sgI, ← ng_sgI, nz_dg, nz_dg, nz_dg]
  cases n
  · rfl
  · simp only [Bool.true_and]
    by_cases h : 0 < m / Nat.gcd m d
    · have h0 : 0 < m := by
        rcases Nat.eq_zero_or_pos m with h0 | h0
        · rw [h0, Nat.zero_div] at h; exact absurd h (Nat.lt_irrefl 0)
        · exact h0
      rw [decide_eq_true h, decide_eq_true h0]; rfl
    · rw [decide_eq_false h, Bool.and_false]
def noR : Bool × List Int × List Int × Bool := (false, [], [], false)
def rR (x : Int) (d : Nat) : Bool × List Int × List Int × Bool :=
  if 0 < d ∧ (dg (lowN x d).natAbs).length ≤ 18 ∧ (dg (lowD x d)).length ≤ 18 then (ng (lowN x d), dg (lowN x d).natAbs, dg (lowD x d), true) else noR
theorem rR_ok {n : Bool} {m d : Nat} (h0 : 0 < d) (h1 : (dg (m / Nat.gcd m d)).length ≤ 18) (h2 : (dg (d / Nat.gcd m d)).length ≤ 18) :
    rR (sgI n m) d = (nz n (dg (m / Nat.gcd m d)), dg (m / Nat.gcd m d), dg (d / Nat.gcd m d), true) := by
  unfold rR
  rw [lowN_abs, lowD, sgI_abs, if_pos ⟨h0, h1, h2⟩, lowN_sg]
theorem rR_no {n : Bool} {m d : Nat} (h : ¬ ((dg (m / Nat.gcd m d)).length ≤ 18 ∧ (dg (d / Nat.gcd m d)).length ≤ 18)) : rR (sgI n m) d = noR := by
  unfold rR
  rw [lowN_abs, lowD, sgI_abs, if_neg (fun h' => h h'.2)]
theorem rR_zero {x : Int} {d : Nat} (h : d = 0) : rR x d = noR := by unfold rR; rw [if_neg (fun h' => by omega)]
theorem rR_len {x : Int} {d : Nat} : (rR x d).2.1.length ≤ 18 ∧ (rR x d).2.2.1.length ≤ 18 := by
  unfold rR; split
  · rename_i h; exact ⟨h.2.1, h.2.2⟩
  · exact ⟨by simp [noR], by simp [noR]⟩
theorem low_ok {x : Int} {d : Nat} (h0 : 0 < d) (h1 : (dg (lowN x d).natAbs).length ≤ 18) (h2 : (dg (lowD x d)).length ≤ 18) : ROk (ng (lowN x d)) (dg (lowN x d).natAbs) (dg (lowD x d)) := by
  have hg : 0 < Nat.gcd x.natAbs d := Nat.gcd_pos_of_pos_right _ h0
  refine ROk_iff.2 ⟨Nat.div_pos (Nat.gcd_le_right _ h0) hg, h1, h2, ?_⟩
  rw [lowN_abs, lowD]
  have e : Nat.gcd x.natAbs d * Nat.gcd (x.natAbs / Nat.gcd x.natAbs d) (d / Nat.gcd x.natAbs d) = Nat.gcd x.natAbs d := by
    rw [← Nat.gcd_mul_left, Nat.mul_div_cancel' (Nat.gcd_dvd_left _ _), Nat.mul_div_cancel' (Nat.gcd_dvd_right _ _)]
  exact Nat.eq_of_mul_eq_mul_left hg (by rw [e, Nat.mul_one])
/-- what is in lowest terms stays -/
theorem low_same {x : Int} {d : Nat} (h : Nat.gcd x.natAbs d = 1) : lowN x d = x ∧ lowD x d = d := by
  unfold lowN lowD; rw [h, Nat.div_one, Nat.div_one, sgI_ng]; exact ⟨rfl, rfl⟩
theorem rR_same {x : Int} {d : Nat} (h : ROk (ng x) (dg x.natAbs) (dg d)) : rR x d = (ng x, dg x.natAbs, dg d, true) := by
  have h' := ROk_iff.1 h
  have e := low_same h'.2.2.2
  unfold rR; rw [e.1, e.2, if_pos ⟨h'.1, h'.2.1, h'.2.2.1⟩]
/-- the result of one that is in order is in order -/
theorem rR_ROk {x : Int} {d : Nat} (h : (rR x d).2.2.2 = true) : ROk (rR x d).1 (rR x d).2.1 (rR x d).2.2.1 := by
  unfold rR at h ⊢
  split
  · rename_i h'; exact low_ok h'.1 h'.2.1 h'.2.2
  · rename_i h'; rw [if_neg h'] at h; cases h
theorem gcd_pos_r {m n : Nat} (h : 0 < n) : 0 < Nat.gcd m n := Nat.gcd_pos_of_pos_right _ h
theorem len_div (m n : Nat) : (dg (m / n)).length ≤ (dg m).length := len_le (Nat.div_le_self _ _)
theorem len_mod {m n : Nat} (h : 0 < n) : (dg (m % n)).length ≤ (dg n).length := len_le (Nat.le_of_lt (Nat.mod_lt _ h))
end Go.Proofs.YtoeclobdbblohaaDoor
namespace Go.Proofs.YtoeclobdbblohaaDoor
/-! ### operations on fractions -/
def rMake (n1 : Bool) (z1 : List Int) (n2 : Bool) (z2 : List Int) : Bool × List Int × List Int × Bool := if IOk n1 z1 ∧ IOk n2 z2 then rR (sgI (n1 != n2) (vl z1)) (vl z2) else noR
theorem rMake_no {n1 : Bool} {z1 : List Int} {n2 : Bool} {z2 : List Int} (h : ¬ (IOk n1 z1 ∧ IOk n2 z2)) : rMake n1 z1 n2 z2 = noR := by unfold rMake; rw [if_neg h]
theorem rMake_ok {x y : Int} (h1 : IOk (ng x) (dg x.natAbs)) (h2 : IOk (ng y) (dg y.natAbs)) : rMake (ng x) (dg x.natAbs) (ng y) (dg y.natAbs) = rR (sgI (ng x != ng y) x.natAbs) y.natAbs := by unfold rMake; rw [if_pos ⟨h1, h2⟩, vl_dg, vl_dg]
theorem rMake_len {n1 : Bool} {z1 : List Int} {n2 : Bool} {z2 : List Int} : (rMake n1 z1 n2 z2).2.1.length ≤ 18 ∧ (rMake n1 z1 n2 z2).2.2.1.length ≤ 18 := by
  unfold rMake; split
  · exact rR_len
  · exact ⟨by simp [noR], by simp [noR]⟩
def dRat (n : Bool) (z : List Int) (p : Int) : Bool × List Int × List Int × Bool := if DOk n z p then rR (vI n z) (10 ^ p.toNat) else noR
theorem dRat_no {n : Bool} {z : List Int} {p : Int} (h : ¬ DOk n z p) : dRat n z p = noR := by unfold dRat; rw [if_neg h]
theorem dRat_ok {x p : Int} (h : DOk (ng x) (dg x.natAbs) p) : dRat (ng x) (dg x.natAbs) p = rR (sgI (ng x) x.natAbs) (10 ^ p.toNat) := by unfold dRat; rw [if_pos h, vI_ng, sgI_ng]
theorem dRat_len {n : Bool} {z : List Int} {p : Int} : (dRat n z p).2.1.length ≤ 18 ∧ (dRat n z p).2.2.1.length ≤ 18 := by
  unfold dRat; split
  · exact rR_len
  · exact ⟨by simp [noR], by simp [noR]⟩
theorem dRat_make {x p : Int} (h : DOk (ng x) (dg x.natAbs) p) : rMake (ng x) (dg x.natAbs) (ng (tenI p)) (dg (tenI p).natAbs) = dRat (ng x) (dg x.natAbs) p := by
  have h' := DOk_iff.1 h
  rw [dRat_ok h, rMake_ok (IOk_ng (by omega)) (IOk_ng (by have := len_ten (k := p) (by omega); omega)), tenI_abs, ← ten_ng]
  congr 2
  cases ng x <;> rfl
def fair (n : Bool) (z ws : List Int) (i : Int) : Bool × List Int × List Int × Bool := if WOk ws ∧ (0 ≤ i ∧ i < ws.length) ∧ IOk n z then rR (sgI n (vl z * (ws.getD i.toNat 0).toNat)) ws.sum.toNat else noR
theorem fair_no {n : Bool} {z ws : List Int} {i : Int} (h : ¬ (WOk ws ∧ (0 ≤ i ∧ i < ws.length) ∧ IOk n z)) : fair n z ws i = noR := by unfold fair; rw [if_neg h]
theorem fair_ok {x : Int} {ws : List Int} {i : Int} (h : WOk ws ∧ (0 ≤ i ∧ i < ws.length) ∧ IOk (ng x) (dg x.natAbs)) : fair (ng x) (dg x.natAbs) ws i = rR (sgI (ng x) (x.natAbs * (ws.getD i.toNat 0).toNat)) ws.sum.toNat := by unfold fair; rw [if_pos h, vl_dg]
theorem fair_len {n : Bool} {z ws : List Int} {i : Int} : (fair n z ws i).2.1.length ≤ 18 ∧ (fair n z ws i).2.2.1.length ≤ 18 := by
  unfold fair; split
  · exact rR_len
  · exact ⟨by simp [noR], by simp [noR]⟩
theorem w_bd {ws : List Int} (h : WOk ws) (i : Nat) : 0 ≤ ws.getD i 0 ∧ ws.getD i 0 ≤ 1000000000 := by
  rcases Nat.lt_or_ge i ws.length with h1 | h1
  · exact bd_getD h.2.2.1 h1
  · rw [getD_ge h1]; omega
theorem w_sum {ws : List Int} (h : WOk ws) : 0 < ws.sum ∧ ws.sum ≤ 30000000000 := by
  have := (sum_bd h.2.2.1 ws.length (Nat.le_refl _)).2
  rw [List.take_length] at this
  have h1 := h.2.1
  have h2 := h.2.2.2
  refine ⟨h2, ?_⟩
  omega
/-! ### rounding -/
/-- whether a mode rounds away from nought -/
def awayB (m : Int) (neg : Bool) (c : Int) (odd : Bool) : Bool :=
  if m = 0 then false else if m = 1 then true else if m = 2 then neg else if m = 3 then !neg else if m = 4 then decide (0 < c) else if m = 5 then decide (0 ≤ c) else decide (0 < c) || (decide (c = 0) && odd)
/-- the size of a quotient rounded by a mode -/
def rq (x : Int) (d : Nat) (m : Int) : Nat := x.natAbs / d + if 0 < x.natAbs % d ∧ awayB m (ng x) (cmpN (x.natAbs % d + x.natAbs % d) d) (decide ((x.natAbs / d) % 2 = 1)) = true then 1 else 0
def rqI (x : Int) (d : Nat) (m : Int) : Int := sgI (ng x) (rq x d m)
theorem rq_up {x : Int} {d : Nat} {m : Int} (h : 0 < x.natAbs % d) (ha : awayB m (ng x) (cmpN (x.natAbs % d + x.natAbs % d) d) (decide ((x.natAbs / d) % 2 = 1)) = true) : rq x d m = x.natAbs / d + 1 := by unfold rq; rw [if_pos ⟨h, ha⟩]
theorem rq_dn {x : Int} {d : Nat} {m : Int} (h : ¬ (0 < x.natAbs % d ∧ awayB m (ng x) (cmpN (x.natAbs % d + x.natAbs % d) d) (decide ((x.natAbs / d) % 2 = 1)) = true)) : rq x d m = x.natAbs / d := by unfold rq; rw [if_neg h]; rfl
theorem rq_le (x : Int) (d : Nat) (m : Int) : rq x d m ≤ x.natAbs / d + 1 := by unfold rq; split <;> omega
theorem rq_len {x : Int} {d k : Nat} {m : Int} (h : (dg x.natAbs).length ≤ k) : (dg (rq x d m)).length ≤ k + 1 := by
  have h1 := len_le (rq_le x d m)
  have h2 := len_add (x.natAbs / d) 1
  have h3 := len_div x.natAbs d
  have h4 : (dg 1).length = 1 := by rw [dg_1]; rfl
  by_cases hk : k = 0
  · subst hk
    have : x.natAbs = 0 := len_zero.1 (by omega)
    rw [this, Nat.zero_div, Nat.zero_add] at h1
    omega
  · have := Nat.max_le.2 ⟨Nat.le_trans h3 h, show (dg 1).length ≤ k by omega⟩
    omega
theorem rqI_sg (x : Int) (d : Nat) (m : Int) : nz (ng x) (dg (rq x d m)) = ng (rqI x d m) ∧ dg (rq x d m) = dg (rqI x d m).natAbs := ⟨ng_sgI _ _, by unfold rqI; rw [sgI_abs]⟩
theorem odd_dg {q : Nat} : (dg q).length = 0 ∨ (dg q).getD 0 0 % 2 = 0 ↔ ¬ q % 2 = 1 := by
  by_cases h : q = 0
  · subst h; simp [dg_zero]
  · rw [dg_pos h]
    simp only [List.length_cons, List.getD_cons_zero, Bs]
    omega
/-- rounding sees the fraction only -/
theorem rq_low {x : Int} {d g : Nat} (hg : 0 < g) {y : Int} {e : Nat} (hx : x.natAbs = g * y.natAbs) (hd : d = g * e) (hn : ng x = ng y) (m : Int) : rq x d m = rq y e m := by
  unfold rq
  have h1 : x.natAbs / d = y.natAbs / e := by rw [hx, hd, Nat.mul_div_mul_left _ _ hg]
  have h2 : x.natAbs % d = g * (y.natAbs % e) := by rw [hx, hd, Nat.mul_mod_mul_left]
  have h3 : cmpN (g * (y.natAbs % e) + g * (y.natAbs % e)) (g * e) = cmpN (y.natAbs % e + y.natAbs % e) e := by
    rw [← Nat.mul_add]
    unfold cmpN
    have a1 : g * (y.natAbs % e + y.natAbs % e) < g * e ↔ y.natAbs % e + y.natAbs % e < e := Nat.mul_lt_mul_left hg
    have a2 : g * (y.natAbs % e + y.natAbs % e) = g * e ↔ y.natAbs % e + y.natAbs % e = e := ⟨fun h => Nat.eq_of_mul_eq_mul_left hg h, fun h => by rw [h]⟩
    simp only [a1, a2]
  have h4 : 0 < g * (y.natAbs % e) ↔ 0 < y.natAbs % e := ⟨fun h => Nat.pos_of_mul_pos_left h, fun h => Nat.mul_pos hg h⟩
  rw [h1, h2, hd, h3, hn]
  simp only [h4]
theorem low_mul (x : Int) (d : Nat) : x.natAbs = Nat.gcd x.natAbs d * (lowN x d).natAbs ∧ d = Nat.gcd x.natAbs d * lowD x d := by
  rw [lowN_abs, lowD]
  exact ⟨(Nat.mul_div_cancel' (Nat.gcd_dvd_left _ _)).symm, (Nat.mul_div_cancel' (Nat.gcd_dvd_right _ _)).symm⟩
theorem lowN_ng (x : Int) {d : Nat} (hd : 0 < d) : ng (lowN x d) = ng x := by
  have h := lowN_sg (ng x) x.natAbs d
  rw [sgI_ng, nz_dg] at h
  rw [← h]
  by_cases hx : x < 0
  · rw [ng_true.2 hx]
    simp only [Bool.true_and, decide_eq_true_eq]
    exact Nat.div_pos (Nat.gcd_le_left _ (by omega)) (gcd_pos_r hd)
  · rw [ng_false.2 (by omega)]; rfl
theorem rqI_low (x : Int) {d : Nat} (hd : 0 < d) (m : Int) : rqI (lowN x d) (lowD x d) m = rqI x d m := by
  have h := low_mul x d
  unfold rqI
  rw [← rq_low (gcd_pos_r hd) h.1 h.2 (lowN_ng x hd).symm m, lowN_ng x hd]
def noS : Bool × List Int × Bool := (false, [], false)
def iR (x : Int) : Bool × List Int × Bool := (ng x, dg x.natAbs, true)
def rRound (n : Bool) (z y : List Int) (m : Int) : Bool × List Int × Bool := if ROk n z y ∧ (0 ≤ m ∧ m ≤ 6) then iR (rqI (vI n z) (vl y) m) else noS
theorem rRound_no {n : Bool} {z y : List Int} {m : Int} (h : ¬ (ROk n z y ∧ (0 ≤ m ∧ m ≤ 6))) : rRound n z y m = noS := by unfold rRound; rw [if_neg h]
theorem rRound_ok {x : Int} {d : Nat} {m : Int} (h : ROk (ng x) (dg x.natAbs) (dg d) ∧ (0 ≤ m ∧ m ≤ 6)) : rRound (ng x) (dg x.natAbs) (dg d) m = iR (rqI x d m) := by unfold rRound; rw [if_pos h, vI_ng, vl_dg]
theorem rRound_len {n : Bool} {z y : List Int} {m : Int} : (rRound n z y m).2.1.length ≤ 19 := by
  unfold rRound; split
  · rename_i h
    obtain ⟨x, d, rfl, rfl, rfl, h0, h1, h2, h3⟩ := h.1.rat
    rw [vI_ng, vl_dg]
    show (dg (rqI x d m).natAbs).length ≤ 19
    unfold rqI; rw [sgI_abs]
    exact rq_len h1
  · simp [noS]
def roundTo (n : Bool) (z : List Int) (s m : Int) : Bool × List Int × Bool := if IOk n z ∧ z.length ≤ 18 ∧ (1 ≤ s ∧ s ≤ 1000000) ∧ (0 ≤ m ∧ m ≤ 6) then iR (rqI (vI n z) s.toNat m * s) else noS
theorem roundTo_no {n : Bool} {z : List Int} {s m : Int} (h : ¬ (IOk n z ∧ z.length ≤ 18 ∧ (1 ≤ s ∧ s ≤ 1000000) ∧ (0 ≤ m ∧ m ≤ 6))) : roundTo n z s m = noS := by unfold roundTo; rw [if_neg h]
theorem roundTo_ok {x s m : Int} (h : IOk (ng x) (dg x.natAbs) ∧ (dg x.natAbs).length ≤ 18 ∧ (1 ≤ s ∧ s ≤ 1000000) ∧ (0 ≤ m ∧ m ≤ 6)) : roundTo (ng x) (dg x.natAbs) s m = iR (rqI x s.toNat m * s) := by unfold roundTo; rw [if_pos h, vI_ng]
theorem roundTo_len {n : Bool} {z : List Int} {s m : Int} : (roundTo n z s m).2.1.length ≤ 20 := by
  unfold roundTo; split
  · rename_i h
    obtain ⟨x, rfl, rfl, _⟩ := h.1.int
    rw [vI_ng]
    show (dg (rqI x s.toNat m * s).natAbs).length ≤ 20
    have h1 := len_mulI (rqI x s.toNat m) s
    have h2 : (dg s.natAbs).length ≤ 1 := dg_len_le (by simp only [Bs]; omega)
    have h3 : (dg (rqI x s.toNat m).natAbs).length ≤ 19 := by unfold rqI; rw [sgI_abs]; exact rq_len h.2.1
    omega
  · simp [noS]
end Go.Proofs.YtoeclobdbblohaaDoor
namespace Go.Proofs.YtoeclobdbblohaaDoor
theorem mul_sp {Q s : Int} (h : 1 ≤ s) : nz (ng Q) (dg (Q.natAbs * s.toNat)) = ng (Q * s) ∧ dg (Q.natAbs * s.toNat) = dg (Q * s).natAbs := by
  refine sg_eq (by rw [Int.natAbs_mul]; congr 1; omega) (fun h' => ?_) (fun h' => ?_)
  · rcases mul_neg_iff.1 h' with h2 | h2
    · exact ng_true.2 h2.1
    · omega
  · refine ng_false.2 ?_
    rcases Int.lt_or_le Q 0 with h2 | h2
    · have := mul_neg_iff.2 (.inl ⟨h2, show 0 < s by omega⟩); omega
    · exact h2
theorem rTo_ok {x s : Int} (h1 : IOk (ng x) (dg x.natAbs)) (h2 : (dg x.natAbs).length ≤ 18) (h3 : 1 ≤ s ∧ s ≤ 1000000) :
    rMake (ng x) (dg x.natAbs) (ng s) (dg s.natAbs) = (ng (lowN x s.toNat), dg (lowN x s.toNat).natAbs, dg (lowD x s.toNat), true) := by
  have hs : s.natAbs = s.toNat := by omega
  have hl : (dg s.natAbs).length ≤ 1 := dg_len_le (by simp only [Bs]; omega)
  rw [rMake_ok h1 (IOk_ng (by omega)), hs]
  have e : sgI (ng x != ng s) x.natAbs = x := by
    have : ng s = false := ng_false.2 (by omega)
    rw [this, show (ng x != false) = ng x by cases ng x <;> rfl, sgI_ng]
  rw [e]
  unfold rR
  have h4 : (dg (lowN x s.toNat).natAbs).length ≤ 18 := by rw [lowN_abs]; exact Nat.le_trans (len_div _ _) h2
  have h5 : (dg (lowD x s.toNat)).length ≤ 18 := by
    have := len_div s.toNat (Nat.gcd x.natAbs s.toNat)
    rw [hs] at hl
    show (dg (s.toNat / Nat.gcd x.natAbs s.toNat)).length ≤ 18
    omega
  rw [if_pos ⟨by omega, h4, h5⟩]
end Go.Proofs.YtoeclobdbblohaaDoor
