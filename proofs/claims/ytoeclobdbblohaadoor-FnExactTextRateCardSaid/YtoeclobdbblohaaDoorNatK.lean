/- Plain lemmas on numbers and lists; no program in sight. Conditions: none. -/
import Derived.Test.YtoeclobdbblohaaDoorNatI
set_option linter.unusedVariables false
set_option linter.unusedSimpArgs false
namespace Go.Proofs.YtoeclobdbblohaaDoor
/-! ### sums, differences, products, quotients of fractions -/
def rAdd (n1 : Bool) (z1 y1 : List Int) (n2 : Bool) (z2 y2 : List Int) : Bool × List Int × List Int × Bool :=
  if ROk n1 z1 y1 ∧ ROk n2 z2 y2 then rR (vI n1 z1 * (vl y2 : Nat) + vI n2 z2 * (vl y1 : Nat)) (vl y1 * vl y2) else noR
theorem rAdd_no {n1 n2 : Bool} {z1 y1 z2 y2 : List Int} (h : ¬ (ROk n1 z1 y1 ∧ ROk n2 z2 y2)) : rAdd n1 z1 y1 n2 z2 y2 = noR := by unfold rAdd; rw [if_neg h]
theorem rAdd_ok {x1 x2 : Int} {e1 e2 : Nat} (h1 : ROk (ng x1) (dg x1.natAbs) (dg e1)) (h2 : ROk (ng x2) (dg x2.natAbs) (dg e2)) :
    rAdd (ng x1) (dg x1.natAbs) (dg e1) (ng x2) (dg x2.natAbs) (dg e2) = rR (x1 * (e2 : Int) + x2 * (e1 : Int)) (e1 * e2) := by unfold rAdd; rw [if_pos ⟨h1, h2⟩, vI_ng, vI_ng, vl_dg, vl_dg]
theorem rAdd_len {n1 n2 : Bool} {z1 y1 z2 y2 : List Int} : (rAdd n1 z1 y1 n2 z2 y2).2.1.length ≤ 18 ∧ (rAdd n1 z1 y1 n2 z2 y2).2.2.1.length ≤ 18 := by
  unfold rAdd; split
  · exact rR_len
  · exact ⟨by simp [noR], by simp [noR]⟩
def rSub (n1 : Bool) (z1 y1 : List Int) (n2 : Bool) (z2 y2 : List Int) : Bool × List Int × List Int × Bool :=
  if ROk n1 z1 y1 ∧ ROk n2 z2 y2 then rAdd n1 z1 y1 (ng (-vI n2 z2)) (dg (-vI n2 z2).natAbs) y2 else noR
theorem rSub_no {n1 n2 : Bool} {z1 y1 z2 y2 : List Int} (h : ¬ (ROk n1 z1 y1 ∧ ROk n2 z2 y2)) : rSub n1 z1 y1 n2 z2 y2 = noR := by unfold rSub; rw [if_neg h]
theorem rSub_ok {n1 : Bool} {z1 y1 : List Int} {x2 : Int} {e2 : Nat} (h1 : ROk n1 z1 y1) (h2 : ROk (ng x2) (dg x2.natAbs) (dg e2)) :
    rSub n1 z1 y1 (ng x2) (dg x2.natAbs) (dg e2) = rAdd n1 z1 y1 (ng (-x2)) (dg (-x2).natAbs) (dg e2) := by unfold rSub; rw [if_pos ⟨h1, h2⟩, vI_ng]
theorem rSub_any {n1 : Bool} {z1 y1 : List Int} {x2 : Int} {e2 : Nat} (h2 : ROk (ng x2) (dg x2.natAbs) (dg e2)) :
    rSub n1 z1 y1 (ng x2) (dg x2.natAbs) (dg e2) = rAdd n1 z1 y1 (ng (-x2)) (dg (-x2).natAbs) (dg e2) := by
  by_cases h1 : ROk n1 z1 y1
  · exact rSub_ok h1 h2
  · rw [rSub_no (fun h => h1 h.1), rAdd_no (fun h => h1 h.1)]
theorem rSub_len {n1 n2 : Bool} {z1 y1 z2 y2 : List Int} : (rSub n1 z1 y1 n2 z2 y2).2.1.length ≤ 18 ∧ (rSub n1 z1 y1 n2 z2 y2).2.2.1.length ≤ 18 := by
  unfold rSub; split
  · exact rAdd_len
  · exact ⟨by simp [noR], by simp [noR]⟩
theorem ROk_neg {x : Int} {e : Nat} (h : ROk (ng x) (dg x.natAbs) (dg e)) : ROk (ng (-x)) (dg (-x).natAbs) (dg e) := by
  rw [ROk_iff] at h ⊢; rw [Int.natAbs_neg]; exact h
def rMul (n1 : Bool) (z1 y1 : List Int) (n2 : Bool) (z2 y2 : List Int) : Bool × List Int × List Int × Bool :=
  if ROk n1 z1 y1 ∧ ROk n2 z2 y2 then rR (sgI (n1 != n2) (vl z1 * vl z2)) (vl y1 * vl y2) else noR
theorem rMul_no {n1 n2 : Bool} {z1 y1 z2 y2 : List Int} (h : ¬ (ROk n1 z1 y1 ∧ ROk n2 z2 y2)) : rMul n1 z1 y1 n2 z2 y2 = noR := by unfold rMul; rw [if_neg h]
theorem rMul_ok {x1 x2 : Int} {e1 e2 : Nat} (h1 : ROk (ng x1) (dg x1.natAbs) (dg e1)) (h2 : ROk (ng x2) (dg x2.natAbs) (dg e2)) :
    rMul (ng x1) (dg x1.natAbs) (dg e1) (ng x2) (dg x2.natAbs) (dg e2) = rR (sgI (ng x1 != ng x2) (x1.natAbs * x2.natAbs)) (e1 * e2) := by unfold rMul; rw [if_pos ⟨h1, h2⟩, vl_dg, vl_dg, vl_dg, vl_dg]
theorem rMul_len {n1 n2 : Bool} {z1 y1 z2 y2 : List Int} : (rMul n1 z1 y1 n2 z2 y2).2.1.length ≤ 18 ∧ (rMul n1 z1 y1 n2 z2 y2).2.2.1.length ≤ 18 := by
  unfold rMul; split
  · exact rR_len
  · exact ⟨by simp [noR], by simp [noR]⟩
def rDiv (n1 : Bool) (z1 y1 : List Int) (n2 : Bool) (z2 y2 : List Int) : Bool × List Int × List Int × Bool :=
  if ROk n1 z1 y1 ∧ ROk n2 z2 y2 then rR (sgI (n1 != n2) (vl z1 * vl y2)) (vl y1 * vl z2) else noR
theorem rDiv_no {n1 n2 : Bool} {z1 y1 z2 y2 : List Int} (h : ¬ (ROk n1 z1 y1 ∧ ROk n2 z2 y2)) : rDiv n1 z1 y1 n2 z2 y2 = noR := by unfold rDiv; rw [if_neg h]
theorem rDiv_ok {x1 x2 : Int} {e1 e2 : Nat} (h1 : ROk (ng x1) (dg x1.natAbs) (dg e1)) (h2 : ROk (ng x2) (dg x2.natAbs) (dg e2)) :
    rDiv (ng x1) (dg x1.natAbs) (dg e1) (ng x2) (dg x2.natAbs) (dg e2) = rR (sgI (ng x1 != ng x2) (x1.natAbs * e2)) (e1 * x2.natAbs) := by unfold rDiv; rw [if_pos ⟨h1, h2⟩, vl_dg, vl_dg, vl_dg, vl_dg]
theorem rDiv_len {n1 n2 : Bool} {z1 y1 z2 y2 : List Int} : (rDiv n1 z1 y1 n2 z2 y2).2.1.length ≤ 18 ∧ (rDiv n1 z1 y1 n2 z2 y2).2.2.1.length ≤ 18 := by
  unfold rDiv; split
  · exact rR_len
  · exact ⟨by simp [noR], by simp [noR]⟩
/-- a product with a natural number -/
theorem mul_nat_sg (x : Int) (b : Nat) : nz (ng x) (dg (x.natAbs * b)) = ng (x * (b : Int)) ∧ dg (x.natAbs * b) = dg (x * (b : Int)).natAbs := by
  refine sg_eq (by rw [Int.natAbs_mul, Int.natAbs_natCast]) (fun h => ?_) (fun h => ?_)
  · rcases mul_neg_iff.1 h with h2 | h2
    · exact ng_true.2 h2.1
    · omega
  · refine ng_false.2 ?_
    rcases Int.lt_or_le x 0 with h2 | h2
    · rcases Nat.eq_zero_or_pos b with h3 | h3
      · subst h3; simp at h
      · have := mul_neg_iff.2 (.inl ⟨h2, show (0 : Int) < (b : Int) by omega⟩); omega
    · exact h2
/-! ### the whole number and the rest -/
def rInt (n : Bool) (z : List Int) : Bool × List Int × List Int × Bool := rMake n z (ng 1) (dg (1 : Int).natAbs)
theorem rInt_len {n : Bool} {z : List Int} : (rInt n z).2.1.length ≤ 18 ∧ (rInt n z).2.2.1.length ≤ 18 := rMake_len
def rRest (n : Bool) (z y : List Int) (m : Int) : (Bool × List Int) × (Bool × List Int × List Int) × Bool :=
  if (rRound n z y m).2.2 = true ∧ (rInt (rRound n z y m).1 (rRound n z y m).2.1).2.2.2 = true ∧ (rSub n z y (rInt (rRound n z y m).1 (rRound n z y m).2.1).1 (rInt (rRound n z y m).1 (rRound n z y m).2.1).2.1 (rInt (rRound n z y m).1 (rRound n z y m).2.1).2.2.1).2.2.2 = true then
    (((rRound n z y m).1, (rRound n z y m).2.1), ((rSub n z y (rInt (rRound n z y m).1 (rRound n z y m).2.1).1 (rInt (rRound n z y m).1 (rRound n z y m).2.1).2.1 (rInt (rRound n z y m).1 (rRound n z y m).2.1).2.2.1).1, (rSub n z y (rInt (rRound n z y m).1 (rRound n z y m).2.1).1 (rInt (rRound n z y m).1 (rRound n z y m).2.1).2.1 (rInt (rRound n z y m).1 (rRound n z y m).2.1).2.2.1).2.1, (rSub n z y (rInt (rRound n z y m).1 (rRound n z y m).2.1).1 (rInt (rRound n z y m).1 (rRound n z y m).2.1).2.1 (rInt (rRound n z y m).1 (rRound n z y m).2.1).2.2.1).2.2.1), true)
  else ((false, []), (false, [], []), false)
theorem rRest_ok {n : Bool} {z y : List Int} {m : Int} (h1 : (rRound n z y m).2.2 = true) (h2 : (rInt (rRound n z y m).1 (rRound n z y m).2.1).2.2.2 = true) (h3 : (rSub n z y (rInt (rRound n z y m).1 (rRound n z y m).2.1).1 (rInt (rRound n z y m).1 (rRound n z y m).2.1).2.1 (rInt (rRound n z y m).1 (rRound n z y m).2.1).2.2.1).2.2.2 = true) :
    rRest n z y m = (((rRound n z y m).1, (rRound n z y m).2.1), ((rSub n z y (rInt (rRound n z y m).1 (rRound n z y m).2.1).1 (rInt (rRound n z y m).1 (rRound n z y m).2.1).2.1 (rInt (rRound n z y m).1 (rRound n z y m).2.1).2.2.1).1, (rSub n z y (rInt (rRound n z y m).1 (rRound n z y m).2.1).1 (rInt (rRound n z y m).1 (rRound n z y m).2.1).2.1 (rInt (rRound n z y m).1 (rRound n z y m).2.1).2.2.1).2.1, (rSub n z y (rInt (rRound n z y m).1 (rRound n z y m).2.1).1 (rInt (rRound n z y m).1 (rRound n z y m).2.1).2.1 (rInt (rRound n z y m).1 (rRound n z y m).2.1).2.2.1).2.2.1), true) := by
  unfold rRest; rw [if_pos ⟨h1, h2, h3⟩]
theorem rRest_no {n : Bool} {z y : List Int} {m : Int} (h : ¬ ((rRound n z y m).2.2 = true ∧ (rInt (rRound n z y m).1 (rRound n z y m).2.1).2.2.2 = true ∧ (rSub n z y (rInt (rRound n z y m).1 (rRound n z y m).2.1).1 (rInt (rRound n z y m).1 (rRound n z y m).2.1).2.1 (rInt (rRound n z y m).1 (rRound n z y m).2.1).2.2.1).2.2.2 = true)) :
    rRest n z y m = ((false, []), (false, [], []), false) := by unfold rRest; rw [if_neg h]
theorem rRest_len {n : Bool} {z y : List Int} {m : Int} : (rRest n z y m).1.2.length ≤ 19 ∧ (rRest n z y m).2.1.2.1.length ≤ 18 ∧ (rRest n z y m).2.1.2.2.length ≤ 18 := by
  unfold rRest; split
  · exact ⟨rRound_len, rSub_len.1, rSub_len.2⟩
  · exact ⟨by simp, by simp, by simp⟩
/-! ### decimals of another scale, fractions as decimals -/
def noD : Bool × List Int × Int × Bool := (false, [], 0, false)
def dAt (n : Bool) (z : List Int) (p q : Int) : Bool × List Int × Int × Bool :=
  if DOk n z p ∧ (0 ≤ q ∧ q ≤ 30) then
    if p ≤ q then decR (vI n z * tenI (q - p)) q
    else if vl z % 10 ^ (p - q).toNat = 0 then decR (sgI n (vl z / 10 ^ (p - q).toNat)) q else noD
  else noD
theorem dAt_no {n : Bool} {z : List Int} {p q : Int} (h : ¬ (DOk n z p ∧ (0 ≤ q ∧ q ≤ 30))) : dAt n z p q = noD := by unfold dAt; rw [if_neg h]
theorem dAt_up {x p q : Int} (h : DOk (ng x) (dg x.natAbs) p) (hq : 0 ≤ q ∧ q ≤ 30) (hpq : p ≤ q) : dAt (ng x) (dg x.natAbs) p q = decR (x * tenI (q - p)) q := by unfold dAt; rw [if_pos ⟨h, hq⟩, if_pos hpq, vI_ng]
theorem dAt_dn {x p q : Int} (h : DOk (ng x) (dg x.natAbs) p) (hq : 0 ≤ q ∧ q ≤ 30) (hpq : ¬ p ≤ q) (hr : x.natAbs % 10 ^ (p - q).toNat = 0) : dAt (ng x) (dg x.natAbs) p q = decR (sgI (ng x) (x.natAbs / 10 ^ (p - q).toNat)) q := by unfold dAt; rw [if_pos ⟨h, hq⟩, if_neg hpq, vl_dg, if_pos hr]
theorem dAt_rest {x p q : Int} (h : DOk (ng x) (dg x.natAbs) p) (hq : 0 ≤ q ∧ q ≤ 30) (hpq : ¬ p ≤ q) (hr : ¬ x.natAbs % 10 ^ (p - q).toNat = 0) : dAt (ng x) (dg x.natAbs) p q = noD := by unfold dAt; rw [if_pos ⟨h, hq⟩, if_neg hpq, vl_dg, if_neg hr]
theorem dAt_len {n : Bool} {z : List Int} {p q : Int} : (dAt n z p q).2.1.length ≤ 6 := by
  unfold dAt; split
  · split
    · exact decR_len _ _
    · split
      · exact decR_len _ _
      · simp [noD]
  · simp [noD]
/-- without a rest the sign stays -/
theorem dn_sg {x : Int} {k : Nat} (hk : 0 < k) (h : x.natAbs % k = 0) : ng x = ng (sgI (ng x) (x.natAbs / k)) := by
  rw [← ng_sgI, nz_dg]
  by_cases hx : x < 0
  · rw [ng_true.2 hx]
    have : 0 < x.natAbs / k := by
      apply Nat.div_pos _ hk
      exact Nat.le_of_dvd (by omega) (Nat.dvd_of_mod_eq_zero h)
    simp [this]
  · rw [ng_false.2 (by omega)]; rfl
theorem dAt_self {x p : Int} (h : DOk (ng x) (dg x.natAbs) p) : (dAt (ng x) (dg x.natAbs) p p).2.2.2 = true := by
  have h' := DOk_iff.1 h
  rw [dAt_up h (by omega) (Int.le_refl p)]
  have e : tenI (p - p) = 1 := by rw [Int.sub_self]; rfl
  rw [e, Int.mul_one, decR_ok h]
/-- the lowest scale -/
def dLow (n : Bool) (z : List Int) (p : Int) : Bool × List Int × Int × Bool :=
  match (List.range 31).find? (fun q => (dAt n z p (q : Nat)).2.2.2) with
  | some q => dAt n z p (q : Nat)
  | none => noD
theorem find_range_some {f : Nat → Bool} {N k : Nat} (hk : k < N) (hn : ∀ i, i < k → f i = false) (hp : f k = true) : (List.range N).find? f = some k := by
  rw [List.find?_eq_some_iff_getElem]
  refine ⟨hp, k, by simpa using hk, by simp, fun j hj => ?_⟩
  simp [hn j hj]
theorem find_range_none {f : Nat → Bool} {N : Nat} (hn : ∀ i, i < N → f i = false) : (List.range N).find? f = none := by
  rw [List.find?_eq_none]
  intro x hx
  simp [hn x (by simpa using hx)]
theorem dLow_some {n : Bool} {z : List Int} {p : Int} {k : Nat} (hk : k < 31) (hn : ∀ i : Nat, i < k → (dAt n z p (i : Nat)).2.2.2 = false) (hp : (dAt n z p (k : Nat)).2.2.2 = true) : dLow n z p = dAt n z p (k : Nat) := by
  unfold dLow; rw [find_range_some (f := fun q => (dAt n z p (q : Nat)).2.2.2) hk hn hp]
theorem dLow_none {n : Bool} {z : List Int} {p : Int} (hn : ∀ i : Nat, i < 31 → (dAt n z p (i : Nat)).2.2.2 = false) : dLow n z p = noD := by
  unfold dLow; rw [find_range_none (f := fun q => (dAt n z p (q : Nat)).2.2.2) hn]
theorem dLow_bad {n : Bool} {z : List Int} {p : Int} {k : Nat} (hn : ∀ i : Nat, i < k → (dAt n z p (i : Nat)).2.2.2 = false) (hk : ¬ ((k : Int) ≤ p ∧ (k : Int) ≤ 30)) : dLow n z p = noD := by
  by_cases hD : DOk n z p
  · exfalso
    obtain ⟨x, rfl, rfl, h1, h2, h3⟩ := hD.int
    have := hn p.toNat (by omega)
    rw [show ((p.toNat : Nat) : Int) = p by omega, dAt_self hD] at this
    cases this
  · exact dLow_none fun i _ => by rw [dAt_no (fun h => hD h.1)]; rfl
theorem dLow_len {n : Bool} {z : List Int} {p : Int} : (dLow n z p).2.1.length ≤ 6 := by
  unfold dLow; split
  · exact dAt_len
  · simp [noD]
theorem low_next {n : Bool} {z : List Int} {p : Int} {k : Nat} (hn : ∀ i : Nat, i < k → (dAt n z p (i : Nat)).2.2.2 = false) (h : (dAt n z p (k : Nat)).2.2.2 = false) : ∀ i : Nat, i < k + 1 → (dAt n z p (i : Nat)).2.2.2 = false := fun i hi => by
  by_cases e : i = k
  · subst e; exact h
  · exact hn i (by omega)
def rDec (n : Bool) (z y : List Int) (q m : Int) : Bool × List Int × Int × Bool :=
  if ROk n z y ∧ (0 ≤ q ∧ q ≤ 30) ∧ (0 ≤ m ∧ m ≤ 6) then decR (rqI (vI n z * tenI q) (vl y) m) q else noD
theorem rDec_no {n : Bool} {z y : List Int} {q m : Int} (h : ¬ (ROk n z y ∧ (0 ≤ q ∧ q ≤ 30) ∧ (0 ≤ m ∧ m ≤ 6))) : rDec n z y q m = noD := by unfold rDec; rw [if_neg h]
theorem rDec_ok {x : Int} {e : Nat} {q m : Int} (h : ROk (ng x) (dg x.natAbs) (dg e) ∧ (0 ≤ q ∧ q ≤ 30) ∧ (0 ≤ m ∧ m ≤ 6)) : rDec (ng x) (dg x.natAbs) (dg e) q m = decR (rqI (x * tenI q) e m) q := by unfold rDec; rw [if_pos h, vI_ng, vl_dg]
theorem rDec_len {n : Bool} {z y : List Int} {q m : Int} : (rDec n z y q m).2.1.length ≤ 6 := by
  unfold rDec; split
  · exact decR_len _ _
  · simp [noD]
def dDiv (n1 : Bool) (z1 : List Int) (p1 : Int) (n2 : Bool) (z2 : List Int) (p2 q m : Int) : Bool × List Int × Int × Bool :=
  if (rDiv (dRat n1 z1 p1).1 (dRat n1 z1 p1).2.1 (dRat n1 z1 p1).2.2.1 (dRat n2 z2 p2).1 (dRat n2 z2 p2).2.1 (dRat n2 z2 p2).2.2.1).2.2.2 = true then
    rDec (rDiv (dRat n1 z1 p1).1 (dRat n1 z1 p1).2.1 (dRat n1 z1 p1).2.2.1 (dRat n2 z2 p2).1 (dRat n2 z2 p2).2.1 (dRat n2 z2 p2).2.2.1).1 (rDiv (dRat n1 z1 p1).1 (dRat n1 z1 p1).2.1 (dRat n1 z1 p1).2.2.1 (dRat n2 z2 p2).1 (dRat n2 z2 p2).2.1 (dRat n2 z2 p2).2.2.1).2.1 (rDiv (dRat n1 z1 p1).1 (dRat n1 z1 p1).2.1 (dRat n1 z1 p1).2.2.1 (dRat n2 z2 p2).1 (dRat n2 z2 p2).2.1 (dRat n2 z2 p2).2.2.1).2.2.1 q m
  else noD
theorem dDiv_len {n1 : Bool} {z1 : List Int} {p1 : Int} {n2 : Bool} {z2 : List Int} {p2 q m : Int} : (dDiv n1 z1 p1 n2 z2 p2 q m).2.1.length ≤ 6 := by
  unfold dDiv; split
  · exact rDec_len
  · simp [noD]
end Go.Proofs.YtoeclobdbblohaaDoor
namespace Go.Proofs.YtoeclobdbblohaaDoor
def rNeg (n : Bool) (z y : List Int) : Bool × List Int × List Int × Bool := if ROk n z y then (ng (-vI n z), dg (-vI n z).natAbs, y, true) else noR
theorem rNeg_no {n : Bool} {z y : List Int} (h : ¬ ROk n z y) : rNeg n z y = noR := by unfold rNeg; rw [if_neg h]
theorem rNeg_ok {x : Int} {e : Nat} (h : ROk (ng x) (dg x.natAbs) (dg e)) : rNeg (ng x) (dg x.natAbs) (dg e) = (ng (-x), dg (-x).natAbs, dg e, true) := by unfold rNeg; rw [if_pos h, vI_ng]
theorem rNeg_len {n : Bool} {z y : List Int} : (rNeg n z y).2.1.length ≤ 18 ∧ (rNeg n z y).2.2.1.length ≤ 18 := by
  unfold rNeg; split
  · rename_i h
    obtain ⟨x, e, rfl, rfl, rfl, h0, h1, h2, h3⟩ := h.rat
    rw [vI_ng]
    exact ⟨by show (dg (-x).natAbs).length ≤ 18; rw [Int.natAbs_neg]; exact h1, h2⟩
  · exact ⟨by simp [noR], by simp [noR]⟩
theorem rNeg_is {n : Bool} {z y : List Int} (h : (rNeg n z y).2.2.2 = true) : ROk n z y := by
  unfold rNeg at h; split at h
  · assumption
  · cases h
theorem rSub_neg {n1 n2 : Bool} {z1 y1 z2 y2 : List Int} (h : (rNeg n2 z2 y2).2.2.2 = true) : rSub n1 z1 y1 n2 z2 y2 = rAdd n1 z1 y1 (rNeg n2 z2 y2).1 (rNeg n2 z2 y2).2.1 (rNeg n2 z2 y2).2.2.1 := by
  have hR := rNeg_is h
  obtain ⟨x, e, rfl, rfl, rfl, _⟩ := hR.rat
  rw [rNeg_ok hR, rSub_any hR]
theorem rSub_bad {n1 n2 : Bool} {z1 y1 z2 y2 : List Int} (h : (rNeg n2 z2 y2).2.2.2 = false) : rSub n1 z1 y1 n2 z2 y2 = noR := by
  refine rSub_no fun h' => ?_
  obtain ⟨x, e, rfl, rfl, rfl, _⟩ := h'.2.rat
  rw [rNeg_ok h'.2] at h; cases h
theorem natAbs_ten (x q : Int) : (x * tenI q).natAbs = x.natAbs * 10 ^ q.toNat := by rw [Int.natAbs_mul, tenI_abs]
theorem ng_ten (x q : Int) : ng (x * tenI q) = ng x := by
  have h := tenI_pos q
  unfold ng
  rw [decide_eq_decide]
  constructor
  · intro h1
    rcases mul_neg_iff.1 h1 with h2 | h2
    · exact h2.1
    · omega
  · intro h1; exact mul_neg_iff.2 (.inl ⟨h1, h⟩)
end Go.Proofs.YtoeclobdbblohaaDoor
namespace Go.Proofs.YtoeclobdbblohaaDoor
theorem bnot_f {b : Bool} (h : (!b) = false) : b = true := by cases b; cases h; rfl
theorem bnot_t {b : Bool} (h : (!b) = true) : b = false := by cases b; rfl; cases h
theorem bcl {b : Bool} (h : b = true) (h2 : (!b) = true) : False := by rw [h] at h2; cases h2
end Go.Proofs.YtoeclobdbblohaaDoor
namespace Go.Proofs.YtoeclobdbblohaaDoor
attribute [irreducible] rRest dDiv
end Go.Proofs.YtoeclobdbblohaaDoor
