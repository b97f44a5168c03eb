/- Plain lemmas on numbers and lists; no program in sight. Conditions: none. -/
import Derived.Test.YtjkeefmpjocilaaNatB
import Derived.Test.YtjkeefmpjocilaaSxB
set_option linter.unusedVariables false
set_option linter.unusedSimpArgs false
namespace Go.Proofs.Ytjkeefmpjocilaa
open Go Go.RowKit
theorem Sv.nilD (w : World) (lo hi : Nat) : Sl w lo hi (.slice none 0 0) (dg 0) := by rw [dg_zero]; exact Sv.nil w lo hi 1
theorem Sv.nil0 (w : World) (lo hi : Nat) : Sl w lo hi (.slice none 0 0) (dg (0 : Int).natAbs) := Sv.nilD w lo hi
theorem sign_gt {x : Int} : 0 < x.sign ↔ 0 < x := by
  rcases Int.lt_trichotomy x 0 with h | h | h
  · rw [Int.sign_eq_neg_one_of_neg h]; omega
  · subst h; simp
  · rw [Int.sign_eq_one_of_pos h]; omega
theorem cmpI_gt0 {x : Int} : 0 < cmpI x 0 ↔ 0 < x := by unfold cmpI; split <;> (try split) <;> simp <;> omega
/-! ### rates -/
def RateP (f t : ByteArray) (n : Bool) (z : List Int) (p : Int) : Prop := Known f ∧ Known t ∧ f ≠ t ∧ DOk n z p ∧ 0 < vI n z ∧ z.length ≤ 2
instance (f t : ByteArray) (n : Bool) (z : List Int) (p : Int) : Decidable (RateP f t n z p) := by unfold RateP; infer_instance
/-! ### units of currencies -/
def cUnit (s : ByteArray) : Bool × List Int × List Int × Bool := if Known s then (false, dg (10 ^ (curOf s).places.toNat), [1], true) else noR
theorem cUnit_ok {s : ByteArray} (h : Known s) : cUnit s = (false, dg (10 ^ (curOf s).places.toNat), [1], true) := by unfold cUnit; rw [if_pos h]
theorem cUnit_no {s : ByteArray} (h : ¬ Known s) : cUnit s = noR := by unfold cUnit; rw [if_neg h]
theorem cUnit_len {s : ByteArray} : (cUnit s).2.1.length ≤ 18 ∧ (cUnit s).2.2.1.length ≤ 18 := by
  unfold cUnit; split
  · exact ⟨Nat.le_trans (ten_len' (by have := cur_places s; omega)) (by omega), by simp⟩
  · exact ⟨by simp [noR], by simp [noR]⟩
end Go.Proofs.Ytjkeefmpjocilaa

namespace Go.Proofs.Ytjkeefmpjocilaa
def rAdd (n1 : Bool) (z1 y1 : List Int) (n2 : Bool) (z2 y2 : List Int) : Bool × List Int × List Int × Bool :=
  if ROk n1 z1 y1 ∧ ROk n2 z2 y2 then rR (vI n1 z1 * (vl y2 : Nat) + vI n2 z2 * (vl y1 : Nat)) (vl y1 * vl y2) else noR
theorem rAdd_no {n1 n2 : Bool} {z1 y1 z2 y2 : List Int} (h : ¬ (ROk n1 z1 y1 ∧ ROk n2 z2 y2)) : rAdd n1 z1 y1 n2 z2 y2 = noR := by unfold rAdd; rw [if_neg h]
theorem rAdd_ok {x1 x2 : Int} {e1 e2 : Nat} (h1 : ROk (ng x1) (dg x1.natAbs) (dg e1)) (h2 : ROk (ng x2) (dg x2.natAbs) (dg e2)) :
    rAdd (ng x1) (dg x1.natAbs) (dg e1) (ng x2) (dg x2.natAbs) (dg e2) = rR (x1 * (e2 : Int) + x2 * (e1 : Int)) (e1 * e2) := by unfold rAdd; rw [if_pos ⟨h1, h2⟩, vI_ng, vI_ng, vl_dg, vl_dg]
theorem rAdd_len {n1 n2 : Bool} {z1 y1 z2 y2 : List Int} : (rAdd n1 z1 y1 n2 z2 y2).2.1.length ≤ 18 ∧ (rAdd n1 z1 y1 n2 z2 y2).2.2.1.length ≤ 18 := by
  unfold rAdd; split
  · exact rR_len
  · exact ⟨by simp [noR], by simp [noR]⟩
def rSub (n1 : Bool) (z1 y1 : List Int) (n2 : Bool) (z2 y2 : List Int) : Bool × List Int × List Int × Bool :=
  if ROk n1 z1 y1 ∧ ROk n2 z2 y2 then rAdd n1 z1 y1 (ng (-vI n2 z2)) (dg (-vI n2 z2).natAbs) y2 else noR
theorem rSub_no {n1 n2 : Bool} {z1 y1 z2 y2 : List Int} (h : ¬ (ROk n1 z1 y1 ∧ ROk n2 z2 y2)) : rSub n1 z1 y1 n2 z2 y2 = noR := by unfold rSub; rw [if_neg h]
theorem rSub_ok {n1 : Bool} {z1 y1 : List Int} {x2 : Int} {e2 : Nat} (h1 : ROk n1 z1 y1) (h2 : ROk (ng x2) (dg x2.natAbs) (dg e2)) :
    rSub n1 z1 y1 (ng x2) (dg x2.natAbs) (dg e2) = rAdd n1 z1 y1 (ng (-x2)) (dg (-x2).natAbs) (dg e2) := by unfold rSub; rw [if_pos ⟨h1, h2⟩, vI_ng]
theorem rSub_any {n1 : Bool} {z1 y1 : List Int} {x2 : Int} {e2 : Nat} (h2 : ROk (ng x2) (dg x2.natAbs) (dg e2)) :
    rSub n1 z1 y1 (ng x2) (dg x2.natAbs) (dg e2) = rAdd n1 z1 y1 (ng (-x2)) (dg (-x2).natAbs) (dg e2) := by
  by_cases h1 : ROk n1 z1 y1
  · exact rSub_ok h1 h2
  · rw [rSub_no (fun h => h1 h.1), rAdd_no (fun h => h1 h.1)]
theorem rSub_len {n1 n2 : Bool} {z1 y1 z2 y2 : List Int} : (rSub n1 z1 y1 n2 z2 y2).2.1.length ≤ 18 ∧ (rSub n1 z1 y1 n2 z2 y2).2.2.1.length ≤ 18 := by
  unfold rSub; split
  · exact rAdd_len
  · exact ⟨by simp [noR], by simp [noR]⟩
theorem ROk_neg {x : Int} {e : Nat} (h : ROk (ng x) (dg x.natAbs) (dg e)) : ROk (ng (-x)) (dg (-x).natAbs) (dg e) := by
  rw [ROk_iff] at h ⊢; rw [Int.natAbs_neg]; exact h
def rMul (n1 : Bool) (z1 y1 : List Int) (n2 : Bool) (z2 y2 : List Int) : Bool × List Int × List Int × Bool :=
  if ROk n1 z1 y1 ∧ ROk n2 z2 y2 then rR (sgI (n1 != n2) (vl z1 * vl z2)) (vl y1 * vl y2) else noR
theorem rMul_no {n1 n2 : Bool} {z1 y1 z2 y2 : List Int} (h : ¬ (ROk n1 z1 y1 ∧ ROk n2 z2 y2)) : rMul n1 z1 y1 n2 z2 y2 = noR := by unfold rMul; rw [if_neg h]
theorem rMul_ok {x1 x2 : Int} {e1 e2 : Nat} (h1 : ROk (ng x1) (dg x1.natAbs) (dg e1)) (h2 : ROk (ng x2) (dg x2.natAbs) (dg e2)) :
    rMul (ng x1) (dg x1.natAbs) (dg e1) (ng x2) (dg x2.natAbs) (dg e2) = rR (sgI (ng x1 != ng x2) (x1.natAbs * x2.natAbs)) (e1 * e2) := by unfold rMul; rw [if_pos ⟨h1, h2⟩, vl_dg, vl_dg, vl_dg, vl_dg]
theorem rMul_len {n1 n2 : Bool} {z1 y1 z2 y2 : List Int} : (rMul n1 z1 y1 n2 z2 y2).2.1.length ≤ 18 ∧ (rMul n1 z1 y1 n2 z2 y2).2.2.1.length ≤ 18 := by
  unfold rMul; split
  · exact rR_len
  · exact ⟨by simp [noR], by simp [noR]⟩
def rDiv (n1 : Bool) (z1 y1 : List Int) (n2 : Bool) (z2 y2 : List Int) : Bool × List Int × List Int × Bool :=
  if ROk n1 z1 y1 ∧ ROk n2 z2 y2 then rR (sgI (n1 != n2) (vl z1 * vl y2)) (vl y1 * vl z2) else noR
theorem rDiv_no {n1 n2 : Bool} {z1 y1 z2 y2 : List Int} (h : ¬ (ROk n1 z1 y1 ∧ ROk n2 z2 y2)) : rDiv n1 z1 y1 n2 z2 y2 = noR := by unfold rDiv; rw [if_neg h]
theorem rDiv_ok {x1 x2 : Int} {e1 e2 : Nat} (h1 : ROk (ng x1) (dg x1.natAbs) (dg e1)) (h2 : ROk (ng x2) (dg x2.natAbs) (dg e2)) :
    rDiv (ng x1) (dg x1.natAbs) (dg e1) (ng x2) (dg x2.natAbs) (dg e2) = rR (sgI (ng x1 != ng x2) (x1.natAbs * e2)) (e1 * x2.natAbs) := by unfold rDiv; rw [if_pos ⟨h1, h2⟩, vl_dg, vl_dg, vl_dg, vl_dg]
theorem rDiv_len {n1 n2 : Bool} {z1 y1 z2 y2 : List Int} : (rDiv n1 z1 y1 n2 z2 y2).2.1.length ≤ 18 ∧ (rDiv n1 z1 y1 n2 z2 y2).2.2.1.length ≤ 18 := by
  unfold rDiv; split
  · exact rR_len
  · exact ⟨by simp [noR], by simp [noR]⟩
theorem mul_nat_sg (x : Int) (b : Nat) : nz (ng x) (dg (x.natAbs * b)) = ng (x * (b : Int)) ∧ dg (x.natAbs * b) = dg (x * (b : Int)).natAbs := by
  refine sg_eq (by rw [Int.natAbs_mul, Int.natAbs_natCast]) (fun h => ?_) (fun h => ?_)
  · rcases mul_neg_iff.1 h with h2 | h2
    · exact ng_true.2 h2.1
    · omega
  · refine ng_false.2 ?_
    rcases Int.lt_or_le x 0 with h2 | h2
    · rcases Nat.eq_zero_or_pos b with h3 | h3
      · subst h3; simp at h
      · have := mul_neg_iff.2 (.inl ⟨h2, show (0 : Int) < (b : Int) by omega⟩); omega
    · exact h2
def rInt (n : Bool) (z : List Int) : Bool × List Int × List Int × Bool := rMake n z (ng 1) (dg (1 : Int).natAbs)
theorem rInt_len {n : Bool} {z : List Int} : (rInt n z).2.1.length ≤ 18 ∧ (rInt n z).2.2.1.length ≤ 18 := rMake_len
def rRest (n : Bool) (z y : List Int) (m : Int) : (Bool × List Int) × (Bool × List Int × List Int) × Bool :=
  if (rRound n z y m).2.2 = true ∧ (rInt (rRound n z y m).1 (rRound n z y m).2.1).2.2.2 = true ∧ (rSub n z y (rInt (rRound n z y m).1 (rRound n z y m).2.1).1 (rInt (rRound n z y m).1 (rRound n z y m).2.1).2.1 (rInt (rRound n z y m).1 (rRound n z y m).2.1).2.2.1).2.2.2 = true then
    (((rRound n z y m).1, (rRound n z y m).2.1), ((rSub n z y (rInt (rRound n z y m).1 (rRound n z y m).2.1).1 (rInt (rRound n z y m).1 (rRound n z y m).2.1).2.1 (rInt (rRound n z y m).1 (rRound n z y m).2.1).2.2.1).1, (rSub n z y (rInt (rRound n z y m).1 (rRound n z y m).2.1).1 (rInt (rRound n z y m).1 (rRound n z y m).2.1).2.1 (rInt (rRound n z y m).1 (rRound n z y m).2.1).2.2.1).2.1, (rSub n z y (rInt (rRound n z y m).1 (rRound n z y m).2.1).1 (rInt (rRound n z y m).1 (rRound n z y m).2.1).2.1 (rInt (rRound n z y m).1 (rRound n z y m).2.1).2.2.1).2.2.1), true)
  else ((false, []), (false, [], []), false)
theorem rRest_ok {n : Bool} {z y : List Int} {m : Int} (h1 : (rRound n z y m).2.2 = true) (h2 : (rInt (rRound n z y m).1 (rRound n z y m).2.1).2.2.2 = true) (h3 : (rSub n z y (rInt (rRound n z y m).1 (rRound n z y m).2.1).1 (rInt (rRound n z y m).1 (rRound n z y m).2.1).2.1 (rInt (rRound n z y m).1 (rRound n z y m).2.1).2.2.1).2.2.2 = true) :
    rRest n z y m = (((rRound n z y m).1, (rRound n z y m).2.1), ((rSub n z y (rInt (rRound n z y m).1 (rRound n z y m).2.1).1 (rInt (rRound n z y m).1 (rRound n z y m).2.1).2.1 (rInt (rRound n z y m).1 (rRound n z y m).2.1).2.2.1).1, (rSub n z y (rInt (rRound n z y m).1 (rRound n z y m).2.1).1 (rInt (rRound n z y m).1 (rRound n z y m).2.1).2.1 (rInt (rRound n z y m).1 (rRound n z y m).2.1).2.2.1).2.1, (rSub n z y (rInt (rRound n z y m).1 (rRound n z y m).2.1).1 (rInt (rRound n z y m).1 (rRound n z y m).2.1).2.1 (rInt (rRound n z y m).1 (rRound n z y m).2.1).2.2.1).2.2.1), true) := by
  unfold rRest; rw [if_pos ⟨h1, h2, h3⟩]
theorem rRest_no {n : Bool} {z y : List Int} {m : Int} (h : ¬ ((rRound n z y m).2.2 = true ∧ (rInt (rRound n z y m).1 (rRound n z y m).2.1).2.2.2 = true ∧ (rSub n z y (rInt (rRound n z y m).1 (rRound n z y m).2.1).1 (rInt (rRound n z y m).1 (rRound n z y m).2.1).2.1 (rInt (rRound n z y m).1 (rRound n z y m).2.1).2.2.1).2.2.2 = true)) :
    rRest n z y m = ((false, []), (false, [], []), false) := by unfold rRest; rw [if_neg h]
theorem rRest_len {n : Bool} {z y : List Int} {m : Int} : (rRest n z y m).1.2.length ≤ 19 ∧ (rRest n z y m).2.1.2.1.length ≤ 18 ∧ (rRest n z y m).2.1.2.2.length ≤ 18 := by
  unfold rRest; split
  · exact ⟨rRound_len, rSub_len.1, rSub_len.2⟩
  · exact ⟨by simp, by simp, by simp⟩
def noD : Bool × List Int × Int × Bool := (false, [], 0, false)
def dAt (n : Bool) (z : List Int) (p q : Int) : Bool × List Int × Int × Bool :=
  if DOk n z p ∧ (0 ≤ q ∧ q ≤ 30) then
    if p ≤ q then decR (vI n z * tenI (q - p)) q
    else if vl z % 10 ^ (p - q).toNat = 0 then decR (sgI n (vl z / 10 ^ (p - q).toNat)) q else noD
  else noD
theorem dAt_no {n : Bool} {z : List Int} {p q : Int} (h : ¬ (DOk n z p ∧ (0 ≤ q ∧ q ≤ 30))) : dAt n z p q = noD := by unfold dAt; rw [if_neg h]
theorem dAt_up {x p q : Int} (h : DOk (ng x) (dg x.natAbs) p) (hq : 0 ≤ q ∧ q ≤ 30) (hpq : p ≤ q) : dAt (ng x) (dg x.natAbs) p q = decR (x * tenI (q - p)) q := by unfold dAt; rw [if_pos ⟨h, hq⟩, if_pos hpq, vI_ng]
theorem dAt_dn {x p q : Int} (h : DOk (ng x) (dg x.natAbs) p) (hq : 0 ≤ q ∧ q ≤ 30) (hpq : ¬ p ≤ q) (hr : x.natAbs % 10 ^ (p - q).toNat = 0) : dAt (ng x) (dg x.natAbs) p q = decR (sgI (ng x) (x.natAbs / 10 ^ (p - q).toNat)) q := by unfold dAt; rw [if_pos ⟨h, hq⟩, if_neg hpq, vl_dg, if_pos hr]
theorem dAt_rest {x p q : Int} (h : DOk (ng x) (dg x.natAbs) p) (hq : 0 ≤ q ∧ q ≤ 30) (hpq : ¬ p ≤ q) (hr : ¬ x.natAbs % 10 ^ (p - q).toNat = 0) : dAt (ng x) (dg x.natAbs) p q = noD := by unfold dAt; rw [if_pos ⟨h, hq⟩, if_neg hpq, vl_dg, if_neg hr]
theorem dAt_len {n : Bool} {z : List Int} {p q : Int} : (dAt n z p q).2.1.length ≤ 6 := by
  unfold dAt; split
  · split
    · exact decR_len _ _
    · split
      · exact decR_len _ _
      · simp [noD]
  · simp [noD]
theorem dn_sg {x : Int} {k : Nat} (hk : 0 < k) (h : x.natAbs % k = 0) : ng x = ng (sgI (ng x) (x.natAbs / k)) := by
  rw [← ng_sgI, nz_dg]
  by_cases hx : x < 0
  · rw [ng_true.2 hx]
    have : 0 < x.natAbs / k := by
      apply Nat.div_pos _ hk
      exact Nat.le_of_dvd (by omega) (Nat.dvd_of_mod_eq_zero h)
    simp [this]
  · rw [ng_false.2 (by omega)]; rfl
theorem dAt_self {x p : Int} (h : DOk (ng x) (dg x.natAbs) p) : (dAt (ng x) (dg x.natAbs) p p).2.2.2 = true := by
  have h' := DOk_iff.1 h
  rw [dAt_up h (by omega) (Int.le_refl p)]
  have e : tenI (p - p) = 1 := by rw [Int.sub_self]; rfl
  rw [e, Int.mul_one, decR_ok h]
def dLow (n : Bool) (z : List Int) (p : Int) : Bool × List Int × Int × Bool :=
  match (List.range 31).find? (fun q => (dAt n z p (q : Nat)).2.2.2) with
  | some q => dAt n z p (q : Nat)
  | none => noD
theorem find_range_some {f : Nat → Bool} {N k : Nat} (hk : k < N) (hn : ∀ i, i < k → f i = false) (hp : f k = true) : (List.range N).find? f = some k := by
  rw [List.find?_eq_some_iff_getElem]
  refine ⟨hp, k, by simpa using hk, by simp, fun j hj => ?_⟩
  simp [hn j hj]
theorem find_range_none {f : Nat → Bool} {N : Nat} (hn : ∀ i, i < N → f i = false) : (List.range N).find? f = none := by
  rw [List.find?_eq_none]
  intro x hx
  simp [hn x (by simpa using hx)]
theorem dLow_some {n : Bool} {z : List Int} {p : Int} {k : Nat} (hk : k < 31) (hn : ∀ i : Nat, i < k → (dAt n z p (i : Nat)).2.2.2 = false) (hp : (dAt n z p (k : Nat)).2.2.2 = true) : dLow n z p = dAt n z p (k : Nat) := by
  unfold dLow; rw [find_range_some (f := fun q => (dAt n z p (q : Nat)).2.2.2) hk hn hp]
theorem dLow_none {n : Bool} {z : List Int} {p : Int} (hn : ∀ i : Nat, i < 31 → (dAt n z p (i : Nat)).2.2.2 = false) : dLow n z p = noD := by
  unfold dLow; rw [find_range_none (f := fun q => (dAt n z p (q : Nat)).2.2.2) hn]
theorem dLow_bad {n : Bool} {z : List Int} {p : Int} {k : Nat} (hn : ∀ i : Nat, i < k → (dAt n z p (i : Nat)).2.2.2 = false) (hk : ¬ ((k : Int) ≤ p ∧ (k : Int) ≤ 30)) : dLow n z p = noD := by
  by_cases hD : DOk n z p
  · exfalso
    obtain ⟨x, rfl, rfl, h1, h2, h3⟩ := hD.int
    have := hn p.toNat (by omega)
    rw [show ((p.toNat : Nat) : Int) = p by omega, dAt_self hD] at this
    cases this
  · exact dLow_none fun i _ => by rw [dAt_no (fun h => hD h.1)]; rfl
theorem dLow_len {n : Bool} {z : List Int} {p : Int} : (dLow n z p).2.1.length ≤ 6 := by
  unfold dLow; split
  · exact dAt_len
  · simp [noD]
theorem low_next {n : Bool} {z : List Int} {p : Int} {k : Nat} (hn : ∀ i : Nat, i < k → (dAt n z p (i : Nat)).2.2.2 = false) (h : (dAt n z p (k : Nat)).2.2.2 = false) : ∀ i : Nat, i < k + 1 → (dAt n z p (i : Nat)).2.2.2 = false := fun i hi => by
  by_cases e : i = k
  · subst e; exact h
  · exact hn i (by omega)
def rDec (n : Bool) (z y : List Int) (q m : Int) : Bool × List Int × Int × Bool :=
  if ROk n z y ∧ (0 ≤ q ∧ q ≤ 30) ∧ (0 ≤ m ∧ m ≤ 6) then decR (rqI (vI n z * tenI q) (vl y) m) q else noD
theorem rDec_no {n : Bool} {z y : List Int} {q m : Int} (h : ¬ (ROk n z y ∧ (0 ≤ q ∧ q ≤ 30) ∧ (0 ≤ m ∧ m ≤ 6))) : rDec n z y q m = noD := by unfold rDec; rw [if_neg h]
theorem rDec_ok {x : Int} {e : Nat} {q m : Int} (h : ROk (ng x) (dg x.natAbs) (dg e) ∧ (0 ≤ q ∧ q ≤ 30) ∧ (0 ≤ m ∧ m ≤ 6)) : rDec (ng x) (dg x.natAbs) (dg e) q m = decR (rqI (x * tenI q) e m) q := by unfold rDec; rw [if_pos h, vI_ng, vl_dg]
theorem rDec_len {n : Bool} {z y : List Int} {q m : Int} : (rDec n z y q m).2.1.length ≤ 6 := by
  unfold rDec; split
  · exact decR_len _ _
  · simp [noD]
def dDiv (n1 : Bool) (z1 : List Int) (p1 : Int) (n2 : Bool) (z2 : List Int) (p2 q m : Int) : Bool × List Int × Int × Bool :=
  if (rDiv (dRat n1 z1 p1).1 (dRat n1 z1 p1).2.1 (dRat n1 z1 p1).2.2.1 (dRat n2 z2 p2).1 (dRat n2 z2 p2).2.1 (dRat n2 z2 p2).2.2.1).2.2.2 = true then
    rDec (rDiv (dRat n1 z1 p1).1 (dRat n1 z1 p1).2.1 (dRat n1 z1 p1).2.2.1 (dRat n2 z2 p2).1 (dRat n2 z2 p2).2.1 (dRat n2 z2 p2).2.2.1).1 (rDiv (dRat n1 z1 p1).1 (dRat n1 z1 p1).2.1 (dRat n1 z1 p1).2.2.1 (dRat n2 z2 p2).1 (dRat n2 z2 p2).2.1 (dRat n2 z2 p2).2.2.1).2.1 (rDiv (dRat n1 z1 p1).1 (dRat n1 z1 p1).2.1 (dRat n1 z1 p1).2.2.1 (dRat n2 z2 p2).1 (dRat n2 z2 p2).2.1 (dRat n2 z2 p2).2.2.1).2.2.1 q m
  else noD
theorem dDiv_len {n1 : Bool} {z1 : List Int} {p1 : Int} {n2 : Bool} {z2 : List Int} {p2 q m : Int} : (dDiv n1 z1 p1 n2 z2 p2 q m).2.1.length ≤ 6 := by
  unfold dDiv; split
  · exact rDec_len
  · simp [noD]
end Go.Proofs.Ytjkeefmpjocilaa
namespace Go.Proofs.Ytjkeefmpjocilaa
def rNeg (n : Bool) (z y : List Int) : Bool × List Int × List Int × Bool := if ROk n z y then (ng (-vI n z), dg (-vI n z).natAbs, y, true) else noR
theorem rNeg_no {n : Bool} {z y : List Int} (h : ¬ ROk n z y) : rNeg n z y = noR := by unfold rNeg; rw [if_neg h]
theorem rNeg_ok {x : Int} {e : Nat} (h : ROk (ng x) (dg x.natAbs) (dg e)) : rNeg (ng x) (dg x.natAbs) (dg e) = (ng (-x), dg (-x).natAbs, dg e, true) := by unfold rNeg; rw [if_pos h, vI_ng]
theorem rNeg_len {n : Bool} {z y : List Int} : (rNeg n z y).2.1.length ≤ 18 ∧ (rNeg n z y).2.2.1.length ≤ 18 := by
  unfold rNeg; split
  · rename_i h
    obtain ⟨x, e, rfl, rfl, rfl, h0, h1, h2, h3⟩ := h.rat
    rw [vI_ng]
    exact ⟨by show (dg (-x).natAbs).length ≤ 18; rw [Int.natAbs_neg]; exact h1, h2⟩
  · exact ⟨by simp [noR], by simp [noR]⟩
theorem rNeg_is {n : Bool} {z y : List Int} (h : (rNeg n z y).2.2.2 = true) : ROk n z y := by
  unfold rNeg at h; split at h
  · assumption
  · cases h
theorem rSub_neg {n1 n2 : Bool} {z1 y1 z2 y2 : List Int} (h : (rNeg n2 z2 y2).2.2.2 = true) : rSub n1 z1 y1 n2 z2 y2 = rAdd n1 z1 y1 (rNeg n2 z2 y2).1 (rNeg n2 z2 y2).2.1 (rNeg n2 z2 y2).2.2.1 := by
  have hR := rNeg_is h
  obtain ⟨x, e, rfl, rfl, rfl, _⟩ := hR.rat
  rw [rNeg_ok hR, rSub_any hR]
theorem rSub_bad {n1 n2 : Bool} {z1 y1 z2 y2 : List Int} (h : (rNeg n2 z2 y2).2.2.2 = false) : rSub n1 z1 y1 n2 z2 y2 = noR := by
  refine rSub_no fun h' => ?_
  obtain ⟨x, e, rfl, rfl, rfl, _⟩ := h'.2.rat
  rw [rNeg_ok h'.2] at h; cases h
theorem natAbs_ten (x q : Int) : (x * tenI q).natAbs = x.natAbs * 10 ^ q.toNat := by rw [Int.natAbs_mul, tenI_abs]
theorem ng_ten (x q : Int) : ng (x * tenI q) = ng x := by
  have h := tenI_pos q
  unfold ng
  rw [decide_eq_decide]
  constructor
  · intro h1
    rcases mul_neg_iff.1 h1 with h2 | h2
    · exact h2.1
    · omega
  · intro h1; exact mul_neg_iff.2 (.inl ⟨h1, h⟩)
end Go.Proofs.Ytjkeefmpjocilaa
namespace Go.Proofs.Ytjkeefmpjocilaa
theorem bnot_f {b : Bool} (h : (!b) = false) : b = true := by cases b; cases h; rfl
theorem bnot_t {b : Bool} (h : (!b) = true) : b = false := by cases b; rfl; cases h
theorem bcl {b : Bool} (h : b = true) (h2 : (!b) = true) : False := by rw [h] at h2; cases h2
end Go.Proofs.Ytjkeefmpjocilaa
namespace Go.Proofs.Ytjkeefmpjocilaa
attribute [irreducible] rRest dDiv
end Go.Proofs.Ytjkeefmpjocilaa

namespace Go.Proofs.Ytjkeefmpjocilaa
open Go Go.RowKit
theorem rRest_int (n : Bool) (z y : List Int) (m : Int) : ∃ Q : Int, (rRest n z y m).1.1 = ng Q ∧ (rRest n z y m).1.2 = dg Q.natAbs := by
  unfold rRest; split
  · rename_i h
    have h1 := h.1
    unfold rRound at h1 ⊢
    split at h1
    · rename_i h2
      rw [if_pos h2]
      exact ⟨_, rfl, rfl⟩
    · cases h1
  · exact ⟨0, (ng_false.2 (Int.le_refl 0)).symm, by rw [Int.natAbs_zero, dg_zero]⟩
def rMon (c : ByteArray) (n : Bool) (z y : List Int) (m : Int) : (ByteArray × Bool × List Int) × (Bool × List Int × List Int) × Bool :=
  if (rRest n z y m).2.2 = true ∧ (mR c (vI (rRest n z y m).1.1 (rRest n z y m).1.2)).2.2.2 = true then
    (((mR c (vI (rRest n z y m).1.1 (rRest n z y m).1.2)).1, (mR c (vI (rRest n z y m).1.1 (rRest n z y m).1.2)).2.1, (mR c (vI (rRest n z y m).1.1 (rRest n z y m).1.2)).2.2.1), (rRest n z y m).2.1, true)
  else ((⟨#[]⟩, false, []), (false, [], []), false)
theorem rMon_ok {c : ByteArray} {n : Bool} {z y : List Int} {m Q : Int} (h1 : (rRest n z y m).1.1 = ng Q) (h2 : (rRest n z y m).1.2 = dg Q.natAbs) (h3 : (rRest n z y m).2.2 = true) (h4 : (mR c Q).2.2.2 = true) :
    rMon c n z y m = (((mR c Q).1, (mR c Q).2.1, (mR c Q).2.2.1), (rRest n z y m).2.1, true) := by
  unfold rMon; rw [h1, h2, vI_ng, if_pos ⟨h3, h4⟩]
theorem rMon_no {c : ByteArray} {n : Bool} {z y : List Int} {m Q : Int} (h1 : (rRest n z y m).1.1 = ng Q) (h2 : (rRest n z y m).1.2 = dg Q.natAbs) (h : ¬ ((rRest n z y m).2.2 = true ∧ (mR c Q).2.2.2 = true)) :
    rMon c n z y m = ((⟨#[]⟩, false, []), (false, [], []), false) := by
  unfold rMon; rw [h1, h2, vI_ng, if_neg h]
theorem rMon_len {c : ByteArray} {n : Bool} {z y : List Int} {m : Int} : (rMon c n z y m).1.2.2.length ≤ 4 ∧ (rMon c n z y m).2.1.2.1.length ≤ 18 ∧ (rMon c n z y m).2.1.2.2.length ≤ 18 := by
  unfold rMon; split
  · exact ⟨mR_len, rRest_len.2.1, rRest_len.2.2⟩
  · exact ⟨by simp, by simp, by simp⟩
def mRat (c : ByteArray) (n : Bool) (z : List Int) : Bool × List Int × List Int × Bool := if MOk c n z then (n, z, [1], true) else noR
theorem mRat_no {c : ByteArray} {n : Bool} {z : List Int} (h : ¬ MOk c n z) : mRat c n z = noR := by unfold mRat; rw [if_neg h]
theorem mRat_ok {c : ByteArray} {n : Bool} {z : List Int} (h : MOk c n z) : mRat c n z = (n, z, [1], true) := by unfold mRat; rw [if_pos h]
theorem mRat_len {c : ByteArray} {n : Bool} {z : List Int} : (mRat c n z).2.1.length ≤ 18 ∧ (mRat c n z).2.2.1.length ≤ 18 := by
  unfold mRat; split
  · rename_i h; exact ⟨Nat.le_trans h.2.2 (by decide), by simp⟩
  · exact ⟨by simp [noR], by simp [noR]⟩
theorem rInt_ok {x : Int} (h : (dg x.natAbs).length ≤ 18) : rInt (ng x) (dg x.natAbs) = (ng x, dg x.natAbs, [1], true) := by
  unfold rInt
  have e1 : ng (1 : Int) = false := ng_false.2 (by decide)
  have h1 : (dg (1 : Int).natAbs).length ≤ 1 := dg_len_le (by simp only [Bs]; decide)
  rw [rMake_ok (IOk_ng (by omega)) (IOk_ng (by omega)), e1, show (ng x != false) = ng x by cases ng x <;> rfl, sgI_ng]
  show rR x 1 = _
  rw [rR_same (ROk_iff.2 ⟨by decide, h, by rw [dg_1]; simp, Nat.gcd_one_right _⟩), dg_1]
theorem mRat_int {c : ByteArray} {n : Bool} {z : List Int} (h : MOk c n z) : rInt n z = mRat c n z := by
  obtain ⟨x, rfl, rfl, hx⟩ := h.int
  rw [mRat_ok h, rInt_ok (by omega)]
attribute [irreducible] rMon
end Go.Proofs.Ytjkeefmpjocilaa

namespace Go.Proofs.Ytjkeefmpjocilaa
open Go Go.RowKit
theorem cmpN_cases (a b : Nat) : (cmpN a b = -1 ∧ a < b) ∨ (cmpN a b = 0 ∧ a = b) ∨ (cmpN a b = 1 ∧ b < a) := by
  unfold cmpN
  by_cases h1 : a < b
  · exact .inl ⟨by rw [if_pos h1], h1⟩
  · rw [if_neg h1]
    by_cases h2 : a = b
    · exact .inr (.inl ⟨by simp [h2], h2⟩)
    · exact .inr (.inr ⟨by simp [h2], by omega⟩)
theorem rq_strict (x : Int) {d : Nat} (hd : 0 < d) (m : Int) : (x + -rqI x d m * (d : Int)).natAbs < d := by
  have h1 := Nat.div_add_mod x.natAbs d
  have h2 := Nat.mod_lt x.natAbs hd
  have h3 : rq x d m = x.natAbs / d ∨ (0 < x.natAbs % d ∧ rq x d m = x.natAbs / d + 1) := by
    unfold rq; split
    · rename_i h; exact .inr ⟨h.1, rfl⟩
    · exact .inl rfl
  have e0 : ((rq x d m : Nat) : Int) * (d : Int) = ((d * (rq x d m) : Nat) : Int) := by rw [Int.natCast_mul, Int.mul_comm]
  have h4 : d * rq x d m = d * (x.natAbs / d) ∨ (0 < x.natAbs % d ∧ d * rq x d m = d * (x.natAbs / d) + d) := by
    rcases h3 with h | ⟨h0, h⟩
    · rw [h]; exact .inl rfl
    · rw [h, Nat.mul_add, Nat.mul_one]; exact .inr ⟨h0, rfl⟩
  unfold rqI sgI
  by_cases hx : x < 0
  · rw [if_pos (ng_true.2 hx), Int.neg_neg, e0]; omega
  · rw [if_neg (by rw [ng_false.2 (by omega)]; decide), Int.neg_mul, e0]; omega
theorem rq_half (x : Int) {d : Nat} (hd : 0 < d) {m : Int} (hm : 4 ≤ m ∧ m ≤ 6) : 2 * (x + -rqI x d m * (d : Int)).natAbs ≤ d := by
  have h1 := Nat.div_add_mod x.natAbs d
  have h2 := Nat.mod_lt x.natAbs hd
  have h3 : (2 * (x.natAbs % d) ≤ d ∧ rq x d m = x.natAbs / d) ∨ (d ≤ 2 * (x.natAbs % d) ∧ rq x d m = x.natAbs / d + 1) := by
    have hc := cmpN_cases (x.natAbs % d + x.natAbs % d) d
    unfold rq
    have hm3 : m = 4 ∨ m = 5 ∨ m = 6 := by omega
    by_cases hr : 0 < x.natAbs % d
    · rcases hm3 with rfl | rfl | rfl <;> rcases hc with ⟨hc, hl⟩ | ⟨hc, hl⟩ | ⟨hc, hl⟩ <;> simp only [awayB, hc] <;> by_cases ho : (x.natAbs / d) % 2 = 1 <;> simp [hr, ho] <;> omega
    · rw [if_neg (fun h => hr h.1)]; omega
  have e0 : ((rq x d m : Nat) : Int) * (d : Int) = ((d * (rq x d m) : Nat) : Int) := by rw [Int.natCast_mul, Int.mul_comm]
  have h4 : (2 * (x.natAbs % d) ≤ d ∧ d * rq x d m = d * (x.natAbs / d)) ∨ (d ≤ 2 * (x.natAbs % d) ∧ d * rq x d m = d * (x.natAbs / d) + d) := by
    rcases h3 with ⟨h0, h⟩ | ⟨h0, h⟩
    · rw [h]; exact .inl ⟨h0, rfl⟩
    · rw [h, Nat.mul_add, Nat.mul_one]; exact .inr ⟨h0, rfl⟩
  unfold rqI sgI
  by_cases hx : x < 0
  · rw [if_pos (ng_true.2 hx), Int.neg_neg, e0]; omega
  · rw [if_neg (by rw [ng_false.2 (by omega)]; decide), Int.neg_mul, e0]; omega
def turn (m : Int) : Int := if m = 2 then 3 else if m = 3 then 2 else m
theorem away_turn {m : Int} (hm : 0 ≤ m ∧ m ≤ 6) (b : Bool) (c : Int) (o : Bool) : awayB (turn m) (!b) c o = awayB m b c o := by
  have : m = 0 ∨ m = 1 ∨ m = 2 ∨ m = 3 ∨ m = 4 ∨ m = 5 ∨ m = 6 := by omega
  rcases this with rfl | rfl | rfl | rfl | rfl | rfl | rfl <;> simp [awayB, turn]
theorem rq_turn (x : Int) (d : Nat) {m : Int} (hm : 0 ≤ m ∧ m ≤ 6) : rq (-x) d (turn m) = rq x d m := by
  by_cases h0 : x = 0
  · subst h0; unfold rq; simp
  have hn : ng (-x) = !ng x := by
    by_cases hx : x < 0
    · rw [ng_true.2 hx, ng_false.2 (show 0 ≤ -x by omega)]; rfl
    · rw [ng_false.2 (show 0 ≤ x by omega), ng_true.2 (show -x < 0 by omega)]; rfl
  unfold rq
  rw [Int.natAbs_neg, hn, away_turn hm]
theorem rqI_turn (x : Int) (d : Nat) {m : Int} (hm : 0 ≤ m ∧ m ≤ 6) : rqI x d m = -rqI (-x) d (turn m) := by
  unfold rqI; rw [rq_turn x d hm]; unfold sgI
  by_cases h0 : x = 0
  · subst h0; simp [ng, rq]
  by_cases hx : x < 0
  · rw [if_pos (ng_true.2 hx), if_neg (by rw [ng_false.2 (show 0 ≤ -x by omega)]; decide)]
  · rw [if_neg (by rw [ng_false.2 (show 0 ≤ x by omega)]; decide), if_pos (ng_true.2 (show -x < 0 by omega)), Int.neg_neg]
theorem rqI_order (x : Int) (d : Nat) (m : Int) : rqI x d 2 ≤ rqI x d m ∧ rqI x d m ≤ rqI x d 3 := by
  have h1 : rq x d 0 ≤ rq x d m ∧ rq x d m ≤ rq x d 1 := by
    by_cases hr : 0 < x.natAbs % d
    · have a0 : rq x d 0 = x.natAbs / d := by unfold rq; simp [awayB]
      have a1 : rq x d 1 = x.natAbs / d + 1 := by unfold rq; simp [awayB, hr]
      have a2 := rq_le x d m
      have a3 : x.natAbs / d ≤ rq x d m := by unfold rq; exact Nat.le_add_right _ _
      omega
    · have a : ∀ k, rq x d k = x.natAbs / d := fun k => rq_dn (fun h => hr h.1)
      rw [a 0, a 1, a m]; exact ⟨Nat.le_refl _, Nat.le_refl _⟩
  unfold rqI sgI
  by_cases hx : x < 0
  · rw [if_pos (ng_true.2 hx), if_pos (ng_true.2 hx), if_pos (ng_true.2 hx)]
    have e2 : rq x d 2 = rq x d 1 := by unfold rq; simp [awayB, ng_true.2 hx]
    have e3 : rq x d 3 = rq x d 0 := by unfold rq; simp [awayB, ng_true.2 hx]
    omega
  · have hf := ng_false.2 (show 0 ≤ x by omega)
    have e2 : rq x d 2 = rq x d 0 := by unfold rq; simp [awayB, hf]
    have e3 : rq x d 3 = rq x d 1 := by unfold rq; simp [awayB, hf]
    rw [hf]
    simp; omega
theorem rqI_whole (x m : Int) : rqI x 1 m = x := by
  have : rq x 1 m = x.natAbs := by unfold rq; simp [Nat.mod_one]
  unfold rqI; rw [this, sgI_ng]
end Go.Proofs.Ytjkeefmpjocilaa

namespace Go.Proofs.Ytjkeefmpjocilaa
open Go Go.RowKit
theorem mem_getD {zs : List Int} {j : Nat} (h : j < zs.length) : zs.getD j 0 ∈ zs := by
  simp [List.getElem?_eq_getElem h]
theorem vl_trim_len {zs : List Int} (h : Lm zs) : (dg (vl zs)).length ≤ zs.length := dg_len_le (vl_lt h)
theorem rR_value {x : Int} {d : Nat} : lowN x d * (d : Int) = x * (lowD x d : Int) := by
  have e : ∀ a : Nat, (a / Nat.gcd a d) * d = a * (d / Nat.gcd a d) := fun a => by
    obtain ⟨p, hp⟩ := Nat.gcd_dvd_left a d
    obtain ⟨q, hq⟩ := Nat.gcd_dvd_right a d
    rcases Nat.eq_zero_or_pos (Nat.gcd a d) with h0 | h0
    · rw [h0] at hp hq ⊢; simp at hp hq; simp [hp, hq]
    · have h1 : a / Nat.gcd a d = p := Nat.div_eq_of_eq_mul_right h0 hp
      have h2 : d / Nat.gcd a d = q := Nat.div_eq_of_eq_mul_right h0 hq
      rw [h1, h2]
      calc p * d = p * (Nat.gcd a d * q) := by rw [← hq]
        _ = (Nat.gcd a d * p) * q := by rw [Nat.mul_comm (Nat.gcd a d) p, Nat.mul_assoc]
        _ = a * q := by rw [← hp]
  have e2 : ((x.natAbs / Nat.gcd x.natAbs d : Nat) : Int) * (d : Int) = (x.natAbs : Int) * (lowD x d : Int) := by
    unfold lowD; rw [← Int.natCast_mul, ← Int.natCast_mul, e]
  unfold lowN sgI
  by_cases hx : x < 0
  · rw [if_pos (ng_true.2 hx), Int.neg_mul, e2]
    have : x = -(x.natAbs : Int) := by omega
    rw [← Int.neg_mul, ← this]
  · rw [if_neg (by rw [ng_false.2 (by omega)]; decide), e2]
    have : x = (x.natAbs : Int) := by omega
    rw [← this]
theorem rR_right {x : Int} {d k : Nat} (hk : k ≤ 18) (hx : (dg x.natAbs).length ≤ k) (hd : 0 < d) (hl : (dg d).length ≤ k) :
    ∃ (X : Int) (E : Nat), rR x d = (ng X, dg X.natAbs, dg E, true) ∧ ROk (ng X) (dg X.natAbs) (dg E) ∧ (dg X.natAbs).length ≤ k ∧ (dg E).length ≤ k ∧ X * (d : Int) = x * (E : Int) := by
  have hN : (dg (lowN x d).natAbs).length ≤ k := by
    rw [lowN_abs]; have := len_div x.natAbs (Nat.gcd x.natAbs d); omega
  have hE : (dg (lowD x d)).length ≤ k := by
    have := len_div d (Nat.gcd x.natAbs d); unfold lowD; omega
  have e : rR x d = (ng (lowN x d), dg (lowN x d).natAbs, dg (lowD x d), true) := by
    unfold rR; rw [if_pos ⟨hd, by omega, by omega⟩]
  have h1 := rR_ROk (x := x) (d := d) (by rw [e])
  rw [e] at h1
  exact ⟨_, _, e, h1, hN, hE, rR_value⟩
theorem draw_rat {x : Int} {n2 : Bool} {zs : List Int} {k : Nat} (hk : k ≤ 18) (hx : (dg x.natAbs).length ≤ k) (hz : Lm zs) (hl : zs.getLast? ≠ some 0) (h5 : 0 < zs.length ∧ zs.length ≤ k) :
    ∃ (X : Int) (E : Nat), rMake (ng x) (dg x.natAbs) n2 zs = (ng X, dg X.natAbs, dg E, true) ∧ ROk (ng X) (dg X.natAbs) (dg E) ∧ (dg X.natAbs).length ≤ k ∧ (dg E).length ≤ k := by
  have ez := dg_vl hz hl
  have hd : 0 < vl zs := len_pos.1 (by rw [ez]; exact h5.1)
  have e : rMake (ng x) (dg x.natAbs) n2 zs = rR (sgI (ng x != n2) x.natAbs) (vl zs) := by
    unfold rMake; rw [if_pos ⟨IOk_ng (by omega), ⟨⟨hz, by omega, hl⟩, fun _ => h5.1⟩⟩, vl_dg]
  rw [e]
  obtain ⟨X, E, h1, h2, h3, h4, _⟩ := rR_right (x := sgI (ng x != n2) x.natAbs) hk (by rw [sgI_abs]; exact hx) hd (by rw [ez]; exact h5.2)
  exact ⟨X, E, h1, h2, h3, h4⟩
theorem turn_tab {k : Nat} (h : k < 7) : ([0, 1, 3, 2, 4, 5, 6] : List Int).getD k 0 = turn (k : Int) := by
  have : k = 0 ∨ k = 1 ∨ k = 2 ∨ k = 3 ∨ k = 4 ∨ k = 5 ∨ k = 6 := by omega
  rcases this with rfl | rfl | rfl | rfl | rfl | rfl | rfl <;> rfl
theorem turn_bd {m : Int} (h : 0 ≤ m ∧ m ≤ 6) : 0 ≤ turn m ∧ turn m ≤ 6 := by unfold turn; split <;> (try split) <;> omega
theorem cmpI_le {x y : Int} (h : x ≤ y) : ¬ 0 < cmpI x y := by
  unfold cmpI; split <;> (try split) <;> omega
theorem cmpI_eq0 {x y : Int} (h : x = y) : cmpI x y = 0 := by subst h; unfold cmpI; simp
theorem half_iff {e : Nat} : ((dg e).length = 1 ∧ (dg e).getD 0 0 = 2) ↔ e = 2 := by
  have h2 : dg 2 = [2] := by have := dg_one (s := 2) (by decide) (by decide); simpa using this
  constructor
  · rintro ⟨h1, h3⟩
    have : dg e = dg 2 := by
      rw [h2]
      match hm : dg e, h1, h3 with
      | [a], _, h3 => simp at h3; rw [h3]
    exact dg_inj this
  · rintro rfl; rw [h2]; exact ⟨rfl, rfl⟩
theorem rqI_even {x : Int} (h : Nat.gcd x.natAbs 2 = 1) : (rqI x 2 6).natAbs % 2 = 0 := by
  have ho : x.natAbs % 2 = 1 := by
    rcases Nat.mod_two_eq_zero_or_one x.natAbs with h0 | h1
    · have : 2 ∣ Nat.gcd x.natAbs 2 := Nat.dvd_gcd (Nat.dvd_of_mod_eq_zero h0) (Nat.dvd_refl 2)
      rw [h] at this; omega
    · exact h1
  unfold rqI; rw [sgI_abs]
  have hc : cmpN (x.natAbs % 2 + x.natAbs % 2) 2 = 0 := by rw [ho]; rfl
  by_cases hq : (x.natAbs / 2) % 2 = 1
  · rw [rq_up (by omega) (by simp [awayB, hc, hq])]; omega
  · rw [rq_dn (fun hh => by have h9 := hh.2; simp [awayB, hc, hq] at h9)]; omega
theorem ROk_whole {x : Int} (h : (dg x.natAbs).length ≤ 18) : ROk (ng x) (dg x.natAbs) (dg 1) := by
  rw [ROk_iff]; exact ⟨by decide, h, by rw [dg_1]; decide, Nat.gcd_one_right _⟩
theorem ROk_rest {x Q : Int} {e : Nat} (hR : ROk (ng x) (dg x.natAbs) (dg e)) (hl : (dg (x + -Q * (e : Int)).natAbs).length ≤ 18) : ROk (ng (x + -Q * (e : Int))) (dg (x + -Q * (e : Int)).natAbs) (dg e) := by
  rw [ROk_iff] at hR ⊢
  refine ⟨hR.1, hl, hR.2.2.1, ?_⟩
  have h1 := Nat.gcd_dvd_left (x + -Q * (e : Int)).natAbs e
  have h2 := Nat.gcd_dvd_right (x + -Q * (e : Int)).natAbs e
  have h3 : ((Nat.gcd (x + -Q * (e : Int)).natAbs e : Nat) : Int) ∣ x := by
    have a : ((Nat.gcd (x + -Q * (e : Int)).natAbs e : Nat) : Int) ∣ x + -Q * (e : Int) := Int.dvd_natAbs.1 (Int.natCast_dvd_natCast.2 h1)
    have b : ((Nat.gcd (x + -Q * (e : Int)).natAbs e : Nat) : Int) ∣ Q * (e : Int) := Int.dvd_trans (Int.natCast_dvd_natCast.2 h2) (Int.dvd_mul_left _ _)
    have c := Int.dvd_add a b
    have e0 : x + -Q * (e : Int) + Q * (e : Int) = x := by rw [Int.neg_mul]; omega
    rwa [e0] at c
  have h4 : Nat.gcd (x + -Q * (e : Int)).natAbs e ∣ Nat.gcd x.natAbs e := Nat.dvd_gcd (Int.natCast_dvd_natCast.1 (Int.dvd_natAbs.2 h3)) h2
  rw [hR.2.2.2] at h4
  exact Nat.dvd_one.1 h4
theorem rest_len {x : Int} {e : Nat} (he : 0 < e) (m : Int) : (dg (x + -rqI x e m * (e : Int)).natAbs).length ≤ (dg e).length := len_le (Nat.le_of_lt (rq_strict x he m))
theorem rRest_right {x : Int} {e : Nat} {m : Int} (hR : ROk (ng x) (dg x.natAbs) (dg e)) (hm : 0 ≤ m ∧ m ≤ 6) (hx : (dg x.natAbs).length ≤ 5) :
    rRest (ng x) (dg x.natAbs) (dg e) m = ((ng (rqI x e m), dg (rqI x e m).natAbs), (ng (x + -rqI x e m * (e : Int)), dg (x + -rqI x e m * (e : Int)).natAbs, dg e), true) := by
  have hi := ROk_iff.1 hR
  have hq : (dg (rqI x e m).natAbs).length ≤ 6 := by unfold rqI; rw [sgI_abs]; exact rq_len hx
  have hl := rest_len (x := x) hi.1 m
  have hN := ROk_rest (Q := rqI x e m) hR (by omega)
  have h1 := rRound_ok ⟨hR, hm⟩
  have h2 := rInt_ok (x := rqI x e m) (by omega)
  have hW := ROk_whole (x := rqI x e m) (by omega)
  have h3 : rSub (ng x) (dg x.natAbs) (dg e) (ng (rqI x e m)) (dg (rqI x e m).natAbs) [1] = (ng (x + -rqI x e m * (e : Int)), dg (x + -rqI x e m * (e : Int)).natAbs, dg e, true) := by
    rw [← dg_1, rSub_ok hR hW, rAdd_ok hR (ROk_neg hW)]
    simp only [Int.natCast_one, Int.mul_one, Nat.mul_one]
    exact rR_same hN
  have e1 : (rRound (ng x) (dg x.natAbs) (dg e) m).1 = ng (rqI x e m) := by rw [h1]; rfl
  have e2 : (rRound (ng x) (dg x.natAbs) (dg e) m).2.1 = dg (rqI x e m).natAbs := by rw [h1]; rfl
  have e3 : (rRound (ng x) (dg x.natAbs) (dg e) m).2.2 = true := by rw [h1]; rfl
  rw [rRest_ok e3 (by rw [e1, e2, h2]) (by rw [e1, e2, h2, h3]), e1, e2, h2, h3]
theorem whole_rest {x : Int} {e : Nat} (hR : ROk (ng x) (dg x.natAbs) (dg e)) (m : Int) : (ROk (ng x) (dg x.natAbs) (dg e) ∧ dg e = [1]) ↔ (x + -rqI x e m * (e : Int)).sign = 0 := by
  have hi := ROk_iff.1 hR
  constructor
  · rintro ⟨_, h⟩
    have h1 := dg_is_one.1 h
    subst h1
    rw [rqI_whole]; simp; omega
  · intro h
    refine ⟨hR, dg_is_one.2 ?_⟩
    have h0 := Int.sign_eq_zero_iff_zero.1 h
    have hx : x = rqI x e m * (e : Int) := by rw [Int.neg_mul] at h0; omega
    have hd : e ∣ x.natAbs := by
      have : (e : Int) ∣ x := by rw [hx]; exact Int.dvd_mul_left _ _
      exact Int.natCast_dvd_natCast.1 (Int.dvd_natAbs.2 this)
    have := Nat.dvd_gcd hd (Nat.dvd_refl e)
    rw [hi.2.2.2] at this
    exact Nat.dvd_one.1 this
theorem rAdd_right {x1 x2 : Int} {e1 e2 : Nat} (h1 : ROk (ng x1) (dg x1.natAbs) (dg e1)) (h2 : ROk (ng x2) (dg x2.natAbs) (dg e2)) (l1 : (dg x1.natAbs).length ≤ 8) (l2 : (dg x2.natAbs).length ≤ 8) (k1 : (dg e1).length ≤ 8) (k2 : (dg e2).length ≤ 8) :
    ∃ (X : Int) (E : Nat), rAdd (ng x1) (dg x1.natAbs) (dg e1) (ng x2) (dg x2.natAbs) (dg e2) = (ng X, dg X.natAbs, dg E, true) ∧ ROk (ng X) (dg X.natAbs) (dg E) ∧ (dg X.natAbs).length ≤ 17 ∧ (dg E).length ≤ 17 ∧ X * ((e1 * e2 : Nat) : Int) = (x1 * (e2 : Int) + x2 * (e1 : Int)) * (E : Int) := by
  rw [rAdd_ok h1 h2]
  have a1 : (x1 * (e2 : Int)).natAbs = x1.natAbs * e2 := by rw [Int.natAbs_mul, Int.natAbs_natCast]
  have a2 : (x2 * (e1 : Int)).natAbs = x2.natAbs * e1 := by rw [Int.natAbs_mul, Int.natAbs_natCast]
  have m1 := len_mul x1.natAbs e2
  have m2 := len_mul x2.natAbs e1
  have m3 := len_mul e1 e2
  have m4 := len_addI (x1 * (e2 : Int)) (x2 * (e1 : Int))
  rw [a1, a2] at m4
  exact rR_right (k := 17) (by decide) (by omega) (Nat.mul_pos (ROk_iff.1 h1).1 (ROk_iff.1 h2).1) (by omega)
theorem back_cmp {x Q X : Int} {e E : Nat} (h : X * ((1 * e : Nat) : Int) = (Q * (e : Int) + (x + -Q * (e : Int)) * ((1 : Nat) : Int)) * (E : Int)) : cmpI (X * (e : Int)) (x * (E : Int)) = 0 := by
  apply cmpI_eq0
  rw [Nat.one_mul] at h
  rw [h]
  have : Q * (e : Int) + (x + -Q * (e : Int)) * ((1 : Nat) : Int) = x := by
    rw [Int.natCast_one, Int.mul_one, Int.neg_mul]; omega
  rw [this]
theorem ROk_abs {x : Int} {e : Nat} (hR : ROk (ng x) (dg x.natAbs) (dg e)) : ROk (ng (x.natAbs : Int)) (dg (x.natAbs : Int).natAbs) (dg e) := by
  rw [ROk_iff] at hR ⊢; simpa using hR
theorem rMake_half : rMake (ng 1) (dg (1 : Int).natAbs) (ng 2) (dg (2 : Int).natAbs) = (ng 1, dg (1 : Int).natAbs, dg 2, true) := by
  have hl : ∀ n, n < 3 → (dg n).length ≤ 1 := fun n h => dg_len_le (by simp only [Bs]; omega)
  rw [rMake_ok (IOk_ng (Nat.le_trans (hl 1 (by decide)) (by decide))) (IOk_ng (Nat.le_trans (hl 2 (by decide)) (by decide)))]
  exact rR_same (x := 1) (d := 2) (by rw [ROk_iff]; exact ⟨by decide, Nat.le_trans (hl 1 (by decide)) (by decide), Nat.le_trans (hl 2 (by decide)) (by decide), by decide⟩)
theorem ROk_half : ROk (ng 1) (dg (1 : Int).natAbs) (dg 2) := by
  have hl : ∀ n, n < 3 → (dg n).length ≤ 1 := fun n h => dg_len_le (by simp only [Bs]; omega)
  rw [ROk_iff]; exact ⟨by decide, Nat.le_trans (hl 1 (by decide)) (by decide), Nat.le_trans (hl 2 (by decide)) (by decide), by decide⟩
theorem cmpI_lt0 {x y : Int} : cmpI x y < 0 ↔ x < y := by
  unfold cmpI; split <;> (try split) <;> omega
theorem cmpI_small {x : Int} {e : Nat} : decide (cmpI ((x.natAbs : Int) * ((1 : Nat) : Int)) (1 * (e : Int)) < 0) = decide (x.natAbs < e) := by
  rw [decide_eq_decide, cmpI_lt0]; omega
theorem bne_dec {p q : Prop} [Decidable p] [Decidable q] (h : p ↔ q) : (decide p != decide q) = false := by simp [h]
theorem half_cmp {a e : Nat} (h : 2 * a ≤ e) : ¬ 0 < cmpI ((a : Int) * ((2 : Nat) : Int)) (1 * (e : Int)) := cmpI_le (by omega)
end Go.Proofs.Ytjkeefmpjocilaa
