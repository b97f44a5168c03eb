/- Plain lemmas on numbers and lists; no program in sight. Conditions: none. -/
import Derived.Test.YtlnemcbdbehehaaDoorNatT
import Derived.Test.YtlnemcbdbehehaaDoorNatS
import Derived.Test.YtlnemcbdbehehaaDoorNatO
set_option linter.unusedVariables false
set_option linter.unusedSimpArgs false
namespace Go.Proofs.YtlnemcbdbehehaaDoor
open Go Go.RowKit
/-! ### rates: each way comes to the same -/
theorem tup_inj {x y : Int} {d e : Nat} {b c : Bool} (h : (ng x, dg x.natAbs, dg d, b) = (ng y, dg y.natAbs, dg e, c)) : x = y ∧ d = e := by
  simp only [Prod.mk.injEq] at h
  obtain ⟨h1, h2, h3, _⟩ := h
  refine ⟨?_, dg_inj h3⟩
  rw [← sgI_ng x, ← sgI_ng y, h1, dg_inj h2]
theorem cmp_same {x y : Int} {d e : Nat} {b c : Bool} {r : Bool × List Int × List Int × Bool} (h1 : r = (ng x, dg x.natAbs, dg d, b)) (h2 : r = (ng y, dg y.natAbs, dg e, c)) : cmpI (x * (e : Int)) (y * (d : Int)) = 0 := by
  obtain ⟨rfl, rfl⟩ := tup_inj (h1.symm.trans h2)
  exact cmpI_eq0 rfl
theorem rOf_form {pv : ByteArray} {ts : List Rt} (a b : ByteArray) : ∃ (X : Int) (E : Nat), rOf pv ts a b = (ng X, dg X.natAbs, dg E, decide (how pv ts a b ≠ 0)) ∧ (how pv ts a b ≠ 0 → ROk (ng X) (dg X.natAbs) (dg E) ∧ 0 < X) ∧ (dg X.natAbs).length ≤ 8 ∧ (dg E).length ≤ 8 := by
  have key : ∀ r, Pos r → how pv ts a b ≠ 0 → rOf pv ts a b = r → ∃ (X : Int) (E : Nat), rOf pv ts a b = (ng X, dg X.natAbs, dg E, decide (how pv ts a b ≠ 0)) ∧ (how pv ts a b ≠ 0 → ROk (ng X) (dg X.natAbs) (dg E) ∧ 0 < X) ∧ (dg X.natAbs).length ≤ 8 ∧ (dg E).length ≤ 8 := by
    intro r hp h0 he
    obtain ⟨x, e, h1, h2, h3, h4, h5⟩ := hp
    exact ⟨x, e, by rw [he, h1, decide_eq_true h0], fun _ => ⟨h2, h3⟩, by omega, by omega⟩
  rcases how_range pv ts a b with h | h | h | h | h
  · refine ⟨0, 0, ?_, fun h' => absurd h h', by rw [Int.natAbs_zero, dg_zero]; simp, by rw [dg_zero]; simp⟩
    rw [rOf_0 (by omega) (by omega) (by omega) (by omega), h, Int.natAbs_zero, dg_zero]; rfl
  · exact key oneR Pos_one (by omega) (by rw [rOf_1 h, rInt_one])
  · exact key _ (rOf_23 (.inl h)).2 (by omega) (rOf_23 (.inl h)).1
  · exact key _ (rOf_23 (.inr h)).2 (by omega) (rOf_23 (.inr h)).1
  · have h4 := rOf_4 h
    obtain ⟨x1, e1, p1, p2, p3, p4, p5⟩ := h4.2.1
    obtain ⟨x2, e2, q1, q2, q3, q4, q5⟩ := h4.2.2.2.1
    have hr : rOf pv ts a b = rR (x1 * x2) (e1 * e2) := by
      rw [h4.2.2.2.2.2.2, p1, q1]
      have hm := rMul_ok p2 q2
      rw [ng_false.2 (Int.le_of_lt p3), ng_false.2 (Int.le_of_lt q3)] at hm ⊢
      rw [hm]
      have : sgI (false != false) (x1.natAbs * x2.natAbs) = x1 * x2 := by
        show sgI false _ = _
        rw [sgI_false, Int.natCast_mul]
        rw [show (x1.natAbs : Int) = x1 by omega, show (x2.natAbs : Int) = x2 by omega]
      rw [this]
    have hx : 0 < x1 * x2 := Int.mul_pos p3 q3
    have d1 := (ROk_iff.1 p2).1
    have d2 := (ROk_iff.1 q2).1
    have l1 := len_mul x1.natAbs x2.natAbs
    have l2 := len_mul e1 e2
    obtain ⟨X, E, r1, r2, r3, r4, r5⟩ := rR_right (x := x1 * x2) (d := e1 * e2) (k := 8) (by decide) (by rw [Int.natAbs_mul]; omega) (Nat.mul_pos d1 d2) (by omega)
    refine ⟨X, E, by rw [hr, r1, decide_eq_true (show how pv ts a b ≠ 0 by omega)], fun _ => ⟨r2, ?_⟩, r3, r4⟩
    have hE := (ROk_iff.1 r2).1
    have hp : 0 < x1 * x2 * (E : Int) := Int.mul_pos hx (by omega)
    have hd : (0 : Int) < ((e1 * e2 : Nat) : Int) := by have := Nat.mul_pos d1 d2; omega
    rw [← r5] at hp
    exact Int.pos_of_mul_pos_left hp hd
theorem rate_hit {pv : ByteArray} {ts : List Rt} (hT : RsOk pv ts) {k : Nat} (hk : k < ts.length) : how pv ts (ts.getD k rt0).1 (ts.getD k rt0).2.1 = 2 ∧ rOf pv ts (ts.getD k rt0).1 (ts.getD k rt0).2.1 = dRat (ts.getD k rt0).2.2.1 (ts.getD k rt0).2.2.2.1 (ts.getD k rt0).2.2.2.2 := by
  have hP := hT.2.2.1 k hk
  have e := (atI_self hk).2 (hT.2.2.2 k hk)
  have hl : leg ts (ts.getD k rt0).1 (ts.getD k rt0).2.1 = 2 := by unfold leg; rw [if_pos (by rw [e]; omega)]
  have h2 := how_leg ⟨hT, hP.1, hP.2.1⟩ hP.2.2.1 (by rw [hl]; decide)
  rw [hl] at h2
  refine ⟨h2, ?_⟩
  rw [rOf_2 h2]; unfold lst; rw [if_pos (by rw [e]; omega), e, Int.toNat_natCast]
theorem how4_legs {pv : ByteArray} {ts : List Rt} {a b : ByteArray} (h : how pv ts a b = 4) : how pv ts a pv ≠ 0 ∧ how pv ts pv b ≠ 0 := by
  have hk := how_ok (show how pv ts a b ≠ 0 by omega)
  have h4 := how_4 h
  have e1 := how_leg ⟨hk.1, hk.2.1, hk.1.1⟩ h4.1 h4.2.2.1
  have e2 := how_leg ⟨hk.1, hk.1.1, hk.2.2⟩ (Ne.symm h4.2.1) h4.2.2.2
  exact ⟨by rw [e1]; exact h4.2.2.1, by rw [e2]; exact h4.2.2.2⟩
theorem rOf4_mul {pv : ByteArray} {ts : List Rt} {a b : ByteArray} (h : how pv ts a b = 4) {X1 X2 : Int} {E1 E2 : Nat} {b1 b2 : Bool} (h1 : rOf pv ts a pv = (ng X1, dg X1.natAbs, dg E1, b1)) (h2 : rOf pv ts pv b = (ng X2, dg X2.natAbs, dg E2, b2)) :
    rOf pv ts a b = rMul (ng X1) (dg X1.natAbs) (dg E1) (ng X2) (dg X2.natAbs) (dg E2) := by
  have h4 := rOf_4 h
  rw [h4.2.2.2.2.2.2, ← h4.1, ← h4.2.2.1, h1, h2]
theorem back_one {pv : ByteArray} {ts : List Rt} {a b : ByteArray} (h : how pv ts a b = 3 ∨ how pv ts a b = 1) {X1 X2 : Int} {E1 E2 : Nat} {b1 b2 : Bool} (h1 : rOf pv ts a b = (ng X1, dg X1.natAbs, dg E1, b1)) (h2 : rOf pv ts b a = (ng X2, dg X2.natAbs, dg E2, b2)) :
    how pv ts b a ≠ 0 ∧ X1 * X2 = ((E1 * E2 : Nat) : Int) := by
  have hk := how_ok (show how pv ts a b ≠ 0 by omega)
  rcases h with h | h
  · have h3 := how_3 h
    have hab : a ≠ b := fun e => by subst e; exact h3.2.1 h3.2.2
    have hl : leg ts b a = 2 := by unfold leg; rw [if_pos h3.2.2]
    have hb := how_leg ⟨hk.1, hk.2.2, hk.2.1⟩ (Ne.symm hab) (by rw [hl]; decide)
    rw [hl] at hb
    refine ⟨by omega, ?_⟩
    have e2 := rOf_2 hb
    obtain ⟨x, e, p1, p2, p3, p4, p5⟩ := Pos_lst hk.1.2.2 h3.2.2
    have p1' : dRat (lst ts b a).1 (lst ts b a).2.1 (lst ts b a).2.2.1 = (ng x, dg x.natAbs, dg e, true) := p1
    rw [p1'] at e2
    obtain ⟨rfl, rfl⟩ := tup_inj (h2.symm.trans e2)
    have e1 := rOf_3 h
    rw [dRat_one, p1'] at e1
    have he := (ROk_iff.1 p2).1
    have e3 : rDiv oneR.1 oneR.2.1 oneR.2.2.1 (ng X2) (dg X2.natAbs) (dg E2) = rR (sgI (ng 1 != ng X2) ((1 : Int).natAbs * E2)) (1 * X2.natAbs) := by
      have := rDiv_ok (x1 := 1) (e1 := 1) ROk_one p2
      rw [ng_1, dg_i1, dg_1] at this
      rw [ng_1]; exact this
    have e4 : sgI (ng 1 != ng X2) ((1 : Int).natAbs * E2) = (E2 : Int) := by
      rw [ng_1, ng_false.2 (Int.le_of_lt p3)]
      show sgI false (1 * E2) = _
      rw [Nat.one_mul]; rfl
    rw [e4, Nat.one_mul] at e3
    have hR : ROk (ng (E2 : Int)) (dg (E2 : Int).natAbs) (dg X2.natAbs) := by
      have hi := ROk_iff.1 p2
      rw [ROk_iff]
      exact ⟨by omega, by rw [Int.natAbs_natCast]; omega, by omega, by rw [Int.natAbs_natCast, Nat.gcd_comm]; exact hi.2.2.2⟩
    rw [rR_same hR] at e3
    have e5 := e1.trans e3
    obtain ⟨rfl, rfl⟩ := tup_inj (h1.symm.trans e5)
    rw [Int.natCast_mul]
    rw [show ((X2.natAbs : Nat) : Int) = X2 by omega, Int.mul_comm]
  · have hab : a = b := by
      unfold how at h
      by_cases e : a = b
      · exact e
      · exfalso
        rw [if_pos hk, if_neg e] at h
        have hl := leg_cases ts a b
        split at h
        · omega
        · split at h <;> simp at h
    subst hab
    have e1 := rOf_1 h
    rw [rInt_one] at e1
    have e2 : rOf pv ts a a = (ng 1, dg (1 : Int).natAbs, dg 1, true) := by rw [e1, ng_1, dg_i1, dg_1]; rfl
    obtain ⟨rfl, rfl⟩ := tup_inj (h1.symm.trans e2)
    obtain ⟨rfl, rfl⟩ := tup_inj (h2.symm.trans e2)
    exact ⟨by omega, by decide⟩
theorem rMul_right {x1 x2 : Int} {e1 e2 : Nat} (h1 : ROk (ng x1) (dg x1.natAbs) (dg e1)) (h2 : ROk (ng x2) (dg x2.natAbs) (dg e2)) (l1 : (dg x1.natAbs).length ≤ 8) (l2 : (dg x2.natAbs).length ≤ 8) (k1 : (dg e1).length ≤ 8) (k2 : (dg e2).length ≤ 8) (p1 : 0 < x1) (p2 : 0 < x2) :
    ∃ (X : Int) (E : Nat), rMul (ng x1) (dg x1.natAbs) (dg e1) (ng x2) (dg x2.natAbs) (dg e2) = (ng X, dg X.natAbs, dg E, true) ∧ ROk (ng X) (dg X.natAbs) (dg E) ∧ X * ((e1 * e2 : Nat) : Int) = x1 * x2 * (E : Int) := by
  have hm := rMul_ok h1 h2
  have m1 := len_mul x1.natAbs x2.natAbs
  have m2 := len_mul e1 e2
  have hs : sgI (ng x1 != ng x2) (x1.natAbs * x2.natAbs) = x1 * x2 := by
    rw [ng_false.2 (Int.le_of_lt p1), ng_false.2 (Int.le_of_lt p2)]
    show sgI false _ = _
    rw [sgI_false, Int.natCast_mul, show (x1.natAbs : Int) = x1 by omega, show (x2.natAbs : Int) = x2 by omega]
  rw [hs] at hm
  obtain ⟨X, E, r1, r2, _, _, r5⟩ := rR_right (x := x1 * x2) (d := e1 * e2) (k := 16) (by decide) (by rw [Int.natAbs_mul]; omega) (Nat.mul_pos (ROk_iff.1 h1).1 (ROk_iff.1 h2).1) (by omega)
  exact ⟨X, E, hm.trans r1, r2, r5⟩
theorem one_cmp {X1 X2 X : Int} {E1 E2 E : Nat} (hE : 0 < E1 * E2) (h : X1 * X2 = ((E1 * E2 : Nat) : Int)) (hv : X * ((E1 * E2 : Nat) : Int) = X1 * X2 * (E : Int)) : cmpI (X * ((1 : Nat) : Int)) (1 * (E : Int)) = 0 := by
  apply cmpI_eq0
  rw [h, Int.mul_comm X] at hv
  have := Int.eq_of_mul_eq_mul_left (show ((E1 * E2 : Nat) : Int) ≠ 0 by omega) hv
  rw [this]; simp
theorem path_pos {pv : ByteArray} {ts : List Rt} {a b : ByteArray} : how pv ts a b ≠ 0 ↔ (0 : Int) < ((path pv ts a b).length : Int) := by
  rcases how_range pv ts a b with h | h | h | h | h
  · rw [path_0 (by omega) (by omega) (by omega)]; simp [h]
  · rw [path_1 h]; simp [h]
  · rw [path_2 (.inl h)]; simp [h]
  · rw [path_2 (.inr h)]; simp [h]
  · rw [path_4 h]; simp [h]
theorem path_head {pv : ByteArray} {ts : List Rt} {a b : ByteArray} (h0 : how pv ts a b ≠ 0) : (path pv ts a b).getD 0 ByteArray.empty = a := by
  rcases how_range pv ts a b with h | h | h | h | h
  · exact absurd h h0
  · rw [path_1 h]; rfl
  · rw [path_2 (.inl h)]; rfl
  · rw [path_2 (.inr h)]; rfl
  · rw [path_4 h]; rfl
theorem path_last {pv : ByteArray} {ts : List Rt} {a b : ByteArray} (h0 : how pv ts a b ≠ 0) : (path pv ts a b).getD ((path pv ts a b).length - 1) ByteArray.empty = b := by
  rcases how_range pv ts a b with h | h | h | h | h
  · exact absurd h h0
  · rw [path_1 h]
    show a = b
    unfold how at h
    by_cases e : a = b
    · exact e
    · exfalso
      by_cases hk : RsOk pv ts ∧ Known a ∧ Known b
      · rw [if_pos hk, if_neg e] at h
        have hl := leg_cases ts a b
        split at h
        · omega
        · split at h <;> simp at h
      · rw [if_neg hk] at h; simp at h
  · rw [path_2 (.inl h)]; rfl
  · rw [path_2 (.inr h)]; rfl
  · rw [path_4 h]; rfl
end Go.Proofs.YtlnemcbdbehehaaDoor
