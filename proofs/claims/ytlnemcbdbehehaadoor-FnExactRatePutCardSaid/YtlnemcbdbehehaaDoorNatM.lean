/- Plain lemmas on numbers and lists; no program in sight. Conditions: none. -/
import Derived.Test.YtlnemcbdbehehaaDoorNatJ
import Derived.Test.YtlnemcbdbehehaaDoorNatL
set_option linter.unusedVariables false
set_option linter.unusedSimpArgs false
namespace Go.Proofs.YtlnemcbdbehehaaDoor
open Go Go.RowKit
/-! ### what a rate is worth -/
abbrev dR (q : Bool × List Int × Int × Bool) : Bool × List Int × List Int × Bool := dRat q.1 q.2.1 q.2.2.1
def oneR : Bool × List Int × List Int × Bool := (false, [1], [1], true)
theorem ng_1 : ng (1 : Int) = false := ng_false.2 (by decide)
theorem dg_i1 : dg (1 : Int).natAbs = [1] := dg_1
theorem rInt_one : rInt (ng 1) (dg (1 : Int).natAbs) = oneR := by
  rw [rInt_ok (by rw [dg_i1]; simp), ng_1, dg_i1]; rfl
theorem ROk_one : ROk (ng 1) (dg (1 : Int).natAbs) (dg 1) := ROk_iff.2 ⟨by decide, by rw [dg_i1]; simp, by rw [dg_1]; simp, rfl⟩
theorem dRat_one : dRat (ng 1) (dg (1 : Int).natAbs) 0 = oneR := by
  rw [dRat_ok (DOk_iff.2 ⟨by rw [dg_i1]; simp, by decide, by decide⟩), sgI_ng]
  show rR 1 1 = oneR
  rw [rR_same ROk_one, ng_1, dg_i1, dg_1]; rfl
/-- in order, and above nought -/
def Pos (r : Bool × List Int × List Int × Bool) : Prop := ∃ (x : Int) (e : Nat), r = (ng x, dg x.natAbs, dg e, true) ∧ ROk (ng x) (dg x.natAbs) (dg e) ∧ 0 < x ∧ (dg x.natAbs).length ≤ 4 ∧ (dg e).length ≤ 4
theorem Pos_one : Pos oneR := ⟨1, 1, by rw [ng_1, dg_i1, dg_1]; rfl, ROk_one, by decide, by rw [dg_i1]; simp, by rw [dg_1]; simp⟩
theorem Pos.ok {r : Bool × List Int × List Int × Bool} (h : Pos r) : r.2.2.2 = true := by obtain ⟨x, e, rfl, _⟩ := h; rfl
theorem Pos.rok {r : Bool × List Int × List Int × Bool} (h : Pos r) : ROk r.1 r.2.1 r.2.2.1 := by obtain ⟨x, e, rfl, h, _⟩ := h; exact h
theorem Pos.len {r : Bool × List Int × List Int × Bool} (h : Pos r) : r.2.1.length ≤ 18 ∧ r.2.2.1.length ≤ 18 := by obtain ⟨x, e, rfl, _, _, h1, h2⟩ := h; exact ⟨by show (dg x.natAbs).length ≤ 18; omega, by show (dg e).length ≤ 18; omega⟩
theorem lowN_pos {x : Int} {d : Nat} (hx : 0 < x) (hd : 0 < d) : 0 < lowN x d := by
  have h1 := lowN_ng x hd
  have h2 := ng_false.2 (Int.le_of_lt hx)
  have h3 : 0 ≤ lowN x d := ng_false.1 (h1.trans h2)
  have h4 := (low_mul x d).1
  rcases Int.lt_or_eq_of_le h3 with h5 | h5
  · exact h5
  · rw [← h5] at h4; simp at h4; omega
theorem Pos_rR {x : Int} {d : Nat} (hx : 0 < x) (hd : 0 < d) (h1 : (dg x.natAbs).length ≤ 4) (h2 : (dg d).length ≤ 4) : Pos (rR x d) := by
  have h3 : (dg (lowN x d).natAbs).length ≤ 4 := by rw [lowN_abs]; exact Nat.le_trans (len_div _ _) h1
  have h4 : (dg (lowD x d)).length ≤ 4 := Nat.le_trans (len_div _ _) h2
  refine ⟨lowN x d, lowD x d, ?_, low_ok hd (by omega) (by omega), lowN_pos hx hd, h3, h4⟩
  unfold rR; rw [if_pos ⟨hd, by omega, by omega⟩]
theorem Pos_rate {f t : ByteArray} {n : Bool} {z : List Int} {p : Int} (h : RateP f t n z p) : Pos (dRat n z p) := by
  obtain ⟨_, _, _, hD, hp, hl⟩ := h
  obtain ⟨x, rfl, rfl, h1, h2, h3⟩ := hD.int
  rw [vI_ng] at hp
  rw [dRat_ok hD, sgI_ng]
  exact Pos_rR hp (Nat.pow_pos (by decide)) (by omega) (ten_len' h3)
theorem Pos_inv {r : Bool × List Int × List Int × Bool} (h : Pos r) : Pos (rDiv oneR.1 oneR.2.1 oneR.2.2.1 r.1 r.2.1 r.2.2.1) := by
  obtain ⟨x, e, rfl, hR, hx, h1, h2⟩ := h
  have he := (ROk_iff.1 hR).1
  have e1 : rDiv oneR.1 oneR.2.1 oneR.2.2.1 (ng x) (dg x.natAbs) (dg e) = rR (sgI (ng 1 != ng x) ((1 : Int).natAbs * e)) (1 * x.natAbs) := by
    have := rDiv_ok (x1 := 1) (e1 := 1) ROk_one hR
    rw [ng_1, dg_i1, dg_1] at this
    rw [ng_1]; exact this
  show Pos (rDiv oneR.1 oneR.2.1 oneR.2.2.1 (ng x) (dg x.natAbs) (dg e))
  rw [e1, ng_1, ng_false.2 (Int.le_of_lt hx)]
  have e2 : sgI (false != false) ((1 : Int).natAbs * e) = (e : Int) := by
    show sgI false (1 * e) = _
    rw [Nat.one_mul]; rfl
  rw [e2, Nat.one_mul]
  exact Pos_rR (by omega) (by omega) (by rw [Int.natAbs_natCast]; exact h2) h1
/-- one step -/
def stp (ts : List Rt) (a b : ByteArray) : Bool × List Int × List Int × Bool :=
  if 0 ≤ atI ts a b then dR (lst ts a b) else rDiv oneR.1 oneR.2.1 oneR.2.2.1 (dR (lst ts b a)).1 (dR (lst ts b a)).2.1 (dR (lst ts b a)).2.2.1
theorem Pos_lst {ts : List Rt} {a b : ByteArray} (h : AllTo ts ts.length) (ha : 0 ≤ atI ts a b) : Pos (dR (lst ts a b)) := by
  rcases atI_range (ts := ts) (a := a) (b := b) with h1 | h1
  · omega
  · have := h.1 (atI ts a b).toNat (by omega)
    show Pos (dRat (lst ts a b).1 (lst ts a b).2.1 (lst ts a b).2.2.1)
    unfold lst; rw [if_pos ha]
    exact Pos_rate this
theorem Pos_stp {ts : List Rt} {a b : ByteArray} (h : AllTo ts ts.length) (hl : leg ts a b ≠ 0) : Pos (stp ts a b) := by
  unfold stp
  split
  · rename_i h1; exact Pos_lst h h1
  · rename_i h1
    have h2 : 0 ≤ atI ts b a := by
      unfold leg at hl; rw [if_neg h1] at hl
      split at hl
      · assumption
      · exact absurd rfl hl
    exact Pos_inv (Pos_lst h h2)
/-- the rate -/
def rOf (pv : ByteArray) (ts : List Rt) (a b : ByteArray) : Bool × List Int × List Int × Bool :=
  if how pv ts a b = 1 then oneR else if how pv ts a b = 2 ∨ how pv ts a b = 3 then stp ts a b
  else if how pv ts a b = 4 then rMul (stp ts a pv).1 (stp ts a pv).2.1 (stp ts a pv).2.2.1 (stp ts pv b).1 (stp ts pv b).2.1 (stp ts pv b).2.2.1 else noR
theorem leg_cases (ts : List Rt) (a b : ByteArray) : leg ts a b = 0 ∨ leg ts a b = 2 ∨ leg ts a b = 3 := by
  unfold leg; split
  · exact .inr (.inl rfl)
  · split
    · exact .inr (.inr rfl)
    · exact .inl rfl
theorem how_ok {pv : ByteArray} {ts : List Rt} {a b : ByteArray} (h : how pv ts a b ≠ 0) : RsOk pv ts ∧ Known a ∧ Known b := by
  unfold how at h; split at h
  · assumption
  · exact absurd rfl h
theorem how_2 {pv : ByteArray} {ts : List Rt} {a b : ByteArray} (h : how pv ts a b = 2) : leg ts a b = 2 ∧ 0 ≤ atI ts a b := by
  have hk := how_ok (show how pv ts a b ≠ 0 by omega)
  unfold how at h; rw [if_pos hk] at h
  have h1 : leg ts a b = 2 := by
    split at h
    · omega
    · split at h
      · exact h
      · split at h <;> omega
  refine ⟨h1, ?_⟩
  unfold leg at h1; split at h1
  · assumption
  · split at h1 <;> omega
theorem how_3 {pv : ByteArray} {ts : List Rt} {a b : ByteArray} (h : how pv ts a b = 3) : leg ts a b = 3 ∧ ¬ 0 ≤ atI ts a b ∧ 0 ≤ atI ts b a := by
  have hk := how_ok (show how pv ts a b ≠ 0 by omega)
  unfold how at h; rw [if_pos hk] at h
  have h1 : leg ts a b = 3 := by
    split at h
    · omega
    · split at h
      · exact h
      · split at h <;> omega
  refine ⟨h1, ?_⟩
  unfold leg at h1; split at h1
  · omega
  · rename_i h2
    split at h1
    · rename_i h3; exact ⟨h2, h3⟩
    · omega
theorem how_4 {pv : ByteArray} {ts : List Rt} {a b : ByteArray} (h : how pv ts a b = 4) : a ≠ pv ∧ b ≠ pv ∧ leg ts a pv ≠ 0 ∧ leg ts pv b ≠ 0 := by
  have hk := how_ok (show how pv ts a b ≠ 0 by omega)
  unfold how at h; rw [if_pos hk] at h
  have hl := leg_cases ts a b
  split at h
  · omega
  · split at h
    · omega
    · split at h
      · assumption
      · omega
theorem how_leg {pv : ByteArray} {ts : List Rt} {a b : ByteArray} (hk : RsOk pv ts ∧ Known a ∧ Known b) (hab : a ≠ b) (hl : leg ts a b ≠ 0) : how pv ts a b = leg ts a b := by
  unfold how; rw [if_pos hk, if_neg hab, if_pos hl]
theorem rOf_leg {pv : ByteArray} {ts : List Rt} {a b : ByteArray} (hk : RsOk pv ts ∧ Known a ∧ Known b) (hab : a ≠ b) (hl : leg ts a b ≠ 0) : rOf pv ts a b = stp ts a b := by
  have h1 := how_leg hk hab hl
  have h2 := leg_cases ts a b
  unfold rOf; rw [h1, if_neg (by omega), if_pos (by omega)]
theorem rOf_1 {pv : ByteArray} {ts : List Rt} {a b : ByteArray} (h : how pv ts a b = 1) : rOf pv ts a b = rInt (ng 1) (dg (1 : Int).natAbs) := by unfold rOf; rw [if_pos h, rInt_one]
theorem rOf_2 {pv : ByteArray} {ts : List Rt} {a b : ByteArray} (h : how pv ts a b = 2) : rOf pv ts a b = dRat (lst ts a b).1 (lst ts a b).2.1 (lst ts a b).2.2.1 := by
  unfold rOf; rw [if_neg (by omega), if_pos (.inl h)]; unfold stp; rw [if_pos (how_2 h).2]
theorem rOf_3 {pv : ByteArray} {ts : List Rt} {a b : ByteArray} (h : how pv ts a b = 3) : rOf pv ts a b = rDiv (dRat (ng 1) (dg (1 : Int).natAbs) 0).1 (dRat (ng 1) (dg (1 : Int).natAbs) 0).2.1 (dRat (ng 1) (dg (1 : Int).natAbs) 0).2.2.1 (dRat (lst ts b a).1 (lst ts b a).2.1 (lst ts b a).2.2.1).1 (dRat (lst ts b a).1 (lst ts b a).2.1 (lst ts b a).2.2.1).2.1 (dRat (lst ts b a).1 (lst ts b a).2.1 (lst ts b a).2.2.1).2.2.1 := by
  unfold rOf; rw [if_neg (by omega), if_pos (.inr h), dRat_one]; unfold stp; rw [if_neg (how_3 h).2.1]
theorem rOf_23 {pv : ByteArray} {ts : List Rt} {a b : ByteArray} (h : how pv ts a b = 2 ∨ how pv ts a b = 3) : rOf pv ts a b = stp ts a b ∧ Pos (stp ts a b) := by
  have hk := how_ok (show how pv ts a b ≠ 0 by omega)
  refine ⟨by unfold rOf; rw [if_neg (by omega), if_pos h], Pos_stp hk.1.2.2 ?_⟩
  rcases h with h | h
  · rw [(how_2 h).1]; decide
  · rw [(how_3 h).1]; decide
theorem rOf_4 {pv : ByteArray} {ts : List Rt} {a b : ByteArray} (h : how pv ts a b = 4) : rOf pv ts a pv = stp ts a pv ∧ Pos (stp ts a pv) ∧ rOf pv ts pv b = stp ts pv b ∧ Pos (stp ts pv b) ∧ how pv ts a pv ≠ 4 ∧ how pv ts pv b ≠ 4 ∧
    rOf pv ts a b = rMul (stp ts a pv).1 (stp ts a pv).2.1 (stp ts a pv).2.2.1 (stp ts pv b).1 (stp ts pv b).2.1 (stp ts pv b).2.2.1 := by
  have hk := how_ok (show how pv ts a b ≠ 0 by omega)
  obtain ⟨h1, h2, h3, h4⟩ := how_4 h
  have k1 : RsOk pv ts ∧ Known a ∧ Known pv := ⟨hk.1, hk.2.1, hk.1.1⟩
  have k2 : RsOk pv ts ∧ Known pv ∧ Known b := ⟨hk.1, hk.1.1, hk.2.2⟩
  have l1 := leg_cases ts a pv
  have l2 := leg_cases ts pv b
  refine ⟨rOf_leg k1 h1 h3, Pos_stp hk.1.2.2 h3, rOf_leg k2 (fun e => h2 e.symm) h4, Pos_stp hk.1.2.2 h4, ?_, ?_, ?_⟩
  · rw [how_leg k1 h1 h3]; omega
  · rw [how_leg k2 (fun e => h2 e.symm) h4]; omega
  · unfold rOf; rw [if_neg (by omega), if_neg (by omega), if_pos h]
theorem how_range (pv : ByteArray) (ts : List Rt) (a b : ByteArray) : how pv ts a b = 0 ∨ how pv ts a b = 1 ∨ how pv ts a b = 2 ∨ how pv ts a b = 3 ∨ how pv ts a b = 4 := by
  unfold how
  have h := leg_cases ts a b
  repeat (first | omega | split)
theorem rOf_0 {pv : ByteArray} {ts : List Rt} {a b : ByteArray} (h : ¬ how pv ts a b = 1) (h2 : ¬ how pv ts a b = 2) (h3 : ¬ how pv ts a b = 3) (h4 : ¬ how pv ts a b = 4) : rOf pv ts a b = noR := by
  unfold rOf; rw [if_neg h, if_neg (by omega), if_neg h4]
theorem stp_len {ts : List Rt} {a b : ByteArray} : (stp ts a b).2.1.length ≤ 18 ∧ (stp ts a b).2.2.1.length ≤ 18 := by
  unfold stp; split
  · exact dRat_len
  · exact rDiv_len
theorem rOf_len {pv : ByteArray} {ts : List Rt} {a b : ByteArray} : (rOf pv ts a b).2.1.length ≤ 18 ∧ (rOf pv ts a b).2.2.1.length ≤ 18 := by
  unfold rOf; split
  · exact ⟨by simp [oneR], by simp [oneR]⟩
  · split
    · exact stp_len
    · split
      · exact rMul_len
      · exact ⟨by simp [noR], by simp [noR]⟩
theorem rMul_ROk {n1 n2 : Bool} {z1 y1 z2 y2 : List Int} (h : (rMul n1 z1 y1 n2 z2 y2).2.2.2 = true) : ROk (rMul n1 z1 y1 n2 z2 y2).1 (rMul n1 z1 y1 n2 z2 y2).2.1 (rMul n1 z1 y1 n2 z2 y2).2.2.1 := by
  unfold rMul at h ⊢; split
  · rename_i h'; rw [if_pos h'] at h; exact rR_ROk h
  · rename_i h'; rw [if_neg h'] at h; cases h
theorem rOf_ROk {pv : ByteArray} {ts : List Rt} {a b : ByteArray} (h : (rOf pv ts a b).2.2.2 = true) : ROk (rOf pv ts a b).1 (rOf pv ts a b).2.1 (rOf pv ts a b).2.2.1 := by
  rcases how_range pv ts a b with h1 | h1 | h1 | h1 | h1
  · rw [rOf_0 (by omega) (by omega) (by omega) (by omega)] at h; cases h
  · have := Pos_one.rok; rw [rOf_1 h1, rInt_one]; exact this
  · have := rOf_23 (.inl h1); rw [this.1]; exact this.2.rok
  · have := rOf_23 (.inr h1); rw [this.1]; exact this.2.rok
  · have e := (rOf_4 h1).2.2.2.2.2.2
    rw [e] at h ⊢
    exact rMul_ROk h
end Go.Proofs.YtlnemcbdbehehaaDoor
namespace Go.Proofs.YtlnemcbdbehehaaDoor
open Go Go.RowKit
theorem stp_2 {ts : List Rt} {a b : ByteArray} (h : 0 ≤ atI ts a b) : stp ts a b = dRat (ts.getD (atI ts a b).toNat rt0).2.2.1 (ts.getD (atI ts a b).toNat rt0).2.2.2.1 (ts.getD (atI ts a b).toNat rt0).2.2.2.2 := by
  unfold stp; rw [if_pos h]; unfold dR lst; rw [if_pos h]
theorem stp_3 {ts : List Rt} {a b : ByteArray} (h : ¬ 0 ≤ atI ts a b) (h2 : 0 ≤ atI ts b a) : stp ts a b = rDiv (rInt (ng 1) (dg (1 : Int).natAbs)).1 (rInt (ng 1) (dg (1 : Int).natAbs)).2.1 (rInt (ng 1) (dg (1 : Int).natAbs)).2.2.1
    (dRat (ts.getD (atI ts b a).toNat rt0).2.2.1 (ts.getD (atI ts b a).toNat rt0).2.2.2.1 (ts.getD (atI ts b a).toNat rt0).2.2.2.2).1 (dRat (ts.getD (atI ts b a).toNat rt0).2.2.1 (ts.getD (atI ts b a).toNat rt0).2.2.2.1 (ts.getD (atI ts b a).toNat rt0).2.2.2.2).2.1 (dRat (ts.getD (atI ts b a).toNat rt0).2.2.1 (ts.getD (atI ts b a).toNat rt0).2.2.2.1 (ts.getD (atI ts b a).toNat rt0).2.2.2.2).2.2.1 := by
  unfold stp; rw [if_neg h, rInt_one]; unfold dR lst; rw [if_pos h2]
theorem leg_at {ts : List Rt} {a b : ByteArray} (h : leg ts a b ≠ 0) : 0 ≤ atI ts a b ∨ 0 ≤ atI ts b a := by
  unfold leg at h; split at h
  · exact .inl ‹_›
  · split at h
    · exact .inr ‹_›
    · exact absurd rfl h
theorem leg_23 {pv : ByteArray} {ts : List Rt} {a b : ByteArray} (h : how pv ts a b = 2 ∨ how pv ts a b = 3) : leg ts a b ≠ 0 := by
  rcases h with h | h
  · rw [(how_2 h).1]; decide
  · rw [(how_3 h).1]; decide
end Go.Proofs.YtlnemcbdbehehaaDoor
