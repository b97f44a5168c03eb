/- Plain lemmas on numbers and lists; no program in sight. Conditions: none. -/
import Derived.Test.YtlnemcbdbehehaaGreatDoorNatN
set_option linter.unusedVariables false
set_option linter.unusedSimpArgs false
namespace Go.Proofs.YtlnemcbdbehehaaGreatDoor
open Go Go.RowKit
/-! ### the amount that is needed -/
def PosL (L : Nat) (r : Bool × List Int × List Int × Bool) : Prop := ∃ (x : Int) (e : Nat), r = (ng x, dg x.natAbs, dg e, true) ∧ ROk (ng x) (dg x.natAbs) (dg e) ∧ 0 < x ∧ (dg x.natAbs).length ≤ L ∧ (dg e).length ≤ L
theorem PosL_rR {x : Int} {d L : Nat} (hL : L ≤ 18) (hx : 0 < x) (hd : 0 < d) (h1 : (dg x.natAbs).length ≤ L) (h2 : (dg d).length ≤ L) : PosL L (rR x d) := by
  have h3 : (dg (lowN x d).natAbs).length ≤ L := by rw [lowN_abs]; exact Nat.le_trans (len_div _ _) h1
  have h4 : (dg (lowD x d)).length ≤ L := Nat.le_trans (len_div _ _) h2
  refine ⟨lowN x d, lowD x d, ?_, low_ok hd (by omega) (by omega), lowN_pos hx hd, h3, h4⟩
  unfold rR; rw [if_pos ⟨hd, by omega, by omega⟩]
theorem PosL.of {L M : Nat} {r : Bool × List Int × List Int × Bool} (h : PosL L r) (hl : L ≤ M) : PosL M r := by
  obtain ⟨x, e, h1, h2, h3, h4, h5⟩ := h; exact ⟨x, e, h1, h2, h3, by omega, by omega⟩
theorem Pos.L {r : Bool × List Int × List Int × Bool} (h : Pos r) : PosL 4 r := h
theorem PosL_mul {r s : Bool × List Int × List Int × Bool} (h : PosL 4 r) (k : PosL 4 s) : PosL 8 (rMul r.1 r.2.1 r.2.2.1 s.1 s.2.1 s.2.2.1) := by
  obtain ⟨x, e, rfl, hR, hx, a1, a2⟩ := h
  obtain ⟨y, f, rfl, hS, hy, b1, b2⟩ := k
  show PosL 8 (rMul (ng x) (dg x.natAbs) (dg e) (ng y) (dg y.natAbs) (dg f))
  rw [rMul_ok hR hS, ng_false.2 (Int.le_of_lt hx), ng_false.2 (Int.le_of_lt hy), show (false != false) = false from rfl, sgI_false]
  have l1 := len_mul x.natAbs y.natAbs
  have l2 := len_mul e f
  have p1 : 0 < x.natAbs * y.natAbs := Nat.mul_pos (by omega) (by omega)
  exact PosL_rR (by decide) (by omega) (Nat.mul_pos (ROk_iff.1 hR).1 (ROk_iff.1 hS).1) (by rw [Int.natAbs_natCast]; omega) (by omega)
theorem PosL_rOf {pv : ByteArray} {ts : List Rt} {a b : ByteArray} (h : (rOf pv ts a b).2.2.2 = true) : PosL 8 (rOf pv ts a b) := by
  rcases how_range pv ts a b with h1 | h1 | h1 | h1 | h1
  · rw [rOf_0 (by omega) (by omega) (by omega) (by omega)] at h; cases h
  · rw [rOf_1 h1, rInt_one]; exact Pos_one.L.of (by decide)
  · have := rOf_23 (.inl h1); rw [this.1]; exact this.2.L.of (by decide)
  · have := rOf_23 (.inr h1); rw [this.1]; exact this.2.L.of (by decide)
  · have e := rOf_4 h1
    rw [e.2.2.2.2.2.2]; exact PosL_mul e.2.1.L e.2.2.2.1.L
theorem PosL_uRt {pv : ByteArray} {ts : List Rt} {a b : ByteArray} (h : (uRt pv ts a b).2.2.2 = true) : PosL 10 (uRt pv ts a b) := by
  have hr : (rOf pv ts a b).2.2.2 = true := by
    cases hb : (rOf pv ts a b).2.2.2 with
    | true => rfl
    | false => rw [uRt_no hb] at h; cases h
  obtain ⟨x, e, he, hR, hx, a1, a2⟩ := PosL_rOf hr
  rw [uRt_ok hr (by rw [he]) (by rw [he]) (by rw [he])]
  have pa := cur_places a
  have pb := cur_places b
  have la : (dg (10 ^ (curOf a).places.toNat)).length ≤ 2 := ten_lenq (by omega)
  have lb : (dg (10 ^ (curOf b).places.toNat)).length ≤ 2 := ten_lenq (by omega)
  have ha : 0 < 10 ^ (curOf a).places.toNat := Nat.pow_pos (by decide)
  have hb : 0 < 10 ^ (curOf b).places.toNat := Nat.pow_pos (by decide)
  have l1 := len_mul x.natAbs (10 ^ (curOf b).places.toNat)
  have l2 := len_mul e (10 ^ (curOf a).places.toNat)
  have p1 : 0 < x.natAbs * 10 ^ (curOf b).places.toNat := Nat.mul_pos (by omega) hb
  rw [ng_false.2 (Int.le_of_lt hx), sgI_false]
  exact PosL_rR (by decide) (by omega) (Nat.mul_pos (ROk_iff.1 hR).1 ha) (by rw [Int.natAbs_natCast]; omega) (by omega)
/-- rounding is off by at most one -/
theorem rq_near (x : Int) {d : Nat} (hd : 0 < d) (m : Int) : (x + -rqI x d m * (d : Int)).natAbs ≤ d := by
  have h1 := Nat.div_add_mod x.natAbs d
  have h2 := Nat.mod_lt x.natAbs hd
  have h3 : rq x d m = x.natAbs / d ∨ rq x d m = x.natAbs / d + 1 := by unfold rq; split <;> omega
  have e0 : ((rq x d m : Nat) : Int) * (d : Int) = ((d * (rq x d m) : Nat) : Int) := by rw [Int.natCast_mul, Int.mul_comm]
  have h4 : d * rq x d m = d * (x.natAbs / d) ∨ d * rq x d m = d * (x.natAbs / d) + d := by
    rcases h3 with h | h
    · rw [h]; exact .inl rfl
    · rw [h, Nat.mul_add, Nat.mul_one]; exact .inr rfl
  unfold rqI sgI
  by_cases hx : x < 0
  · rw [if_pos (ng_true.2 hx), Int.neg_neg, e0]; omega
  · rw [if_neg (by rw [ng_false.2 (by omega)]; decide), Int.neg_mul, e0]; omega
theorem rR_isok {x : Int} {d : Nat} (hd : 0 < d) (h1 : (dg x.natAbs).length ≤ 18) (h2 : (dg d).length ≤ 18) : (rR x d).2.2.2 = true := by
  have h3 : (dg (lowN x d).natAbs).length ≤ 18 := by rw [lowN_abs]; exact Nat.le_trans (len_div _ _) h1
  have h4 : (dg (lowD x d)).length ≤ 18 := Nat.le_trans (len_div _ _) h2
  unfold rR; rw [if_pos ⟨hd, h3, h4⟩]
/-- the rest of a fraction that is not great is in order -/
theorem rRest_small {x : Int} {e : Nat} {m : Int} (hR : ROk (ng x) (dg x.natAbs) (dg e)) (hm : 0 ≤ m ∧ m ≤ 6) (hx : (dg x.natAbs).length ≤ 17) :
    (rRest (ng x) (dg x.natAbs) (dg e) m).2.2 = true ∧ (rRest (ng x) (dg x.natAbs) (dg e) m).1.1 = ng (rqI x e m) ∧ (rRest (ng x) (dg x.natAbs) (dg e) m).1.2 = dg (rqI x e m).natAbs := by
  have hi := ROk_iff.1 hR
  have h1 : rRound (ng x) (dg x.natAbs) (dg e) m = iR (rqI x e m) := rRound_ok ⟨hR, hm⟩
  have hq : (dg (rqI x e m).natAbs).length ≤ 18 := by unfold rqI; rw [sgI_abs]; exact rq_len hx
  have h2 := rInt_ok hq
  have hQ : ROk (ng (rqI x e m)) (dg (rqI x e m).natAbs) (dg 1) := ROk_iff.2 ⟨by decide, hq, by rw [dg_1]; simp, Nat.gcd_one_right _⟩
  have h3 : (rSub (ng x) (dg x.natAbs) (dg e) (ng (rqI x e m)) (dg (rqI x e m).natAbs) [1]).2.2.2 = true := by
    rw [← dg_1, rSub_ok hR hQ, rAdd_ok hR (ROk_neg hQ)]
    have hn := rq_near x hi.1 m
    have hl := len_le hn
    have e1 : (x * ((1 : Nat) : Int) + -rqI x e m * (e : Int)) = x + -rqI x e m * (e : Int) := by rw [show ((1 : Nat) : Int) = 1 from rfl, Int.mul_one]
    rw [e1, Nat.mul_one]
    exact rR_isok hi.1 (by omega) hi.2.2.1
  have hok := rRest_ok (n := ng x) (z := dg x.natAbs) (y := dg e) (m := m) (by rw [h1]; rfl) (by rw [h1]; show (rInt (ng (rqI x e m)) (dg (rqI x e m).natAbs)).2.2.2 = true; rw [h2])
    (by rw [h1]; show (rSub (ng x) (dg x.natAbs) (dg e) (rInt (ng (rqI x e m)) (dg (rqI x e m).natAbs)).1 (rInt (ng (rqI x e m)) (dg (rqI x e m).natAbs)).2.1 (rInt (ng (rqI x e m)) (dg (rqI x e m).natAbs)).2.2.1).2.2.2 = true; rw [h2]; exact h3)
  rw [hok]
  exact ⟨rfl, by show (rRound (ng x) (dg x.natAbs) (dg e) m).1 = _; rw [h1]; rfl, by show (rRound (ng x) (dg x.natAbs) (dg e) m).2.1 = _; rw [h1]; rfl⟩
def need (pv : ByteArray) (ts : List Rt) (c : ByteArray) (n : Bool) (z : List Int) (fr : ByteArray) : ByteArray × Bool × List Int × Bool :=
  if MOk c n z ∧ (uRt pv ts fr c).2.2.2 = true then mR fr (rqI (vI n z * (vl (uRt pv ts fr c).2.2.1 : Nat)) (vl (uRt pv ts fr c).2.1) 3) else noM
theorem need_no {pv : ByteArray} {ts : List Rt} {c : ByteArray} {n : Bool} {z : List Int} {fr : ByteArray} (h : ¬ (MOk c n z ∧ (uRt pv ts fr c).2.2.2 = true)) : need pv ts c n z fr = noM := by unfold need; rw [if_neg h]
theorem need_ok {pv : ByteArray} {ts : List Rt} {c fr : ByteArray} {x y : Int} {e : Nat} (h : MOk c (ng x) (dg x.natAbs)) (hu : (uRt pv ts fr c).2.2.2 = true) (h2 : (uRt pv ts fr c).2.1 = dg y.natAbs) (h3 : (uRt pv ts fr c).2.2.1 = dg e) :
    need pv ts c (ng x) (dg x.natAbs) fr = mR fr (rqI (x * (e : Int)) y.natAbs 3) := by unfold need; rw [if_pos ⟨h, hu⟩, vI_ng, h2, h3, vl_dg, vl_dg]
theorem need_len {pv : ByteArray} {ts : List Rt} {c : ByteArray} {n : Bool} {z : List Int} {fr : ByteArray} : (need pv ts c n z fr).2.2.1.length ≤ 4 := by
  unfold need; split
  · exact mR_len
  · simp [noM]
theorem mR_false {c : ByteArray} {x : Int} (h : (mR c x).2.2.2 = false) : mR c x = noM := by
  unfold mR at h ⊢; split at h
  · cases h
  · rename_i h'; rw [if_neg h']
abbrev dvd (a b : Bool × List Int × List Int × Bool) : Bool × List Int × List Int × Bool := rDiv a.1 a.2.1 a.2.2.1 b.1 b.2.1 b.2.2.1
/-- the reference's way -/
theorem need_way {pv : ByteArray} {ts : List Rt} {c : ByteArray} {n : Bool} {z : List Int} {fr : ByteArray} (h : MOk c n z) (hu : (uRt pv ts fr c).2.2.2 = true) :
    (dvd (mRat c n z) (uRt pv ts fr c)).2.2.2 = true ∧ ((rMon fr (dvd (mRat c n z) (uRt pv ts fr c)).1 (dvd (mRat c n z) (uRt pv ts fr c)).2.1 (dvd (mRat c n z) (uRt pv ts fr c)).2.2.1 3).2.2 = true →
      ((rMon fr (dvd (mRat c n z) (uRt pv ts fr c)).1 (dvd (mRat c n z) (uRt pv ts fr c)).2.1 (dvd (mRat c n z) (uRt pv ts fr c)).2.2.1 3).1.1, (rMon fr (dvd (mRat c n z) (uRt pv ts fr c)).1 (dvd (mRat c n z) (uRt pv ts fr c)).2.1 (dvd (mRat c n z) (uRt pv ts fr c)).2.2.1 3).1.2.1, (rMon fr (dvd (mRat c n z) (uRt pv ts fr c)).1 (dvd (mRat c n z) (uRt pv ts fr c)).2.1 (dvd (mRat c n z) (uRt pv ts fr c)).2.2.1 3).1.2.2, true) = need pv ts c n z fr) ∧
      ((rMon fr (dvd (mRat c n z) (uRt pv ts fr c)).1 (dvd (mRat c n z) (uRt pv ts fr c)).2.1 (dvd (mRat c n z) (uRt pv ts fr c)).2.2.1 3).2.2 = false → need pv ts c n z fr = noM) := by
  obtain ⟨y, e, he, hR, hy, a1, a2⟩ := PosL_uRt hu
  obtain ⟨x, rfl, rfl, hx⟩ := h.int
  have hn := need_ok h hu (by rw [he]) (by rw [he]) (y := y) (e := e)
  have hre := ROk_iff.1 hR
  have hX : ROk (ng x) (dg x.natAbs) (dg 1) := ROk_iff.2 ⟨by decide, by omega, by rw [dg_1]; simp, Nat.gcd_one_right _⟩
  have hd : dvd (mRat c (ng x) (dg x.natAbs)) (uRt pv ts fr c) = rR (x * (e : Int)) y.natAbs := by
    rw [mRat_ok h, he]
    show rDiv (ng x) (dg x.natAbs) [1] (ng y) (dg y.natAbs) (dg e) = _
    rw [← dg_1, rDiv_ok hX hR, ng_false.2 (Int.le_of_lt hy), show (ng x != false) = ng x by cases ng x <;> rfl, Nat.one_mul]
    congr 1
    have := mul_nat_sg x e
    rw [← sgI_nz, this.1, show x.natAbs * e = (x * (e : Int)).natAbs by rw [Int.natAbs_mul, Int.natAbs_natCast], sgI_ng]
  rw [hd]
  have l1 := len_mul x.natAbs e
  have hl : (dg (x * (e : Int)).natAbs).length ≤ 14 := by rw [Int.natAbs_mul, Int.natAbs_natCast]; omega
  have hy0 : 0 < y.natAbs := by omega
  have h3 : (dg (lowN (x * (e : Int)) y.natAbs).natAbs).length ≤ 14 := by rw [lowN_abs]; exact Nat.le_trans (len_div _ _) hl
  have h4 : (dg (lowD (x * (e : Int)) y.natAbs)).length ≤ 18 := Nat.le_trans (len_div _ _) (by omega)
  have hrr : rR (x * (e : Int)) y.natAbs = (ng (lowN (x * (e : Int)) y.natAbs), dg (lowN (x * (e : Int)) y.natAbs).natAbs, dg (lowD (x * (e : Int)) y.natAbs), true) := by unfold rR; rw [if_pos ⟨hy0, by omega, h4⟩]
  have hlow := low_ok hy0 (show (dg (lowN (x * (e : Int)) y.natAbs).natAbs).length ≤ 18 by omega) h4
  have hs := rRest_small (m := 3) hlow (by decide) (by omega)
  rw [rqI_low _ hy0] at hs
  rw [hrr, hn]
  refine ⟨rfl, fun hg => ?_, fun hg => ?_⟩
  · show (_, _, _, true) = _
    cases hm : (mR fr (rqI (x * (e : Int)) y.natAbs 3)).2.2.2 with
    | true =>
      have hk := rMon_ok (c := fr) hs.2.1 hs.2.2 hs.1 hm
      rw [hk]
      show ((mR fr (rqI (x * (e : Int)) y.natAbs 3)).1, (mR fr (rqI (x * (e : Int)) y.natAbs 3)).2.1, (mR fr (rqI (x * (e : Int)) y.natAbs 3)).2.2.1, true) = _
      rw [← hm]
    | false =>
      have hk := rMon_no (c := fr) hs.2.1 hs.2.2 (fun h9 => by rw [h9.2] at hm; cases hm)
      rw [hk] at hg; cases hg
  · cases hm : (mR fr (rqI (x * (e : Int)) y.natAbs 3)).2.2.2 with
    | true =>
      have hk := rMon_ok (c := fr) hs.2.1 hs.2.2 hs.1 hm
      rw [hk] at hg; cases hg
    | false => exact mR_false hm
end Go.Proofs.YtlnemcbdbehehaaGreatDoor
