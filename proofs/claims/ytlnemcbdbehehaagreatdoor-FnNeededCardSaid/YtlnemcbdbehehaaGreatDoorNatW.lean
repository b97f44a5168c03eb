/- Plain lemmas on numbers and lists; no program in sight. Conditions: none. -/
import Derived.Test.YtlnemcbdbehehaaGreatDoorNatP
import Derived.Test.YtlnemcbdbehehaaGreatDoorNatS
import Derived.Test.YtlnemcbdbehehaaGreatDoorNatT
set_option linter.unusedVariables false
set_option linter.unusedSimpArgs false
namespace Go.Proofs.YtlnemcbdbehehaaGreatDoor
open Go Go.RowKit
/-! ### what is needed is the least that comes to so much -/
/-- rounded up: not less, and by less than one more -/
theorem ceil_bd {x : Int} {d : Nat} (hx : 0 ≤ x) (hd : 0 < d) : x ≤ rqI x d 3 * (d : Int) ∧ (rqI x d 3 - 1) * (d : Int) < x ∧ 0 ≤ rqI x d 3 := by
  have h1 := Nat.div_add_mod x.natAbs d
  have h2 := Nat.mod_lt x.natAbs hd
  have hn := ng_false.2 hx
  have h3 : (x.natAbs % d = 0 ∧ rq x d 3 = x.natAbs / d) ∨ (0 < x.natAbs % d ∧ rq x d 3 = x.natAbs / d + 1) := by
    by_cases hr : 0 < x.natAbs % d
    · exact .inr ⟨hr, rq_up hr (by simp [awayB, hn])⟩
    · exact .inl ⟨by omega, rq_dn (fun h => hr h.1)⟩
  have e0 : ((rq x d 3 : Nat) : Int) * (d : Int) = ((d * (rq x d 3) : Nat) : Int) := by rw [Int.natCast_mul, Int.mul_comm]
  have h4 : (x.natAbs % d = 0 ∧ d * rq x d 3 = d * (x.natAbs / d)) ∨ (0 < x.natAbs % d ∧ d * rq x d 3 = d * (x.natAbs / d) + d) := by
    rcases h3 with ⟨h0, h⟩ | ⟨h0, h⟩
    · rw [h]; exact .inl ⟨h0, rfl⟩
    · rw [h, Nat.mul_add, Nat.mul_one]; exact .inr ⟨h0, rfl⟩
  have eq : rqI x d 3 = ((rq x d 3 : Nat) : Int) := by unfold rqI; rw [hn]; rfl
  rw [eq, Int.sub_mul, e0, Int.one_mul]
  omega
def Sm (L M : Nat) (r : Bool × List Int × List Int × Bool) : Prop := ∃ (x : Int) (e : Nat), r = (ng x, dg x.natAbs, dg e, true) ∧ ROk (ng x) (dg x.natAbs) (dg e) ∧ 0 < x ∧ x.natAbs ≤ L ∧ e ≤ M
theorem Sm_rR {x : Int} {d L M : Nat} (hx : 0 < x) (hd : 0 < d) (h1 : x.natAbs ≤ L) (h2 : d ≤ M) (l1 : (dg x.natAbs).length ≤ 18) (l2 : (dg d).length ≤ 18) : Sm L M (rR x d) := by
  have h3 : (dg (lowN x d).natAbs).length ≤ 18 := by rw [lowN_abs]; exact Nat.le_trans (len_div _ _) l1
  have h4 : (dg (lowD x d)).length ≤ 18 := Nat.le_trans (len_div _ _) l2
  refine ⟨lowN x d, lowD x d, ?_, low_ok hd (by omega) (by omega), lowN_pos hx hd, by rw [lowN_abs]; exact Nat.le_trans (Nat.div_le_self _ _) h1, Nat.le_trans (Nat.div_le_self _ _) h2⟩
  unfold rR; rw [if_pos ⟨hd, by omega, by omega⟩]
theorem dg_le18 {n k : Nat} (h : n ≤ 1000000000000000000) (hk : 3 ≤ k) : (dg n).length ≤ k := Nat.le_trans (dg_len_le (k := 3) (by simp only [Bs]; omega)) hk
theorem ten4 {p : Int} (h : 0 ≤ p ∧ p ≤ 4) : 10 ^ p.toNat ≤ 10000 ∧ 0 < 10 ^ p.toNat := by
  have : p = 0 ∨ p = 1 ∨ p = 2 ∨ p = 3 ∨ p = 4 := by omega
  rcases this with rfl | rfl | rfl | rfl | rfl <;> decide
theorem Sm_rate {r : Rt} (hP : RPr r) (hS : SmR r) : Sm 10000 10000 (dRat r.2.2.1 r.2.2.2.1 r.2.2.2.2) := by
  obtain ⟨_, _, _, hD, hp, hl⟩ := hP
  obtain ⟨h0, ⟨m, hm, m1, m2⟩, p1, p2⟩ := hS
  have ht := ten4 ⟨p1, p2⟩
  have e : r.2.2.1 = ng ((m : Nat) : Int) := by rw [h0, ng_false.2 (Int.natCast_nonneg m)]
  have e2 : r.2.2.2.1 = dg ((m : Nat) : Int).natAbs := by rw [hm, Int.natAbs_natCast]
  rw [e, e2] at hD ⊢
  rw [dRat_ok hD, sgI_ng]
  exact Sm_rR (by omega) ht.2 (by rw [Int.natAbs_natCast]; omega) ht.1 (dg_le18 (by rw [Int.natAbs_natCast]; omega) (by decide)) (dg_le18 (by omega) (by decide))
theorem Sm_inv {r : Bool × List Int × List Int × Bool} (h : Sm 10000 10000 r) : Sm 10000 10000 (rDiv oneR.1 oneR.2.1 oneR.2.2.1 r.1 r.2.1 r.2.2.1) := by
  obtain ⟨x, e, rfl, hR, hx, h1, h2⟩ := h
  have he := (ROk_iff.1 hR).1
  have e1 : rDiv oneR.1 oneR.2.1 oneR.2.2.1 (ng x) (dg x.natAbs) (dg e) = rR (sgI (ng 1 != ng x) ((1 : Int).natAbs * e)) (1 * x.natAbs) := by
    have := rDiv_ok (x1 := 1) (e1 := 1) ROk_one hR
    rw [ng_1, dg_i1, dg_1] at this
    rw [ng_1]; exact this
  show Sm 10000 10000 (rDiv oneR.1 oneR.2.1 oneR.2.2.1 (ng x) (dg x.natAbs) (dg e))
  rw [e1, ng_1, ng_false.2 (Int.le_of_lt hx)]
  have e2 : sgI (false != false) ((1 : Int).natAbs * e) = (e : Int) := by
    show sgI false (1 * e) = _
    rw [Nat.one_mul]; rfl
  rw [e2, Nat.one_mul]
  exact Sm_rR (by omega) (by omega) (by rw [Int.natAbs_natCast]; exact h2) h1 (dg_le18 (by rw [Int.natAbs_natCast]; omega) (by decide)) (dg_le18 (by omega) (by decide))
theorem Sm_lst {ts : List Rt} {a b : ByteArray} (h : AllTo ts ts.length) (hs : ∀ i, i < ts.length → SmR (ts.getD i rt0)) (ha : 0 ≤ atI ts a b) : Sm 10000 10000 (dR (lst ts a b)) := by
  rcases atI_range (ts := ts) (a := a) (b := b) with h1 | h1
  · omega
  · have := Sm_rate (h.1 (atI ts a b).toNat (by omega)) (hs (atI ts a b).toNat (by omega))
    show Sm 10000 10000 (dRat (lst ts a b).1 (lst ts a b).2.1 (lst ts a b).2.2.1)
    unfold lst; rw [if_pos ha]
    exact this
theorem Sm_stp {ts : List Rt} {a b : ByteArray} (h : AllTo ts ts.length) (hs : ∀ i, i < ts.length → SmR (ts.getD i rt0)) (hl : leg ts a b ≠ 0) : Sm 10000 10000 (stp ts a b) := by
  unfold stp
  split
  · rename_i h1; exact Sm_lst h hs h1
  · rename_i h1
    have h2 : 0 ≤ atI ts b a := by
      unfold leg at hl; rw [if_neg h1] at hl
      split at hl
      · assumption
      · exact absurd rfl hl
    exact Sm_inv (Sm_lst h hs h2)
theorem Sm.of {L M L' M' : Nat} {r : Bool × List Int × List Int × Bool} (h : Sm L M r) (h1 : L ≤ L') (h2 : M ≤ M') : Sm L' M' r := by
  obtain ⟨x, e, a, b, c, d, f⟩ := h; exact ⟨x, e, a, b, c, by omega, by omega⟩
theorem Sm_rOf {pv : ByteArray} {ts : List Rt} {a b : ByteArray} (hs : ∀ i, i < ts.length → SmR (ts.getD i rt0)) (h0 : how pv ts a b ≠ 0) : Sm 100000000 100000000 (rOf pv ts a b) := by
  have hT := (how_ok h0).1
  rcases how_range pv ts a b with h | h | h | h | h
  · exact absurd h h0
  · rw [rOf_1 h, rInt_one]
    exact ⟨1, 1, by rw [ng_1, dg_i1, dg_1]; rfl, ROk_one, by decide, by decide, by decide⟩
  · rw [(rOf_23 (.inl h)).1]; exact (Sm_stp hT.2.2 hs (by rw [(how_2 h).1]; decide)).of (by decide) (by decide)
  · rw [(rOf_23 (.inr h)).1]; exact (Sm_stp hT.2.2 hs (by rw [(how_3 h).1]; decide)).of (by decide) (by decide)
  · have h4 := rOf_4 h
    obtain ⟨x1, e1, p1, p2, p3, p4, p5⟩ := Sm_stp hT.2.2 hs (how_4 h).2.2.1
    obtain ⟨x2, e2, q1, q2, q3, q4, q5⟩ := Sm_stp hT.2.2 hs (how_4 h).2.2.2
    rw [h4.2.2.2.2.2.2, p1, q1]
    show Sm _ _ (rMul (ng x1) (dg x1.natAbs) (dg e1) (ng x2) (dg x2.natAbs) (dg e2))
    rw [rMul_ok p2 q2, ng_false.2 (Int.le_of_lt p3), ng_false.2 (Int.le_of_lt q3), show (false != false) = false from rfl, sgI_false]
    have m1 := Nat.mul_le_mul p4 q4
    have m2 := Nat.mul_le_mul p5 q5
    have m3 : 0 < x1.natAbs * x2.natAbs := Nat.mul_pos (by omega) (by omega)
    exact Sm_rR (by omega) (Nat.mul_pos (ROk_iff.1 p2).1 (ROk_iff.1 q2).1) (by rw [Int.natAbs_natCast]; omega) (by omega) (dg_le18 (by rw [Int.natAbs_natCast]; omega) (by decide)) (dg_le18 (by omega) (by decide))
theorem places4 (s : ByteArray) : 0 ≤ (curOf s).places ∧ (curOf s).places ≤ 4 := by
  unfold curOf
  cases e : byCode tabI s with
  | none => exact ⟨by decide, by decide⟩
  | some c =>
    have hc : c ∈ tabI := List.mem_of_find?_eq_some e
    have : ∀ c ∈ tabI, 0 ≤ c.places ∧ c.places ≤ 4 := by decide +kernel
    exact this c hc
theorem Sm_uRt {pv : ByteArray} {ts : List Rt} {a b : ByteArray} (hs : ∀ i, i < ts.length → SmR (ts.getD i rt0)) (h0 : how pv ts a b ≠ 0) : Sm 1000000000000 1000000000000 (uRt pv ts a b) := by
  obtain ⟨x, e, he, hR, hx, a1, a2⟩ := Sm_rOf hs h0
  rw [uRt_ok (by rw [he]) (by rw [he]) (by rw [he]) (by rw [he])]
  have pa := ten4 (places4 a)
  have pb := ten4 (places4 b)
  have m1 := Nat.mul_le_mul a1 pb.1
  have m2 := Nat.mul_le_mul a2 pa.1
  have p1 : 0 < x.natAbs * 10 ^ (curOf b).places.toNat := Nat.mul_pos (by omega) pb.2
  rw [ng_false.2 (Int.le_of_lt hx), sgI_false]
  exact Sm_rR (by omega) (Nat.mul_pos (ROk_iff.1 hR).1 pa.2) (by rw [Int.natAbs_natCast]; omega) (by omega) (dg_le18 (by rw [Int.natAbs_natCast]; omega) (by decide)) (dg_le18 (by omega) (by decide))
theorem uRt_none {pv : ByteArray} {ts : List Rt} {a b : ByteArray} (h : how pv ts a b = 0) : (uRt pv ts a b).2.2.2 = false := by
  rw [uRt_no (by rw [rOf_0 (by omega) (by omega) (by omega) (by omega)]; rfl)]; rfl
/-- the amount that is needed, for a drawn table and a drawn amount -/
theorem need_form {pv : ByteArray} {ts : List Rt} {c fr : ByteArray} {x : Int} (hs : ∀ i, i < ts.length → SmR (ts.getD i rt0)) (hx : 0 ≤ x ∧ x ≤ 29999) :
    ∃ (q : ByteArray) (N : Int), need pv ts c (ng x) (dg x.natAbs) fr = (q, ng N, dg N.natAbs, decide (how pv ts fr c ≠ 0)) ∧ (how pv ts fr c ≠ 0 → fr = q ∧ MOk c (ng x) (dg x.natAbs) ∧ Known fr ∧ (0 ≤ N ∧ N ≤ 100000000000000000) ∧
      ∃ (y : Int) (e : Nat), uRt pv ts fr c = (ng y, dg y.natAbs, dg e, true) ∧ ROk (ng y) (dg y.natAbs) (dg e) ∧ 0 < y ∧ y.natAbs ≤ 1000000000000 ∧ e ≤ 1000000000000 ∧ x * (e : Int) ≤ N * y ∧ (N - 1) * y < x * (e : Int)) := by
  by_cases h0 : how pv ts fr c = 0
  · refine ⟨⟨#[]⟩, 0, ?_, fun h => absurd h0 h⟩
    rw [need_no (fun h => by rw [uRt_none h0] at h; cases h.2), h0, Int.natAbs_zero, dg_zero]; rfl
  · have hk := how_ok h0
    obtain ⟨y, e, hu, hR, hy, y1, e1⟩ := Sm_uRt (a := fr) (b := c) hs h0
    have hM : MOk c (ng x) (dg x.natAbs) := MOk_iff.2 ⟨hk.2.2, dg_le18 (by omega) (by decide)⟩
    have hc := ceil_bd (x := x * (e : Int)) (d := y.natAbs) (Int.mul_nonneg hx.1 (Int.natCast_nonneg e)) (by omega)
    rw [show ((y.natAbs : Nat) : Int) = y by omega] at hc
    have hb : rqI (x * (e : Int)) y.natAbs 3 ≤ 100000000000000000 := by
      have h1 := rq_le (x * (e : Int)) y.natAbs 3
      have h2 : rqI (x * (e : Int)) y.natAbs 3 = ((rq (x * (e : Int)) y.natAbs 3 : Nat) : Int) := by unfold rqI; rw [ng_false.2 (Int.mul_nonneg hx.1 (Int.natCast_nonneg e))]; rfl
      have h3 := Nat.div_le_self (x * (e : Int)).natAbs y.natAbs
      have h4 : (x * (e : Int)).natAbs ≤ 29999 * 1000000000000 := by rw [Int.natAbs_mul, Int.natAbs_natCast]; exact Nat.mul_le_mul (by omega) e1
      omega
    refine ⟨fr, rqI (x * (e : Int)) y.natAbs 3, ?_, fun _ => ⟨rfl, hM, hk.2.1, ⟨hc.2.2, hb⟩, y, e, hu, hR, hy, y1, e1, hc.1, hc.2.1⟩⟩
    rw [need_ok hM (by rw [hu]) (by rw [hu]) (by rw [hu]), decide_eq_true h0]
    exact mR_ok (MOk_iff.2 ⟨hk.2.1, dg_le18 (by omega) (by decide)⟩)
theorem tup_inj2 {x y : Int} {d e : Nat} {b c : Bool} (h : (ng x, dg x.natAbs, dg d, b) = (ng y, dg y.natAbs, dg e, c)) : x = y ∧ d = e := by
  simp only [Prod.mk.injEq] at h
  obtain ⟨h1, h2, h3, _⟩ := h
  refine ⟨?_, dg_inj h3⟩
  rw [← sgI_ng x, ← sgI_ng y, h1, dg_inj h2]
/-- what an amount comes to -/
theorem exct_form {pv : ByteArray} {ts : List Rt} {c to : ByteArray} {N y : Int} {e : Nat} (hM : MOk c (ng N) (dg N.natAbs)) (hu : uRt pv ts c to = (ng y, dg y.natAbs, dg e, true)) (hR : ROk (ng y) (dg y.natAbs) (dg e)) (hy : 0 < y) (y1 : y.natAbs ≤ 1000000000000) (e1 : e ≤ 1000000000000) :
    ∃ (X : Int) (E : Nat), exct pv ts c (ng N) (dg N.natAbs) to = (ng X, dg X.natAbs, dg E, true) ∧ ROk (ng X) (dg X.natAbs) (dg E) ∧ X * (e : Int) = N * y * (E : Int) := by
  have hl := hM.2.2
  have hX : ROk (ng N) (dg N.natAbs) (dg 1) := ROk_whole (by omega)
  have l1 := len_mul N.natAbs y.natAbs
  have ly : (dg y.natAbs).length ≤ 3 := dg_le18 (by omega) (by decide)
  have le : (dg e).length ≤ 3 := dg_le18 (by omega) (by decide)
  have e2 : exct pv ts c (ng N) (dg N.natAbs) to = rR (N * y) e := by
    rw [exct_ok hM (by rw [hu]), mRat_ok hM, hu]
    show rMul (ng N) (dg N.natAbs) [1] (ng y) (dg y.natAbs) (dg e) = _
    rw [← dg_1, rMul_ok hX hR, Nat.one_mul, ng_false.2 (Int.le_of_lt hy)]
    congr 1
    have hyy : ((y.natAbs : Nat) : Int) = y := by omega
    unfold sgI
    by_cases hn : N < 0
    · rw [if_pos (by rw [ng_true.2 hn]; rfl), Int.natCast_mul, hyy, ← Int.neg_mul, show -((N.natAbs : Nat) : Int) = N by omega]
    · rw [if_neg (by rw [ng_false.2 (by omega)]; decide), Int.natCast_mul, hyy, show ((N.natAbs : Nat) : Int) = N by omega]
  obtain ⟨X, E, r1, r2, _, _, r5⟩ := rR_right (x := N * y) (d := e) (k := 18) (by decide) (by rw [Int.natAbs_mul]; omega) (ROk_iff.1 hR).1 (by omega)
  exact ⟨X, E, e2.trans r1, r2, r5⟩
theorem ge_cmp {X x N y : Int} {e E : Nat} (he : 0 < e) (h : X * (e : Int) = N * y * (E : Int)) (hn : x * (e : Int) ≤ N * y) : 0 ≤ cmpI (X * ((1 : Nat) : Int)) (x * (E : Int)) := by
  have h1 : x * (E : Int) * (e : Int) ≤ X * (e : Int) := by
    rw [h, Int.mul_assoc, Int.mul_comm (E : Int), ← Int.mul_assoc]
    exact Int.mul_le_mul_of_nonneg_right hn (Int.natCast_nonneg E)
  have h2 : x * (E : Int) ≤ X := Int.le_of_mul_le_mul_right h1 (by omega)
  have h3 : X * ((1 : Nat) : Int) = X := by rw [Int.natCast_one, Int.mul_one]
  rw [h3]; unfold cmpI; split
  · omega
  · split <;> omega
theorem lt_cmp {X x N y : Int} {e E : Nat} (he : 0 < e) (hE : 0 < E) (h : X * (e : Int) = N * y * (E : Int)) (hn : N * y < x * (e : Int)) : cmpI (X * ((1 : Nat) : Int)) (x * (E : Int)) < 0 := by
  rw [cmpI_lt0]
  have h3 : X * ((1 : Nat) : Int) = X := by rw [Int.natCast_one, Int.mul_one]
  rw [h3]
  have h1 : X * (e : Int) < x * (E : Int) * (e : Int) := by
    rw [h, Int.mul_assoc x, Int.mul_comm (E : Int) (e : Int), ← Int.mul_assoc]
    exact Int.mul_lt_mul_of_pos_right hn (by omega)
  exact Int.lt_of_mul_lt_mul_right h1 (Int.natCast_nonneg e)
end Go.Proofs.YtlnemcbdbehehaaGreatDoor
