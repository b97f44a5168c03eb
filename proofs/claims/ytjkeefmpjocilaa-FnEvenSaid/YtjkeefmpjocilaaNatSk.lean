/- Plain lemmas on numbers and lists; no program in sight. Conditions: none. -/
import Derived.Test.YtjkeefmpjocilaaNatSj
import Derived.Test.YtjkeefmpjocilaaSxR
set_option linter.unusedVariables false
set_option linter.unusedSimpArgs false
namespace Go.Proofs.Ytjkeefmpjocilaa
open Go Go.RowKit
/-! ### what the law of shares asks -/
theorem sgI_inj {b : Bool} {m n : Nat} (h : sgI b m = sgI b n) : m = n := by have := congrArg Int.natAbs h; rwa [sgI_abs, sgI_abs] at this
theorem rqI_sgI {b : Bool} {M d : Nat} {m : Int} : ∃ q : Nat, rqI (sgI b M) d m = sgI b q ∧ q = rq (sgI b M) d m := by
  refine ⟨rq (sgI b M) d m, ?_, rfl⟩
  unfold rqI
  rcases Nat.eq_zero_or_pos M with h | h
  · subst h
    have e : rq (sgI b 0) d m = 0 := by
      unfold rq; rw [sgI_abs]; simp
    rw [e]; cases b <;> rfl
  · have e : ng (sgI b M) = b := by
      cases b with
      | false => exact ng_false.2 (by show (0 : Int) ≤ (M : Int); omega)
      | true => exact ng_true.2 (by show -(M : Int) < 0; omega)
    rw [e]
theorem rq_down {b : Bool} {M d : Nat} : rq (sgI b M) d 0 = M / d := by
  rw [rq_dn (by rintro ⟨_, h⟩; simp [awayB] at h), sgI_abs]
theorem rq_away {b : Bool} {M d : Nat} : rq (sgI b M) d 1 = M / d + if 0 < M % d then 1 else 0 := by
  unfold rq; rw [sgI_abs]
  congr 1
  by_cases h : 0 < M % d
  · rw [if_pos h, if_pos ⟨h, by simp [awayB]⟩]
  · rw [if_neg h, if_neg (fun h' => h h'.1)]
theorem down_eq {x : Int} {ws : List Int} (h : WOk ws) (i : Nat) : rqI (fsN x ws i) (fsE x ws i) 0 = sgI (ng x) (sQ x.natAbs ws i) := by
  unfold fsN fsE
  rw [rqI_low _ (tW_pos h)]
  obtain ⟨q, e, e2⟩ := rqI_sgI (b := ng x) (M := x.natAbs * wt ws i) (d := tW ws) (m := 0)
  rw [e, e2, rq_down]; rfl
theorem up_eq {x : Int} {ws : List Int} (h : WOk ws) (i : Nat) : rqI (fsN x ws i) (fsE x ws i) 1 = sgI (ng x) (sQ x.natAbs ws i + if 0 < sR x.natAbs ws i then 1 else 0) := by
  unfold fsN fsE
  rw [rqI_low _ (tW_pos h)]
  obtain ⟨q, e, e2⟩ := rqI_sgI (b := ng x) (M := x.natAbs * wt ws i) (d := tW ws) (m := 1)
  rw [e, e2, rq_away]; rfl
theorem cmpI_ne0 {x y : Int} : cmpI x y ≠ 0 ↔ x ≠ y := by
  unfold cmpI; split
  · constructor <;> intro _ <;> first | omega | decide
  · split <;> simp_all
theorem more_iff {x : Int} {ws : List Int} (h : WOk ws) {i : Nat} (hi : i < ws.length) : cmpI ((shrs x ws).getD i 0) (rqI (fsN x ws i) (fsE x ws i) 0) ≠ 0 ↔ rank (sR x.natAbs ws) ws.length i < mis x.natAbs ws := by
  rw [shrs_get hi, down_eq h, cmpI_ne0]
  unfold shr mg
  constructor
  · intro hne
    by_cases hr : rank (sR x.natAbs ws) ws.length i < mis x.natAbs ws
    · exact hr
    · rw [decide_eq_false hr] at hne; exact absurd rfl hne
  · intro hr he
    rw [decide_eq_true hr] at he
    have := sgI_inj he
    simp at this
theorem up_cmp {x : Int} {ws : List Int} (h : WOk ws) (hx : ∃ ix : List Nat, ix.Perm (List.range ws.length) ∧ SortTo (sR x.natAbs ws) ix ws.length) {i : Nat} (hi : i < ws.length) (hm : cmpI ((shrs x ws).getD i 0) (rqI (fsN x ws i) (fsE x ws i) 0) ≠ 0) : cmpI ((shrs x ws).getD i 0) (rqI (fsN x ws i) (fsE x ws i) 1) = 0 := by
  obtain ⟨ix, hP, hs⟩ := hx
  have hr := (more_iff h hi).1 hm
  apply cmpI_eq0
  rw [shrs_get hi, up_eq h, if_pos (rank_rest h hP hs hi hr)]
  unfold shr mg
  rw [decide_eq_true hr]; rfl
theorem zero_sign {x : Int} {ws : List Int} (h : WOk ws) (hx : ∃ ix : List Nat, ix.Perm (List.range ws.length) ∧ SortTo (sR x.natAbs ws) ix ws.length) {i : Nat} (hi : i < ws.length) (h0 : ws.getD i 0 = 0) : ((shrs x ws).getD i 0).sign = 0 := by
  obtain ⟨ix, hP, hs⟩ := hx
  have hw : wt ws i = 0 := by unfold wt; rw [h0]; rfl
  have hq : sQ x.natAbs ws i = 0 := by unfold sQ; rw [hw]; simp
  have hR : sR x.natAbs ws i = 0 := by unfold sR; rw [hw]; simp
  have hr : ¬ rank (sR x.natAbs ws) ws.length i < mis x.natAbs ws := fun hr => by have := rank_rest h hP hs hi hr; omega
  rw [shrs_get hi]; unfold shr mg
  rw [decide_eq_false hr, hq]
  cases ng x <;> rfl
/-- what a fair share has beyond the whole -/
abbrev lkN (x : Int) (e : Nat) : Nat := (x + -rqI x e 0 * (e : Int)).natAbs
theorem lk_mod {b : Bool} {M e : Nat} : lkN (sgI b M) e = M % e := by
  obtain ⟨q, h1, h2⟩ := rqI_sgI (b := b) (M := M) (d := e) (m := 0)
  unfold lkN
  rw [h1, h2, rq_down]
  have hd := Nat.div_add_mod M e
  have hd2 : (e : Int) * ((M / e : Nat) : Int) + ((M % e : Nat) : Int) = (M : Int) := by rw [← Int.natCast_mul, ← Int.natCast_add, hd]
  cases b with
  | false =>
    show ((M : Int) + -((M / e : Nat) : Int) * (e : Int)).natAbs = _
    rw [Int.neg_mul, Int.mul_comm]; omega
  | true =>
    show (-(M : Int) + -(-((M / e : Nat) : Int)) * (e : Int)).natAbs = _
    rw [Int.neg_neg, Int.mul_comm]; omega
theorem lk_gcd {x : Int} {ws : List Int} (h : WOk ws) (i : Nat) : ∃ g, 0 < g ∧ g * lkN (fsN x ws i) (fsE x ws i) = sR x.natAbs ws i ∧ g * fsE x ws i = tW ws := by
  have hp := tW_pos h
  refine ⟨Nat.gcd (sgI (ng x) (x.natAbs * wt ws i)).natAbs (tW ws), gcd_pos_r hp, ?_, ?_⟩
  · have e1 : fsN x ws i = sgI (ng (sgI (ng x) (x.natAbs * wt ws i))) ((sgI (ng x) (x.natAbs * wt ws i)).natAbs / Nat.gcd (sgI (ng x) (x.natAbs * wt ws i)).natAbs (tW ws)) := rfl
    rw [e1, lk_mod]
    unfold fsE lowD
    rw [← Nat.mul_mod_mul_left, Nat.mul_div_cancel' (Nat.gcd_dvd_left _ _), Nat.mul_div_cancel' (Nat.gcd_dvd_right _ _), sgI_abs]; rfl
  · unfold fsE lowD; exact Nat.mul_div_cancel' (Nat.gcd_dvd_right _ _)
theorem cmpI_scale {a b k : Int} (hk : 0 < k) : cmpI (a * k) (b * k) = cmpI a b := by
  unfold cmpI
  by_cases h : a < b
  · rw [if_pos h, if_pos (Int.mul_lt_mul_of_pos_right h hk)]
  · rw [if_neg h, if_neg (fun h' => h (Int.lt_of_mul_lt_mul_right h' (Int.le_of_lt hk)))]
    by_cases h2 : a = b
    · rw [if_pos h2, if_pos (by rw [h2])]
    · rw [if_neg h2, if_neg (fun h' => h2 (Int.eq_of_mul_eq_mul_right (by omega) h'))]
theorem lack_cmp {x : Int} {ws : List Int} (h : WOk ws) (i k : Nat) : cmpI (((lkN (fsN x ws k) (fsE x ws k) : Nat) : Int) * (fsE x ws i : Int)) (((lkN (fsN x ws i) (fsE x ws i) : Nat) : Int) * (fsE x ws k : Int)) = cmpI ((sR x.natAbs ws k : Nat) : Int) ((sR x.natAbs ws i : Nat) : Int) := by
  obtain ⟨gk, pk, k1, k2⟩ := lk_gcd (x := x) h k
  obtain ⟨gi, pi, i1, i2⟩ := lk_gcd (x := x) h i
  have hp := tW_pos h
  have hs := cmpI_scale (a := ((sR x.natAbs ws k : Nat) : Int)) (b := ((sR x.natAbs ws i : Nat) : Int)) (k := (tW ws : Int)) (by omega)
  rw [← hs, ← cmpI_scale (k := (gk : Int) * (gi : Int)) (Int.mul_pos (by omega) (by omega))]
  congr 1
  · rw [← k1, ← i2]; push_cast; grind
  · rw [← i1, ← k2]; push_cast; grind
/-- one who gets one more lacked no less than one who does not -/
theorem lack_order {x : Int} {ws : List Int} (h : WOk ws) {i k : Nat} (hi : i < ws.length) (hk : k < ws.length) (hm : cmpI ((shrs x ws).getD i 0) (rqI (fsN x ws i) (fsE x ws i) 0) ≠ 0) (hn : ¬ cmpI ((shrs x ws).getD k 0) (rqI (fsN x ws k) (fsE x ws k) 0) ≠ 0) :
    (sR x.natAbs ws k : Nat) < sR x.natAbs ws i ∨ (sR x.natAbs ws k = sR x.natAbs ws i ∧ i < k) := by
  have h1 := (more_iff h hi).1 hm
  have h2 : ¬ rank (sR x.natAbs ws) ws.length k < mis x.natAbs ws := fun hr => hn ((more_iff h hk).2 hr)
  exact rank_bef h1 h2 hi
theorem lack_pos {x : Int} {ws : List Int} (h : WOk ws) {i k : Nat} (ho : (sR x.natAbs ws k : Nat) < sR x.natAbs ws i ∨ (sR x.natAbs ws k = sR x.natAbs ws i ∧ i < k)) : ¬ (0 : Int) < cmpI (((lkN (fsN x ws k) (fsE x ws k) : Nat) : Int) * (fsE x ws i : Int)) (((lkN (fsN x ws i) (fsE x ws i) : Nat) : Int) * (fsE x ws k : Int)) := by
  rw [lack_cmp h]; unfold cmpI; split
  · decide
  · split
    · decide
    · omega
theorem lack_tie {x : Int} {ws : List Int} (h : WOk ws) {i k : Nat} (ho : (sR x.natAbs ws k : Nat) < sR x.natAbs ws i ∨ (sR x.natAbs ws k = sR x.natAbs ws i ∧ i < k)) (h0 : cmpI (((lkN (fsN x ws k) (fsE x ws k) : Nat) : Int) * (fsE x ws i : Int)) (((lkN (fsN x ws i) (fsE x ws i) : Nat) : Int) * (fsE x ws k : Int)) = 0) : ¬ k < i := by
  rw [lack_cmp h] at h0
  rcases ho with h1 | h1
  · unfold cmpI at h0; rw [if_pos (by omega)] at h0; cases h0
  · omega
/-! ### sums, weights that are drawn -/
theorem sum_bdI {xs : List Int} {L : Nat} (h : ∀ i, i < xs.length → (dg (xs.getD i 0).natAbs).length ≤ L) : ∀ k, k ≤ xs.length → (xs.take k).sum.natAbs ≤ k * Bs ^ L
  | 0, _ => by simp
  | k + 1, hk => by
    have h1 := sum_bdI h k (by omega)
    have h2 := lt_of_dg_len (h k (by omega))
    rw [sum_take_succ (by omega), Nat.add_mul, Nat.one_mul]
    have := Int.natAbs_add_le (xs.take k).sum (xs.getD k 0)
    omega
theorem sum_lenI {xs : List Int} {L : Nat} (h : ∀ i, i < xs.length → (dg (xs.getD i 0).natAbs).length ≤ L) {k : Nat} (hk : k ≤ xs.length) (hn : xs.length ≤ 1000) : (dg (xs.take k).sum.natAbs).length ≤ L + 1 := by
  have h1 := sum_bdI h k hk
  refine dg_len_le (Nat.lt_of_le_of_lt h1 ?_)
  have h2 : k * Bs ^ L ≤ 1000 * Bs ^ L := Nat.mul_le_mul_right _ (by omega)
  have h3 : 0 < Bs ^ L := Nat.pow_pos (by decide)
  rw [Nat.pow_succ]; simp only [Bs] at *; omega
def Wd (os : List Int) : Prop := (∀ x ∈ os, 0 ≤ x ∧ x ≤ 99) ∧ 0 < os.sum ∧ 1 ≤ os.length
theorem Wd_one {x : Int} (h : 1 ≤ x ∧ x ≤ 9) : Wd [x] := ⟨fun y hy => by simp only [List.mem_cons, List.not_mem_nil, or_false] at hy; omega, by simp; omega, by simp⟩
theorem Wd_snoc {os : List Int} {x : Int} (h : Wd os) (hx : 0 ≤ x ∧ x ≤ 99) : Wd (os ++ [x]) := by
  refine ⟨fun y hy => ?_, by rw [List.sum_append]; have := h.2.1; simp; omega, by simp⟩
  rcases List.mem_append.1 hy with h1 | h1
  · exact h.1 y h1
  · simp only [List.mem_cons, List.not_mem_nil, or_false] at h1; omega
theorem Wd_ok {os : List Int} (h : Wd os) (hl : os.length ≤ 30) : WOk os := ⟨h.2.2, hl, fun x hx => by have := h.1 x hx; omega, h.2.1⟩
theorem Wd_at {os : List Int} (h : Wd os) (i : Nat) : wt os i ≤ 99 := by
  unfold wt
  rcases Nat.lt_or_ge i os.length with hi | hi
  · have := h.1 (os.getD i 0) (by simp [List.getElem?_eq_getElem hi]); omega
  · simp [List.getElem?_eq_none hi]
theorem fs_len {x : Int} {ws : List Int} (h : Wd ws) {i : Nat} (hx : (dg x.natAbs).length ≤ 3) : (dg (fsN x ws i).natAbs).length ≤ 4 := by
  have l1 := len_mul x.natAbs (wt ws i)
  have l2 : (dg (wt ws i)).length ≤ 1 := dg_len_le (by have := Wd_at h i; simp only [Bs]; omega)
  show (dg (lowN _ _).natAbs).length ≤ 4
  rw [lowN_abs, sgI_abs]; exact Nat.le_trans (len_div _ _) (by omega)
theorem SgS.fit {w : World} {lo hi : Nat} {v : Value} {xs : List Int} {vs : List Value} (hs : SgS w lo hi v xs vs) : SgS w lo w.heap.size v xs vs := ⟨hs.len, hs.sv.fit, fun i h => (hs.nest i h).fit⟩
end Go.Proofs.Ytjkeefmpjocilaa
