/- Plain lemmas on numbers and lists; no program in sight. Conditions: none. -/
import Derived.Test.YtjkeefmpjocilaaNatSi
set_option linter.unusedVariables false
set_option linter.unusedSimpArgs false
namespace Go.Proofs.Ytjkeefmpjocilaa
open Go Go.RowKit
/-! ### the fair share of each weight; steps of the splitting -/
def fsN (x : Int) (ws : List Int) (i : Nat) : Int := lowN (sgI (ng x) (x.natAbs * wt ws i)) (tW ws)
def fsE (x : Int) (ws : List Int) (i : Nat) : Nat := lowD (sgI (ng x) (x.natAbs * wt ws i)) (tW ws)
theorem tW_len {ws : List Int} (h : WOk ws) : (dg (tW ws)).length ≤ 2 := by
  have := w_sum h
  exact dg_len_le (by unfold tW; simp only [Bs]; omega)
theorem wt_len {ws : List Int} (h : WOk ws) (i : Nat) : (dg (wt ws i)).length ≤ 2 := by
  have := w_bd h i
  exact dg_len_le (by unfold wt; simp only [Bs]; omega)
theorem fair_form {x : Int} {ws : List Int} (h : WOk ws) {i : Nat} (hi : i < ws.length) (hx : (dg x.natAbs).length ≤ 8) :
    fair (ng x) (dg x.natAbs) ws (i : Int) = (ng (fsN x ws i), dg (fsN x ws i).natAbs, dg (fsE x ws i), true) ∧ ROk (ng (fsN x ws i)) (dg (fsN x ws i).natAbs) (dg (fsE x ws i)) ∧ (dg (fsN x ws i).natAbs).length ≤ 10 ∧ (dg (fsE x ws i)).length ≤ 2 := by
  have l1 := len_mul x.natAbs (wt ws i)
  have l2 := wt_len h i
  have l3 := tW_len h
  have l4 : (dg (fsN x ws i).natAbs).length ≤ 10 := by show (dg (lowN _ _).natAbs).length ≤ 10; rw [lowN_abs, sgI_abs]; exact Nat.le_trans (len_div _ _) (by omega)
  have l5 : (dg (fsE x ws i)).length ≤ 2 := Nat.le_trans (len_div _ _) l3
  have hp := tW_pos h
  refine ⟨?_, low_ok hp (show (dg (fsN x ws i).natAbs).length ≤ 18 by omega) (show (dg (fsE x ws i)).length ≤ 18 by omega), l4, l5⟩
  rw [fair_ok ⟨h, ⟨by omega, by omega⟩, IOk_ng (by omega)⟩, Int.toNat_natCast]
  show rR (sgI (ng x) (x.natAbs * wt ws i)) (tW ws) = _
  unfold rR
  rw [if_pos ⟨hp, show (dg (fsN x ws i).natAbs).length ≤ 18 by omega, show (dg (fsE x ws i)).length ≤ 18 by omega⟩]; rfl
theorem dg_head {m : Nat} (h0 : 0 < m) (h : m ≤ 999999999) : (dg m).getD 0 0 = (m : Int) := by
  rw [dg, dif_neg (by omega)]
  show ((m % Bs : Nat) : Int) = _
  rw [Nat.mod_eq_of_lt (by simp only [Bs]; omega)]
theorem big_cmp {m : Nat} (h : m ≤ 999999999) : ¬ (0 : Int) < cmpL (dg m) (dg (9223372036854775807 : Int).toNat) := by
  rw [cmpL_dg]; unfold cmpN; rw [if_pos (by omega)]; decide
theorem take_more {ix : List Nat} {k i : Nat} (h : k < ix.length) : i ∈ ix.take (k + 1) ↔ i ∈ ix.take k ∨ i = ix.getD k 0 := by
  rw [List.take_succ_eq_append_getElem h, List.mem_append, gD h]; simp
theorem take_not {ix : List Nat} {n k : Nat} (hP : ix.Perm (List.range n)) (h : k < ix.length) : ix.getD k 0 ∉ ix.take k := fun hm => by
  obtain ⟨q, hq, e⟩ := List.getElem_of_mem hm
  rw [List.length_take] at hq
  rw [List.getElem_take, ← gD (show q < ix.length by omega)] at e
  exact getD_ne hP (show q < k by omega) h e
/-- a share while the units are handed out -/
def mgT (X : Nat) (ws : List Int) (ix : List Nat) (k i : Nat) : Nat := sQ X ws i + if decide (i ∈ ix.take k) = true then 1 else 0
theorem mgT_zero {X : Nat} {ws : List Int} {ix : List Nat} {i : Nat} : mgT X ws ix 0 i = sQ X ws i := by unfold mgT; simp
theorem mgT_same {X : Nat} {ws : List Int} {ix : List Nat} {k i : Nat} (h : k < ix.length) (hne : i ≠ ix.getD k 0) : mgT X ws ix (k + 1) i = mgT X ws ix k i := by
  unfold mgT
  have e : decide (i ∈ ix.take (k + 1)) = decide (i ∈ ix.take k) := decide_eq_decide.2 (by rw [take_more h]; exact ⟨fun h1 => h1.resolve_right hne, .inl⟩)
  rw [e]
theorem mgT_more {X : Nat} {ws : List Int} {ix : List Nat} {n k : Nat} (hP : ix.Perm (List.range n)) (h : k < ix.length) : mgT X ws ix k (ix.getD k 0) + 1 = mgT X ws ix (k + 1) (ix.getD k 0) := by
  unfold mgT
  have e1 : decide (ix.getD k 0 ∈ ix.take k) = false := decide_eq_false (take_not hP h)
  have e2 : decide (ix.getD k 0 ∈ ix.take (k + 1)) = true := decide_eq_true ((take_more h).2 (.inr rfl))
  rw [e1, e2]; simp
theorem mgT_all {X : Nat} {ws : List Int} {ix : List Nat} {i : Nat} (h : WOk ws) (hP : ix.Perm (List.range ws.length)) (hs : SortTo (sR X ws) ix ws.length) (hi : i < ws.length) : mgT X ws ix (mis X ws) i = mg X ws i := by
  unfold mgT mg
  have := first_rank hP hs (Nat.le_of_lt (mis_lt (X := X) h)) hi
  rw [decide_eq_decide.2 this]
theorem sR_len {X : Nat} {ws : List Int} (h : WOk ws) (i : Nat) : (dg (sR X ws i)).length ≤ 100 := Nat.le_trans (len_mod (tW_pos h)) (Nat.le_trans (tW_len h) (by decide))
theorem rr_len (n : Nat) : (List.range (List.range n).length) = List.range n := by rw [List.length_range]
theorem sub_up {X : Nat} {ws : List Int} {k : Nat} : X - upto (sQ X ws) k - sQ X ws k = X - upto (sQ X ws) (k + 1) := by show _ = X - (upto (sQ X ws) k + sQ X ws k); omega
theorem shr_ng {x : Int} {ws : List Int} {i : Nat} : nz (ng x) (dg (mg x.natAbs ws i)) = ng (shr x ws i) := ng_sgI _ _
theorem shr_abs {x : Int} {ws : List Int} {i : Nat} : (shr x ws i).natAbs = mg x.natAbs ws i := sgI_abs _ _
theorem mg_len {X : Nat} {ws : List Int} (h : WOk ws) {i k : Nat} (hi : i < ws.length) (hk : (dg X).length ≤ k) : (dg (mg X ws i)).length ≤ k + 1 := by
  have h1 := mg_le (X := X) h hi
  have h2 := lt_of_dg_len hk
  refine dg_len_le (Nat.lt_of_le_of_lt h1 ?_)
  rw [Nat.pow_succ]; simp only [Bs] at *; omega
end Go.Proofs.Ytjkeefmpjocilaa
