/- Plain lemmas on numbers and lists; no program in sight. Conditions: none. -/
import Derived.Test.YtjkeefmpjocilaaNatSk
set_option linter.unusedVariables false
set_option linter.unusedSimpArgs false
namespace Go.Proofs.Ytjkeefmpjocilaa
open Go Go.RowKit
/-! ### even shares -/
def ones (n : Nat) : List Int := List.replicate n 1
theorem ones_len {n : Nat} : (ones n).length = n := List.length_replicate
theorem ones_sum : ∀ n, (ones n).sum = (n : Int)
  | 0 => rfl
  | n + 1 => by
    have := ones_sum n
    unfold ones at *
    rw [List.replicate_succ, List.sum_cons, this]; omega
theorem ones_ok {n : Nat} (h : 1 ≤ n ∧ n ≤ 30) : WOk (ones n) :=
  ⟨by rw [ones_len]; exact h.1, by rw [ones_len]; exact h.2, fun x hx => by rw [List.eq_of_mem_replicate hx]; decide, by rw [ones_sum]; omega⟩
theorem ones_wt {n i : Nat} (h : i < n) : wt (ones n) i = 1 := by unfold wt ones; simp [h]
theorem ones_tW (n : Nat) : tW (ones n) = n := by unfold tW; rw [ones_sum]; rfl
theorem ones_sR {X n i : Nat} (h : i < n) : sR X (ones n) i = X % n := by unfold sR; rw [ones_wt h, ones_tW, Nat.mul_one]
theorem ones_sQ {X n i : Nat} (h : i < n) : sQ X (ones n) i = X / n := by unfold sQ; rw [ones_wt h, ones_tW, Nat.mul_one]
theorem ones_sorted0 (X n : Nat) : SortTo (sR X (ones n)) (List.range n) n := range_sorted fun p q h1 h2 => .inr ⟨by rw [ones_sR (by omega), ones_sR (by omega)], h1⟩
theorem ones_sorted (X n : Nat) : SortTo (sR X (ones n)) (List.range (ones n).length) (ones n).length := by
  rw [ones_len]; exact ones_sorted0 X n
theorem ones_rank {X n i : Nat} (h : i < n) : rank (sR X (ones n)) (ones n).length i = i := by
  rw [ones_len]
  have h1 := rank_at (List.Perm.refl _) (ones_sorted0 X n) h
  have e : (List.range n).getD i 0 = i := by simp [h]
  rwa [e] at h1
theorem ones_mg {X n i : Nat} (h : i < n) : mg X (ones n) i = X / n + if decide (i < mis X (ones n)) = true then 1 else 0 := by unfold mg; rw [ones_rank h, ones_sQ h]
theorem even_at {x : Int} {n i : Nat} (h : i < n) : ((shrs x (ones n)).getD i 0).natAbs = x.natAbs / n + if decide (i < mis x.natAbs (ones n)) = true then 1 else 0 := by
  rw [shrs_get (by rw [ones_len]; exact h), shr_abs, ones_mg h]
theorem even_len {x : Int} {n i k : Nat} (hn : 1 ≤ n ∧ n ≤ 30) (h : i < n) (hx : (dg x.natAbs).length ≤ k) : (dg ((shrs x (ones n)).getD i 0).natAbs).length ≤ k + 1 := by
  rw [shrs_get (by rw [ones_len]; exact h), shr_abs]; exact mg_len (ones_ok hn) (by rw [ones_len]; exact h) hx
theorem cmpI_ge {a b : Int} (h : b ≤ a) : ¬ cmpI a b < 0 := by
  unfold cmpI; rw [if_neg (by omega)]; split <;> decide
theorem even_order {x : Int} {n i : Nat} (h1 : 1 ≤ i) (h : i < n) : ¬ cmpI ((((shrs x (ones n)).getD (i - 1) 0).natAbs : Nat) : Int) ((((shrs x (ones n)).getD i 0).natAbs : Nat) : Int) < 0 := by
  rw [even_at h, even_at (show i - 1 < n by omega)]
  have e : (if decide (i < mis x.natAbs (ones n)) = true then 1 else 0) ≤ (if decide (i - 1 < mis x.natAbs (ones n)) = true then 1 else 0) := by
    by_cases hm : i < mis x.natAbs (ones n)
    · rw [decide_eq_true hm, decide_eq_true (show i - 1 < mis x.natAbs (ones n) by omega)]; exact Nat.le_refl _
    · rw [decide_eq_false hm]; exact Nat.zero_le _
  exact cmpI_ge (by omega)
theorem even_near {x : Int} {n : Nat} (h : 1 ≤ n) : (((shrs x (ones n)).getD 0 0).natAbs : Int) + -(((shrs x (ones n)).getD (n - 1) 0).natAbs : Int) ≤ 1 := by
  rw [even_at (show 0 < n by omega), even_at (show n - 1 < n by omega)]
  split <;> split <;> omega
theorem cmpI_le0 {a b : Int} (h : a ≤ b) : cmpI a b ≤ 0 := by
  unfold cmpI; split
  · decide
  · rw [if_pos (by omega)]; decide
theorem even_abs {x : Int} {n k : Nat} (hn : 1 ≤ n ∧ n ≤ 30) (hx : (dg x.natAbs).length ≤ k) : ∀ i, i < n → (dg ((shrs x (ones n)).getD i 0).natAbs).length ≤ k + 1 := fun i hi => even_len hn hi hx
/-! ### a row that is filled by copies of itself -/
def fill (k n : Nat) : List Int := List.replicate k 1 ++ List.replicate (n - k) 0
theorem fill_len {k n : Nat} (h : k ≤ n) : (fill k n).length = n := by unfold fill; simp; omega
theorem fill_all {k n : Nat} (h : k = n) : fill k n = ones n := by subst h; unfold fill ones; simp
theorem fill_one {n : Nat} (h : 1 ≤ n) : (List.replicate n (0 : Int)).take 0 ++ ([1] : List Int).take (min ([1] : List Int).length ((List.replicate n (0 : Int)).length - 0)) ++ (List.replicate n (0 : Int)).drop (0 + min ([1] : List Int).length ((List.replicate n (0 : Int)).length - 0)) = fill 1 n := by
  have e : min ([1] : List Int).length ((List.replicate n (0 : Int)).length - 0) = 1 := by simp only [List.length_cons, List.length_nil, List.length_replicate]; omega
  rw [e]; unfold fill; simp [List.drop_replicate]
theorem fill_more {k n : Nat} (h : k ≤ n) (h1 : 1 ≤ k) : (fill k n).take k ++ ((fill k n).take k).take (min k (n - k)) ++ (fill k n).drop (k + min k (n - k)) = fill (k + min k (n - k)) n := by
  have e1 : (fill k n).take k = List.replicate k 1 := by unfold fill; simp
  have e2 : (fill k n).drop (k + min k (n - k)) = List.replicate (n - (k + min k (n - k))) 0 := by
    unfold fill
    rw [List.drop_append, List.drop_replicate, List.drop_replicate, List.length_replicate]
    rw [show k - (k + min k (n - k)) = 0 by omega, show n - k - (k + min k (n - k) - k) = n - (k + min k (n - k)) by omega]; simp
  rw [e1, e2, List.take_replicate, show min (min k (n - k)) k = min k (n - k) by omega, List.replicate_append_replicate]
  unfold fill; rfl
theorem fill_next {k n : Nat} (h : k ≤ n) (h1 : 1 ≤ k) : (fill k n).take k ++ ((fill k n).take k).take (min ((fill k n).take k).length ((fill k n).length - k)) ++ (fill k n).drop (k + min ((fill k n).take k).length ((fill k n).length - k)) = fill (k + min k (n - k)) n := by
  have e1 : ((fill k n).take k).length = k := by rw [List.length_take, fill_len h]; omega
  rw [e1, fill_len h]; exact fill_more h h1
end Go.Proofs.Ytjkeefmpjocilaa
