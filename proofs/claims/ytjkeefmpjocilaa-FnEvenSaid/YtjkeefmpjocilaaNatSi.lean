/- Plain lemmas on numbers and lists; no program in sight. Conditions: none. -/
import Derived.Test.YtjkeefmpjocilaaNatSh
set_option linter.unusedVariables false
set_option linter.unusedSimpArgs false
namespace Go.Proofs.Ytjkeefmpjocilaa
open Go Go.RowKit
/-! ### shares of a number -/
def wt (ws : List Int) (i : Nat) : Nat := (ws.getD i 0).toNat
def tW (ws : List Int) : Nat := ws.sum.toNat
def sQ (X : Nat) (ws : List Int) (i : Nat) : Nat := X * wt ws i / tW ws
def sR (X : Nat) (ws : List Int) (i : Nat) : Nat := X * wt ws i % tW ws
def upto (f : Nat → Nat) : Nat → Nat
  | 0 => 0
  | k + 1 => upto f k + f k
theorem upto_mono {f : Nat → Nat} : ∀ {a b : Nat}, a ≤ b → upto f a ≤ upto f b
  | a, 0, h => by rw [show a = 0 by omega]; exact Nat.le_refl _
  | a, b + 1, h => by
    by_cases e : a = b + 1
    · rw [e]; exact Nat.le_refl _
    · have := upto_mono (f := f) (show a ≤ b by omega)
      show _ ≤ upto f b + f b; omega
theorem upto_add {f g : Nat → Nat} : ∀ k, upto (fun i => f i + g i) k = upto f k + upto g k
  | 0 => rfl
  | k + 1 => by show upto _ k + (f k + g k) = upto f k + f k + (upto g k + g k); rw [upto_add k]; omega
theorem upto_le {f : Nat → Nat} {c : Nat} : ∀ k, (∀ i, i < k → f i ≤ c) → upto f k ≤ k * c
  | 0, _ => Nat.zero_le _
  | k + 1, h => by
    have h1 := upto_le k (fun i hi => h i (by omega))
    have h2 := h k (by omega)
    show upto f k + f k ≤ _
    rw [Nat.add_mul, Nat.one_mul]; omega
theorem upto_count {p : Nat → Bool} : ∀ k, upto (fun i => if p i = true then 1 else 0) k = (List.range k).countP p
  | 0 => rfl
  | k + 1 => by
    rw [List.range_succ, List.countP_append, ← upto_count k]
    show _ + _ = _
    congr 1
    simp [List.countP_cons]
theorem up_id (X : Nat) (ws : List Int) : ∀ k, tW ws * upto (sQ X ws) k + upto (sR X ws) k = X * upto (wt ws) k
  | 0 => by simp [upto]
  | k + 1 => by
    have h := up_id X ws k
    have h2 := Nat.div_add_mod (X * wt ws k) (tW ws)
    show tW ws * (upto (sQ X ws) k + X * wt ws k / tW ws) + (upto (sR X ws) k + X * wt ws k % tW ws) = X * (upto (wt ws) k + wt ws k)
    rw [Nat.mul_add, Nat.mul_add, ← h]; omega
theorem wt_sum {ws : List Int} (h : WOk ws) : ∀ k, k ≤ ws.length → ((upto (wt ws) k : Nat) : Int) = (ws.take k).sum
  | 0, _ => by simp [upto]
  | k + 1, hk => by
    rw [sum_take_succ (by omega), ← wt_sum h k (by omega)]
    have h1 := w_bd h k
    show ((upto (wt ws) k + wt ws k : Nat) : Int) = _
    unfold wt; omega
theorem wt_all {ws : List Int} (h : WOk ws) : upto (wt ws) ws.length = tW ws := by
  have h1 := wt_sum h ws.length (Nat.le_refl _)
  rw [List.take_length] at h1
  unfold tW; omega
theorem tW_pos {ws : List Int} (h : WOk ws) : 0 < tW ws := by have := w_sum h; unfold tW; omega
theorem upQ_le {X : Nat} {ws : List Int} (h : WOk ws) {k : Nat} (hk : k ≤ ws.length) : upto (sQ X ws) k ≤ X := by
  have h1 := up_id X ws k
  have h2 := upto_mono (f := wt ws) hk
  rw [wt_all h] at h2
  have h3 := Nat.mul_le_mul_left X h2
  have h4 : tW ws * upto (sQ X ws) k ≤ tW ws * X := by rw [Nat.mul_comm (tW ws) X]; omega
  exact Nat.le_of_mul_le_mul_left h4 (tW_pos h)
/-- the units that are left over -/
def mis (X : Nat) (ws : List Int) : Nat := X - upto (sQ X ws) ws.length
theorem mis_lt {X : Nat} {ws : List Int} (h : WOk ws) : mis X ws < ws.length := by
  have h1 := up_id X ws ws.length
  rw [wt_all h] at h1
  have h0 := upQ_le (X := X) h (Nat.le_refl _)
  have hp := tW_pos h
  have h2 : upto (sR X ws) ws.length ≤ ws.length * (tW ws - 1) := upto_le _ fun i _ => by
    have := Nat.mod_lt (X * wt ws i) hp
    show X * wt ws i % tW ws ≤ _; omega
  have h3 : tW ws * mis X ws = upto (sR X ws) ws.length := by unfold mis; rw [Nat.mul_sub, Nat.mul_comm _ X]; omega
  have h4 : 0 < ws.length := h.1
  rcases Nat.lt_or_ge (mis X ws) ws.length with h5 | h5
  · exact h5
  · exfalso
    have h6 := Nat.mul_le_mul_left (tW ws) h5
    rw [h3] at h6
    have h7 : ws.length * (tW ws - 1) = tW ws * ws.length - ws.length := by rw [Nat.mul_sub, Nat.mul_one, Nat.mul_comm]
    have h8 : ws.length ≤ tW ws * ws.length := Nat.le_mul_of_pos_left _ hp
    omega
/-- one share, without its sign -/
def mg (X : Nat) (ws : List Int) (i : Nat) : Nat := sQ X ws i + if decide (rank (sR X ws) ws.length i < mis X ws) = true then 1 else 0
def shr (x : Int) (ws : List Int) (i : Nat) : Int := sgI (ng x) (mg x.natAbs ws i)
def shrs (x : Int) (ws : List Int) : List Int := (List.range ws.length).map (shr x ws)
theorem shrs_len {x : Int} {ws : List Int} : (shrs x ws).length = ws.length := by simp [shrs]
theorem shrs_get {x : Int} {ws : List Int} {i : Nat} (h : i < ws.length) : (shrs x ws).getD i 0 = shr x ws i := by simp [shrs, h]
theorem count_rank {r : Nat → Nat} {ix : List Nat} {n m : Nat} (hP : ix.Perm (List.range n)) (hs : SortTo r ix n) (hm : m ≤ n) : (List.range n).countP (fun i => decide (rank r n i < m)) = m := by
  have hl : ix.length = n := by rw [hP.length_eq, List.length_range]
  rw [← hP.countP_eq]
  have e : ix = ix.take m ++ ix.drop m := (List.take_append_drop m ix).symm
  have h1 : (ix.take m).countP (fun i => decide (rank r n i < m)) = m := by
    rw [List.countP_eq_length.2, List.length_take]
    · omega
    · intro a ha
      obtain ⟨q, hq, rfl⟩ := List.getElem_of_mem ha
      rw [List.length_take] at hq
      rw [List.getElem_take, ← gD (show q < ix.length by omega), rank_at hP hs (by omega)]
      exact decide_eq_true (by omega)
  have h2 : (ix.drop m).countP (fun i => decide (rank r n i < m)) = 0 := by
    rw [List.countP_eq_zero]
    intro a ha
    obtain ⟨q, hq, rfl⟩ := List.getElem_of_mem ha
    rw [List.length_drop] at hq
    rw [List.getElem_drop, ← gD (show m + q < ix.length by omega), rank_at hP hs (by omega)]
    intro hb; have := of_decide_eq_true hb; omega
  have h3 := List.countP_append (p := fun i => decide (rank r n i < m)) (l₁ := ix.take m) (l₂ := ix.drop m)
  rw [← e] at h3
  omega
theorem mg_sum {X : Nat} {ws : List Int} {ix : List Nat} (h : WOk ws) (hP : ix.Perm (List.range ws.length)) (hs : SortTo (sR X ws) ix ws.length) : upto (mg X ws) ws.length = X := by
  have h1 := mis_lt (X := X) h
  have e : upto (mg X ws) ws.length = upto (sQ X ws) ws.length + upto (fun i => if decide (rank (sR X ws) ws.length i < mis X ws) = true then 1 else 0) ws.length := upto_add _
  rw [e, upto_count, count_rank hP hs (by omega)]
  have h0 := upQ_le (X := X) h (Nat.le_refl _)
  unfold mis; omega
theorem sgI_add (b : Bool) (m n : Nat) : sgI b (m + n) = sgI b m + sgI b n := by unfold sgI; split <;> omega
theorem shr_sums {x : Int} {ws : List Int} : ∀ k, ((List.range k).map (shr x ws)).sum = sgI (ng x) (upto (mg x.natAbs ws) k)
  | 0 => by simp [upto, sgI]
  | k + 1 => by
    rw [List.range_succ, List.map_append, List.sum_append, shr_sums k]
    show _ = sgI (ng x) (upto (mg x.natAbs ws) k + mg x.natAbs ws k)
    rw [sgI_add]; simp [shr]
theorem shr_sum {x : Int} {ws : List Int} {ix : List Nat} (h : WOk ws) (hP : ix.Perm (List.range ws.length)) (hs : SortTo (sR x.natAbs ws) ix ws.length) : (shrs x ws).sum = x := by
  unfold shrs; rw [shr_sums, mg_sum h hP hs, sgI_ng]
theorem mg_le {X : Nat} {ws : List Int} (h : WOk ws) {i : Nat} (hi : i < ws.length) : mg X ws i ≤ X + 1 := by
  have h1 := upQ_le (X := X) h (show i + 1 ≤ ws.length by omega)
  have h2 : upto (sQ X ws) (i + 1) = upto (sQ X ws) i + sQ X ws i := rfl
  unfold mg; split <;> omega
theorem sQ_le {X : Nat} {ws : List Int} (h : WOk ws) {i : Nat} (hi : i < ws.length) : upto (sQ X ws) i + sQ X ws i ≤ X := upQ_le (X := X) h (show i + 1 ≤ ws.length by omega)
/-- who gets one more, has a rest -/
theorem rank_rest {X : Nat} {ws : List Int} {ix : List Nat} (h : WOk ws) (hP : ix.Perm (List.range ws.length)) (hs : SortTo (sR X ws) ix ws.length) {i : Nat} (hi : i < ws.length) (hr : rank (sR X ws) ws.length i < mis X ws) : 0 < sR X ws i := by
  rcases Nat.eq_zero_or_pos (sR X ws i) with h0 | h0
  · exfalso
    -- all that come after have no rest either; so the rests of the first ones alone make the whole
    have hp := tW_pos h
    have hl : ix.length = ws.length := by rw [hP.length_eq, List.length_range]
    have h1 := up_id X ws ws.length
    rw [wt_all h] at h1
    have hQ := upQ_le (X := X) h (Nat.le_refl _)
    have h3 : tW ws * mis X ws = upto (sR X ws) ws.length := by unfold mis; rw [Nat.mul_sub, Nat.mul_comm _ X]; omega
    -- a rest counts only where the rank is below that of i
    have h4 : ∀ j, j < ws.length → sR X ws j ≤ if decide (rank (sR X ws) ws.length j < rank (sR X ws) ws.length i) = true then tW ws - 1 else 0 := fun j hj => by
      have hm : sR X ws j < tW ws := Nat.mod_lt _ hp
      split
      · omega
      · rename_i hc
        rcases Nat.eq_zero_or_pos (sR X ws j) with h5 | h5
        · omega
        · exfalso
          apply hc
          apply decide_eq_true
          obtain ⟨p, hp1, hp2⟩ := place_of hP hj
          obtain ⟨q, hq1, hq2⟩ := place_of hP hi
          have r1 := rank_at hP hs hp1
          have r2 := rank_at hP hs hq1
          rw [hp2] at r1
          rw [hq2] at r2
          rw [r1, r2]
          rcases Nat.lt_trichotomy p q with h6 | h6 | h6
          · exact h6
          · subst h6; rw [hp2] at hq2; subst hq2; omega
          · have := hs q p h6 hp1
            rw [hp2, hq2] at this
            unfold bef at this; omega
    have h5 : upto (sR X ws) ws.length ≤ upto (fun j => if decide (rank (sR X ws) ws.length j < rank (sR X ws) ws.length i) = true then tW ws - 1 else 0) ws.length := by
      have gen : ∀ k, k ≤ ws.length → upto (sR X ws) k ≤ upto (fun j => if decide (rank (sR X ws) ws.length j < rank (sR X ws) ws.length i) = true then tW ws - 1 else 0) k := by
        intro k
        induction k with
        | zero => intro _; exact Nat.le_refl _
        | succ k ih => intro hk; exact Nat.add_le_add (ih (by omega)) (h4 k (by omega))
      exact gen _ (Nat.le_refl _)
    have h6 : ∀ k, upto (fun j => if decide (rank (sR X ws) ws.length j < rank (sR X ws) ws.length i) = true then tW ws - 1 else 0) k = (tW ws - 1) * upto (fun j => if decide (rank (sR X ws) ws.length j < rank (sR X ws) ws.length i) = true then 1 else 0) k := by
      intro k
      induction k with
      | zero => rfl
      | succ k ih =>
        show _ + _ = (tW ws - 1) * (_ + _)
        rw [Nat.mul_add, ih]; congr 1; dsimp only; split <;> simp
    have hri : rank (sR X ws) ws.length i ≤ ws.length := by have := mis_lt (X := X) h; omega
    rw [h6, upto_count, count_rank hP hs hri] at h5
    have h7 : (tW ws - 1) * rank (sR X ws) ws.length i ≤ (tW ws - 1) * mis X ws := Nat.mul_le_mul_left _ (by omega)
    have h8 : (tW ws - 1) * mis X ws + mis X ws = tW ws * mis X ws := by rw [Nat.sub_mul, Nat.one_mul]; have := Nat.le_mul_of_pos_left (mis X ws) hp; omega
    omega
  · exact h0
end Go.Proofs.Ytjkeefmpjocilaa
