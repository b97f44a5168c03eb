/- Plain lemmas on numbers and lists; no program in sight. Conditions: none. -/
import Derived.Test.YtjkeefmpjocilaaNatI
set_option linter.unusedVariables false
set_option linter.unusedSimpArgs false
namespace Go.Proofs.Ytjkeefmpjocilaa
open Go Go.RowKit
/-! ### the order of the parts: the greater rest first, then the smaller index -/
theorem gD {l : List Nat} {i : Nat} (h : i < l.length) : l.getD i 0 = l[i] := by simp [List.getElem?_eq_getElem h]
def bef (r : Nat → Nat) (a b : Nat) : Prop := r b < r a ∨ (r b = r a ∧ a < b)
instance (r : Nat → Nat) (a b : Nat) : Decidable (bef r a b) := by unfold bef; infer_instance
theorem bef_irrefl {r : Nat → Nat} {a : Nat} : ¬ bef r a a := fun h => by unfold bef at h; omega
theorem bef_trans {r : Nat → Nat} {a b c : Nat} (h : bef r a b) (h2 : bef r b c) : bef r a c := by unfold bef at *; omega
theorem bef_asymm {r : Nat → Nat} {a b : Nat} (h : bef r a b) : ¬ bef r b a := fun h2 => by unfold bef at *; omega
theorem bef_total {r : Nat → Nat} {a b : Nat} (h : a ≠ b) : ¬ bef r a b → bef r b a := fun h2 => by unfold bef at *; omega
/-- what the comparison answers -/
def orS (r : Nat → Nat) (a b : Nat) : Int := if cmpN (r b) (r a) ≠ 0 then cmpN (r b) (r a) else cmpN a b
theorem orS_neg {r : Nat → Nat} {a b : Nat} : orS r a b < 0 ↔ bef r a b := by
  unfold orS bef cmpN
  repeat' split
  all_goals simp_all
  all_goals omega
/-! ### a list of indices, put in order by insertion -/
/-- two neighbours change places -/
def swp (ix : List Nat) (j : Nat) : List Nat := (ix.set j (ix.getD (j - 1) 0)).set (j - 1) (ix.getD j 0)
theorem swp_len {ix : List Nat} {j : Nat} : (swp ix j).length = ix.length := by simp [swp]
theorem swp_get {ix : List Nat} {j q : Nat} (h0 : 0 < j) (hj : j < ix.length) : (swp ix j).getD q 0 = if q = j - 1 then ix.getD j 0 else if q = j then ix.getD (j - 1) 0 else ix.getD q 0 := by
  unfold swp
  simp only [List.getD_eq_getElem?_getD, List.getElem?_set, List.length_set]
  by_cases h1 : q = j - 1
  · subst h1; simp; rw [if_pos (by omega)]; simp
  · rw [if_neg (fun h => h1 h.symm), if_neg h1]
    by_cases h2 : q = j
    · subst h2; simp [hj]
    · rw [if_neg (fun h => h2 h.symm), if_neg h2]
theorem take_mid {ix : List Nat} {j : Nat} (h0 : 0 < j) (hj : j < ix.length) : ix = ix.take (j - 1) ++ ix[j - 1] :: ix[j] :: ix.drop (j + 1) := by
  have h1 : ix.drop (j - 1) = ix[j - 1] :: ix.drop j := by rw [List.drop_eq_getElem_cons (show j - 1 < ix.length by omega), show j - 1 + 1 = j by omega]
  have h2 : ix.drop j = ix[j] :: ix.drop (j + 1) := List.drop_eq_getElem_cons hj
  rw [← h2, ← h1, List.take_append_drop]
theorem swp_perm {ix : List Nat} {j : Nat} (h0 : 0 < j) (hj : j < ix.length) : (swp ix j).Perm ix := by
  have e := take_mid h0 hj
  have hl : j < (swp ix j).length := by rw [swp_len]; exact hj
  have e2 := take_mid h0 hl
  have t1 : (swp ix j).take (j - 1) = ix.take (j - 1) := by
    unfold swp; rw [List.take_set_of_le (by omega), List.take_set_of_le (by omega)]
  have t2 : (swp ix j).drop (j + 1) = ix.drop (j + 1) := by
    unfold swp; rw [List.drop_set_of_lt (by omega), List.drop_set_of_lt (by omega)]
  have g := fun q => swp_get (ix := ix) (j := j) (q := q) h0 hj
  have g1 : (swp ix j)[j - 1]'(by omega) = ix[j] := by rw [← gD, g, if_pos rfl, gD]
  have g2 : (swp ix j)[j] = ix[j - 1] := by rw [← gD, g, if_neg (by omega), if_pos rfl, gD]
  rw [t1, t2, g1, g2] at e2
  rw [e2]
  conv => rhs; rw [e]
  exact List.Perm.append_left _ (List.Perm.swap _ _ _)
abbrev SortTo (r : Nat → Nat) (ix : List Nat) (i : Nat) : Prop := ∀ p q, p < q → q < i → bef r (ix.getD p 0) (ix.getD q 0)
abbrev InsTo (r : Nat → Nat) (ix : List Nat) (i j : Nat) : Prop := (∀ p q, p < q → q ≤ i → p ≠ j → q ≠ j → bef r (ix.getD p 0) (ix.getD q 0)) ∧ ∀ q, j < q → q ≤ i → bef r (ix.getD j 0) (ix.getD q 0)
theorem ins_start {r : Nat → Nat} {ix : List Nat} {i : Nat} (h : SortTo r ix i) : InsTo r ix i i :=
  ⟨fun p q h1 h2 h3 h4 => h p q h1 (by omega), fun q h1 h2 => by omega⟩
theorem ins_step {r : Nat → Nat} {ix : List Nat} {i j : Nat} (h : InsTo r ix i j) (h0 : 0 < j) (hji : j ≤ i) (hi : i < ix.length) (hb : bef r (ix.getD j 0) (ix.getD (j - 1) 0)) : InsTo r (swp ix j) i (j - 1) := by
  have g := fun q => swp_get (ix := ix) (j := j) (q := q) h0 (by omega)
  refine ⟨fun p q h1 h2 h3 h4 => ?_, fun q h1 h2 => ?_⟩
  · rw [g p, g q, if_neg h3, if_neg h4]
    by_cases hp : p = j
    · rw [if_pos hp, if_neg (by omega)]; exact h.1 (j - 1) q (by omega) h2 (by omega) (by omega)
    · rw [if_neg hp]
      by_cases hq : q = j
      · rw [if_pos hq]; exact h.1 p (j - 1) (by omega) (by omega) hp (by omega)
      · rw [if_neg hq]; exact h.1 p q h1 h2 hp hq
  · rw [g (j - 1), g q, if_pos rfl, if_neg (by omega)]
    by_cases hq : q = j
    · rw [if_pos hq]; exact hb
    · rw [if_neg hq]; exact h.2 q (by omega) h2
theorem getD_ne {ix : List Nat} {n p q : Nat} (hP : ix.Perm (List.range n)) (h : p < q) (hq : q < ix.length) : ix.getD p 0 ≠ ix.getD q 0 := fun e => by
  have hn : ix.Nodup := hP.nodup_iff.2 List.nodup_range
  rw [gD (by omega), gD hq] at e
  have := (List.getElem_inj hn).1 e
  omega
theorem ins_done {r : Nat → Nat} {ix : List Nat} {i j n : Nat} (h : InsTo r ix i j) (hP : ix.Perm (List.range n)) (hji : j ≤ i) (hi : i < ix.length) (hb : 0 < j → ¬ bef r (ix.getD j 0) (ix.getD (j - 1) 0)) : SortTo r ix (i + 1) := by
  have low : ∀ p, p < j → bef r (ix.getD p 0) (ix.getD j 0) := fun p hp => by
    have h1 : bef r (ix.getD (j - 1) 0) (ix.getD j 0) := bef_total (Ne.symm (getD_ne hP (by omega) (by omega))) (hb (by omega))
    by_cases e : p = j - 1
    · rw [e]; exact h1
    · exact bef_trans (h.1 p (j - 1) (by omega) (by omega) (by omega) (by omega)) h1
  intro p q h1 h2
  by_cases hq : q = j
  · subst hq; exact low p h1
  · by_cases hp : p = j
    · subst hp; exact h.2 q h1 (by omega)
    · exact h.1 p q h1 (by omega) hp hq
theorem sort_one {r : Nat → Nat} {ix : List Nat} : SortTo r ix 1 := fun p q h1 h2 => by omega
/-! ### the place of a part -/
def rank (r : Nat → Nat) (n i : Nat) : Nat := (List.range n).countP fun j => decide (bef r j i)
theorem countP_before {r : Nat → Nat} {ix : List Nat} (hs : SortTo r ix ix.length) {p : Nat} (hp : p < ix.length) : ix.countP (fun j => decide (bef r j (ix.getD p 0))) = p := by
  have e : ix = ix.take p ++ ix.drop p := (List.take_append_drop p ix).symm
  have h1 : (ix.take p).countP (fun j => decide (bef r j (ix.getD p 0))) = p := by
    rw [List.countP_eq_length.2, List.length_take]
    · omega
    · intro a ha
      obtain ⟨q, hq, rfl⟩ := List.getElem_of_mem ha
      rw [List.length_take] at hq
      rw [List.getElem_take]
      have := hs q p (by omega) hp
      rw [gD (show q < ix.length by omega)] at this
      exact decide_eq_true this
  have h2 : (ix.drop p).countP (fun j => decide (bef r j (ix.getD p 0))) = 0 := by
    rw [List.countP_eq_zero]
    intro a ha
    obtain ⟨q, hq, rfl⟩ := List.getElem_of_mem ha
    rw [List.length_drop] at hq
    rw [List.getElem_drop]
    intro hb
    have hb := of_decide_eq_true hb
    by_cases hz : q = 0
    · subst hz
      rw [gD hp] at hb
      exact bef_irrefl hb
    · have h3 := hs p (p + q) (by omega) (by omega)
      rw [gD (show p + q < ix.length by omega)] at h3
      exact bef_asymm h3 hb
  have h3 := List.countP_append (p := fun j => decide (bef r j (ix.getD p 0))) (l₁ := ix.take p) (l₂ := ix.drop p)
  rw [← e] at h3
  omega
theorem rank_at {r : Nat → Nat} {ix : List Nat} {n p : Nat} (hP : ix.Perm (List.range n)) (hs : SortTo r ix n) (hp : p < n) : rank r n (ix.getD p 0) = p := by
  have hl : ix.length = n := by rw [hP.length_eq, List.length_range]
  unfold rank
  rw [← hP.countP_eq]
  exact countP_before (by rw [hl]; exact hs) (by omega)
theorem place_of {ix : List Nat} {n i : Nat} (hP : ix.Perm (List.range n)) (hi : i < n) : ∃ p, p < n ∧ ix.getD p 0 = i := by
  have hl : ix.length = n := by rw [hP.length_eq, List.length_range]
  have hm : i ∈ ix := hP.mem_iff.2 (List.mem_range.2 hi)
  obtain ⟨p, hp, e⟩ := List.getElem_of_mem hm
  exact ⟨p, by omega, by rw [gD hp]; exact e⟩
/-- the first m of the sorted are those of rank below m -/
theorem first_rank {r : Nat → Nat} {ix : List Nat} {n m i : Nat} (hP : ix.Perm (List.range n)) (hs : SortTo r ix n) (hm : m ≤ n) (hi : i < n) : i ∈ ix.take m ↔ rank r n i < m := by
  have hl : ix.length = n := by rw [hP.length_eq, List.length_range]
  obtain ⟨p, hp, e⟩ := place_of hP hi
  have hr := rank_at hP hs hp
  rw [e] at hr
  rw [hr]
  constructor
  · intro h
    obtain ⟨q, hq, e2⟩ := List.getElem_of_mem h
    rw [List.length_take] at hq
    rw [List.getElem_take] at e2
    have h3 := rank_at hP hs (show q < n by omega)
    rw [gD (show q < ix.length by omega), e2, hr] at h3
    omega
  · intro h
    rw [← e, gD (show p < ix.length by omega)]
    exact List.mem_iff_getElem.2 ⟨p, by rw [List.length_take]; omega, by rw [List.getElem_take]⟩
theorem rank_bef {r : Nat → Nat} {n i k m : Nat} (hi : rank r n i < m) (hk : ¬ rank r n k < m) (hin : i < n) : bef r i k := by
  by_cases e : i = k
  · subst e; omega
  · by_cases h : bef r i k
    · exact h
    · exfalso
      have h2 := bef_total e h
      have : rank r n k ≤ rank r n i := List.countP_mono_left fun j _ hj => decide_eq_true (bef_trans (of_decide_eq_true hj) h2)
      omega
theorem range_sorted {r : Nat → Nat} {n : Nat} (h : ∀ p q, p < q → q < n → bef r p q) : SortTo r (List.range n) n := fun p q h1 h2 => by
  rw [gD (by rw [List.length_range]; omega), gD (by rw [List.length_range]; omega), List.getElem_range, List.getElem_range]
  exact h p q h1 h2
/-! ### the comparison as the code makes it -/
def orI (zs : List Int) : Int := if zs.getD 0 0 ≠ 0 then zs.getD 0 0 else zs.getD 1 0
def orC (m n : Nat) (i j : Int) : Int := orI [cmpN n m, cmpI i j]
theorem orI_at {zs : List Int} {k : Nat} (hk : k < 2) (hz : ∀ j, j < k → zs.getD j 0 = 0) (h : zs.getD k 0 ≠ 0) : zs.getD k 0 = orI zs := by
  unfold orI
  have h2 : k = 0 ∨ k = 1 := by omega
  rcases h2 with rfl | rfl
  · rw [if_pos h]
  · rw [if_neg (fun h3 => h3 (hz 0 (by decide)))]
theorem orI_end {zs : List Int} (hz : ∀ j, j < 2 → zs.getD j 0 = 0) : 0 = orI zs := by
  unfold orI
  rw [if_neg (fun h3 => h3 (hz 0 (by decide))), hz 1 (by decide)]
theorem orC_neg {r : Nat → Nat} {a b : Nat} : orC (r a) (r b) ((a : Nat) : Int) ((b : Nat) : Int) < 0 ↔ bef r a b := by
  have e : cmpI ((a : Nat) : Int) ((b : Nat) : Int) = cmpN a b := by
    unfold cmpI cmpN
    by_cases h : a < b
    · rw [if_pos (by omega), if_pos h]
    · rw [if_neg (by omega), if_neg h]
      by_cases h2 : a = b
      · rw [if_pos (by omega), if_pos h2]
      · rw [if_neg (by omega), if_neg h2]
  unfold orC orI
  rw [e]
  exact orS_neg (r := r)
end Go.Proofs.Ytjkeefmpjocilaa
