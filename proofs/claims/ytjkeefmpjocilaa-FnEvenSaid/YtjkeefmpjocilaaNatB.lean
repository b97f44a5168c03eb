/- Plain lemmas on numbers and lists; no program in sight. Conditions: none. -/
import Derived.Test.YtjkeefmpjocilaaNat
import Derived.Test.YtjkeefmpjocilaaCur
set_option linter.unusedVariables false
set_option linter.unusedSimpArgs false
namespace Go.Proofs.Ytjkeefmpjocilaa
theorem getD_take {zs : List Int} {k i : Nat} (h : i < k) : (zs.take k).getD i 0 = zs.getD i 0 := by
  simp only [List.getD_eq_getElem?_getD]; rw [List.getElem?_take_of_lt h]
theorem trim_step {zs : List Int} {k : Nat} (hk : 0 < k) (hl : k ≤ zs.length) (h : (zs.take k).getD (k - 1) 0 = 0) (hv : vl (zs.take k) = vl zs) : vl (zs.take (k - 1)) = vl zs := by
  have h1 := vl_take_succ (a := zs) (k := k - 1) (by omega)
  rw [Nat.sub_add_cancel (by omega)] at h1
  rw [getD_take (by omega)] at h
  rw [h] at h1; simp at h1; omega
theorem trim_done {zs : List Int} {k : Nat} (hz : Lm zs) (hl : k ≤ zs.length) (hv : vl (zs.take k) = vl zs) (h : k = 0 ∨ ¬ (zs.take k).getD (k - 1) 0 = 0) : zs.take k = dg (vl zs) := by
  rw [← hv]
  by_cases h0 : k = 0
  · subst h0; simp [vl, dg_zero]
  · have hne : ¬ (zs.take k).getD (k - 1) 0 = 0 := h.resolve_left h0
    refine (dg_vl (hz.take k) fun e => hne ?_).symm
    have hlen : (zs.take k).length = k := by rw [List.length_take]; omega
    rw [List.getLast?_eq_getElem?, hlen] at e
    simp only [List.getD_eq_getElem?_getD, e]; rfl
theorem vl_set {os : List Int} {k : Nat} {x : Int} (hk : k < os.length) : vl (os.set k x) + Bs ^ k * (os.getD k 0).toNat = vl os + Bs ^ k * x.toNat := by
  have e1 : os.set k x = os.take k ++ x :: os.drop (k + 1) := by rw [List.set_eq_take_append_cons_drop, if_pos hk]
  have e2 : os = os.take k ++ os.getD k 0 :: os.drop (k + 1) := by
    have : os.getD k 0 = os[k] := by simp [List.getElem?_eq_getElem hk]
    rw [this, ← List.drop_eq_getElem_cons hk, List.take_append_drop]
  have hl : (os.take k).length = k := by rw [List.length_take]; omega
  rw [e1]
  conv => rhs; rw [e2]
  rw [vl_append, vl_append, hl]
  simp only [vl]
  grind
theorem Lm.set {os : List Int} (h : Lm os) (k : Nat) {x : Int} (h0 : 0 ≤ x) (h1 : x < 1000000000) : Lm (os.set k x) := fun y hy => by
  rcases List.mem_or_eq_of_mem_set hy with h' | rfl
  · exact h y h'
  · exact ⟨h0, h1⟩
theorem Lm.replicate (n : Nat) : Lm (List.replicate n 0) := fun x hx => by
  rw [List.eq_of_mem_replicate hx]; exact ⟨by decide, by decide⟩
theorem vl_replicate (n : Nat) : vl (List.replicate n 0) = 0 := by
  induction n with
  | zero => rfl
  | succ n ih => rw [List.replicate_succ, vl, ih]; rfl
theorem mod_bd {s : Int} (h : 0 ≤ s) : 0 ≤ s % 1000000000 ∧ s % 1000000000 < 1000000000 := ⟨Int.emod_nonneg _ (by decide), Int.emod_lt_of_pos _ (by decide)⟩
theorem toNat_split {s : Int} (h : 0 ≤ s) : (s % 1000000000).toNat + Bs * (s / 1000000000).toNat = s.toNat := by
  have := Int.emod_add_mul_ediv s 1000000000
  have h1 : 0 ≤ s / 1000000000 := Int.ediv_nonneg h (by decide)
  have h2 := mod_bd h
  simp only [Bs]
  omega
/-- one limb of a sum -/
theorem add_step {P c A B Z : Nat} {a b : Nat} {s : Int} (hs : s = c + a + b) (h : Z + P * c = A + B) : (Z + P * (s % 1000000000).toNat) + P * Bs * (s / 1000000000).toNat = (A + P * a) + (B + P * b) := by
  have h1 := toNat_split (s := s) (by omega)
  have h2 : s.toNat = c + a + b := by omega
  rw [h2] at h1
  grind
/-- one limb of a product, stored -/
theorem mul_step {os bs : List Int} {i j : Nat} {c x s : Int} {V : Nat} (hc : 0 ≤ c) (hx : 0 ≤ x) (ho : 0 ≤ os.getD (i + j) 0) (hy : 0 ≤ bs.getD j 0) (hk : i + j < os.length) (hj : j < bs.length)
    (hs : s = c + (os.getD (i + j) 0 + x * bs.getD j 0)) (h : vl os + Bs ^ (i + j) * c.toNat = V + Bs ^ i * (x.toNat * vl (bs.take j))) :
    vl (os.set (i + j) (s % 1000000000)) + Bs ^ (i + (j + 1)) * (s / 1000000000).toNat = V + Bs ^ i * (x.toNat * vl (bs.take (j + 1))) := by
  have hxy : 0 ≤ x * bs.getD j 0 := Int.mul_nonneg hx hy
  have h1 := toNat_split (s := s) (by omega)
  have h2 : s.toNat = c.toNat + ((os.getD (i + j) 0).toNat + x.toNat * (bs.getD j 0).toNat) := by
    have e : (x * bs.getD j 0).toNat = x.toNat * (bs.getD j 0).toNat := Int.toNat_mul hx hy
    omega
  have h3 := vl_set (os := os) (k := i + j) (x := s % 1000000000) hk
  have h4 := vl_take_succ (a := bs) (k := j) hj
  rw [h4]
  rw [h2] at h1
  have e1 : Bs ^ (i + j) = Bs ^ i * Bs ^ j := Nat.pow_add _ _ _
  have e2 : Bs ^ (i + (j + 1)) = Bs ^ i * Bs ^ j * Bs := by rw [← Nat.add_assoc, Nat.pow_succ, Nat.pow_add]
  rw [e2]; rw [e1] at h h3
  generalize Bs ^ i = P at *
  generalize Bs ^ j = Q at *
  generalize vl (os.set (i + j) (s % 1000000000)) = Z at *
  generalize vl (bs.take j) = T at *
  generalize (s % 1000000000).toNat = r at *
  generalize (s / 1000000000).toNat = q at *
  generalize (os.getD (i + j) 0).toNat = o at *
  generalize (bs.getD j 0).toNat = y at *
  grind
/-- a limb set where there was none, and the carry is gone -/
theorem carry_step {os : List Int} {k : Nat} {c : Int} (hk : k < os.length) (h0 : os.getD k 0 = 0) : vl (os.set k c) = vl os + Bs ^ k * c.toNat := by
  have := vl_set (os := os) (k := k) (x := c) hk
  rw [h0] at this; simpa using this
theorem getD_set_ne' {os : List Int} {k i : Nat} {x : Int} (h : k ≠ i) : (os.set k x).getD i 0 = os.getD i 0 := by
  simp only [List.getD_eq_getElem?_getD]; rw [List.getElem?_set_ne h]
theorem mul_limb {x y : Int} (hx : 0 ≤ x) (hx1 : x < 1000000000) (hy : 0 ≤ y) (hy1 : y < 1000000000) : 0 ≤ x * y ∧ x * y ≤ 999999998000000001 := by
  refine ⟨Int.mul_nonneg hx hy, ?_⟩
  have : x * y ≤ 999999999 * 999999999 := Int.mul_le_mul (by omega) (by omega) hy (by decide)
  omega
theorem div_lt {s : Int} (h : 0 ≤ s) (h1 : s ≤ 999999999999999999) : 0 ≤ s / 1000000000 ∧ s / 1000000000 < 1000000000 := by
  constructor
  · exact Int.ediv_nonneg h (by decide)
  · have : s / 1000000000 < 1000000000 := Int.ediv_lt_of_lt_mul (by decide) (by omega)
    omega
theorem vl_take_all (zs : List Int) : vl (zs.take zs.length) = vl zs := by rw [List.take_length]
/-- a list of limbs whose value is known is, without leading noughts, its digits -/
theorem vl_take_ge {zs : List Int} {k : Nat} (h : zs.length ≤ k) : vl (zs.take k) = vl zs := by rw [List.take_of_length_le h]
theorem getD_ge {zs : List Int} {k : Nat} (h : zs.length ≤ k) : zs.getD k 0 = 0 := by
  simp [List.getElem?_eq_none h]
theorem vl_take_succ' {a : List Int} {k : Nat} : vl (a.take (k + 1)) = vl (a.take k) + Bs ^ k * (a.getD k 0).toNat := by
  rcases Nat.lt_or_ge k a.length with h | h
  · exact vl_take_succ h
  · rw [List.take_of_length_le (by omega), List.take_of_length_le h, getD_ge h]; simp
end Go.Proofs.Ytjkeefmpjocilaa
namespace Go.Proofs.Ytjkeefmpjocilaa
def cmpR : List Int → List Int → Int
  | x :: l, y :: k => if x < y then -1 else if y < x then 1 else cmpR l k
  | _, _ => 0
/-- lists compared by length, then from the end -/
def cmpL (a b : List Int) : Int := if a.length < b.length then -1 else if b.length < a.length then 1 else cmpR a.reverse b.reverse
theorem cmpR_append (p : List Int) (l k : List Int) : cmpR (p ++ l) (p ++ k) = cmpR l k := by
  induction p with
  | nil => rfl
  | cons x p ih => simp [cmpR, ih]
theorem rev_split {l : List Int} {k : Nat} (hk : k < l.length) : l.reverse = (l.drop (k + 1)).reverse ++ l.getD k 0 :: (l.take k).reverse := by
  have e : l.getD k 0 = l[k] := by simp [List.getElem?_eq_getElem hk]
  conv => lhs; rw [← List.take_append_drop k l, List.drop_eq_getElem_cons hk]
  rw [e]; simp
theorem cmpL_lt {a b : List Int} {k : Nat} (hl : a.length = b.length) (hk : k < a.length) (hd : a.drop (k + 1) = b.drop (k + 1)) (h : a.getD k 0 < b.getD k 0) : cmpL a b = -1 := by
  unfold cmpL
  rw [if_neg (by omega), if_neg (by omega), rev_split hk, rev_split (show k < b.length by omega), hd, cmpR_append]
  simp only [cmpR]; rw [if_pos h]
theorem cmpL_gt {a b : List Int} {k : Nat} (hl : a.length = b.length) (hk : k < a.length) (hd : a.drop (k + 1) = b.drop (k + 1)) (h : b.getD k 0 < a.getD k 0) : cmpL a b = 1 := by
  unfold cmpL
  rw [if_neg (by omega), if_neg (by omega), rev_split hk, rev_split (show k < b.length by omega), hd, cmpR_append]
  simp only [cmpR]; rw [if_neg (by omega), if_pos h]
theorem cmpL_self (a : List Int) : cmpL a a = 0 := by
  unfold cmpL; rw [if_neg (by omega), if_neg (by omega)]
  have : ∀ l : List Int, cmpR l l = 0 := fun l => by induction l with
    | nil => rfl
    | cons x l ih => simp [cmpR, ih]
  exact this _
theorem cmpL_short {a b : List Int} (h : a.length < b.length) : cmpL a b = -1 := by unfold cmpL; rw [if_pos h]
theorem cmpL_long {a b : List Int} (h : b.length < a.length) : cmpL a b = 1 := by unfold cmpL; rw [if_neg (by omega), if_pos h]
theorem cmpR_zero : ∀ {a b : List Int}, a.length = b.length → cmpR a b = 0 → a = b
  | [], [], _, _ => rfl
  | [], _ :: _, h, _ => by simp at h
  | _ :: _, [], h, _ => by simp at h
  | x :: l, y :: k, h, e => by
    simp only [cmpR] at e
    split at e
    · cases e
    · split at e
      · cases e
      · have h1 : x = y := by omega
        rw [h1, cmpR_zero (by simpa using h) e]
theorem cmpL_zero {a b : List Int} : cmpL a b = 0 ↔ a = b := by
  constructor
  · intro h
    unfold cmpL at h
    split at h
    · cases h
    · split at h
      · cases h
      · exact List.reverse_inj.1 (cmpR_zero (by simp; omega) h)
  · rintro rfl; exact cmpL_self a
theorem cmpR_sign : ∀ (a b : List Int), cmpR a b = -1 ∨ cmpR a b = 0 ∨ cmpR a b = 1
  | [], _ => by simp [cmpR]
  | _ :: _, [] => by simp [cmpR]
  | x :: l, y :: k => by
    simp only [cmpR]
    split
    · exact .inl rfl
    · split
      · exact .inr (.inr rfl)
      · exact cmpR_sign l k
theorem cmpR_first : ∀ {a b : List Int}, a.length = b.length → cmpR a b = -1 → ∃ p x y l k, a = p ++ x :: l ∧ b = p ++ y :: k ∧ x < y
  | [], [], _, h => by simp [cmpR] at h
  | [], _ :: _, h, _ => by simp at h
  | _ :: _, [], h, _ => by simp at h
  | x :: l, y :: k, hl, h => by
    simp only [cmpR] at h
    split at h
    · exact ⟨[], x, y, l, k, rfl, rfl, by assumption⟩
    · split at h
      · cases h
      · have hxy : x = y := by omega
        obtain ⟨p, x', y', l', k', h1, h2, h3⟩ := cmpR_first (by simpa using hl) h
        exact ⟨x :: p, x', y', l', k', by rw [h1]; rfl, by rw [h2, hxy]; rfl, h3⟩
theorem vl_cmpR {a b : List Int} (ha : Lm a) (hb : Lm b) (hl : a.length = b.length) (h : cmpR a.reverse b.reverse = -1) : vl a < vl b := by
  obtain ⟨p, x, y, l, k, h1, h2, h3⟩ := cmpR_first (by simpa using hl) h
  have e1 : a = l.reverse ++ x :: p.reverse := by have := congrArg List.reverse h1; simpa using this
  have e2 : b = k.reverse ++ y :: p.reverse := by have := congrArg List.reverse h2; simpa using this
  have hlen : l.length = k.length := by
    have := hl; rw [e1, e2] at this; simp at this; omega
  have b1 : vl l.reverse < Bs ^ l.length := by
    have := vl_lt (zs := l.reverse) (fun z hz => ha z (by rw [e1]; exact List.mem_append_left _ hz)); simpa using this
  have bx := ha x (by rw [e1]; simp)
  have bY := hb y (by rw [e2]; simp)
  rw [e1, e2, vl_append, vl_append, List.length_reverse, List.length_reverse, ← hlen]
  simp only [vl]
  have h4 : x.toNat + 1 ≤ y.toNat := by omega
  have h5 : Bs ^ l.length * (x.toNat + Bs * vl p.reverse + 1) ≤ Bs ^ l.length * (y.toNat + Bs * vl p.reverse) := Nat.mul_le_mul_left _ (by omega)
  rw [Nat.mul_add, Nat.mul_one] at h5
  omega
theorem cmpR_swap : ∀ (a b : List Int), cmpR b a = - cmpR a b
  | [], [] => rfl
  | [], _ :: _ => rfl
  | _ :: _, [] => rfl
  | x :: l, y :: k => by
    simp only [cmpR]
    rcases Int.lt_trichotomy x y with h | h | h
    · have h' : ¬ y < x := by omega
      simp [h, h']
    · subst h; simp [cmpR_swap l k]
    · have h' : ¬ x < y := by omega
      simp [h, h']
theorem cmpL_dg (m n : Nat) : cmpL (dg m) (dg n) = cmpN m n := by
  unfold cmpL
  split
  · rw [cmpN_lt (lt_of_len (by assumption))]
  · split
    · rw [cmpN_gt (lt_of_len (by assumption))]
    · have hl : (dg m).length = (dg n).length := by omega
      rcases cmpR_sign (dg m).reverse (dg n).reverse with h | h | h
      · have := vl_cmpR (Lm_dg m) (Lm_dg n) hl h
        rw [vl_dg, vl_dg] at this
        rw [h, cmpN_lt this]
      · have : dg m = dg n := List.reverse_inj.1 (cmpR_zero (by simp [hl]) h)
        rw [h, dg_inj this, cmpN_eq]
      · have h' : cmpR (dg n).reverse (dg m).reverse = -1 := by rw [cmpR_swap, h]
        have := vl_cmpR (Lm_dg n) (Lm_dg m) hl.symm h'
        rw [vl_dg, vl_dg] at this
        rw [h, cmpN_gt this]
/-- natural numbers that the program admits -/
def NOk (zs : List Int) : Prop := Lm zs ∧ zs.length ≤ 50 ∧ zs.getLast? ≠ some 0
instance (zs : List Int) : Decidable (Lm zs) := by unfold Lm; infer_instance
instance (zs : List Int) : Decidable (NOk zs) := by unfold NOk; infer_instance
theorem NOk.dg {zs : List Int} (h : NOk zs) : ∃ m, zs = dg m ∧ (Ytjkeefmpjocilaa.dg m).length ≤ 50 := ⟨vl zs, (dg_vl h.1 h.2.2).symm, by rw [dg_vl h.1 h.2.2]; exact h.2.1⟩
theorem NOk_dg {m : Nat} (h : (dg m).length ≤ 50) : NOk (dg m) := ⟨Lm_dg m, h, dg_last m⟩
theorem NOk_dg_iff {m : Nat} : NOk (dg m) ↔ (dg m).length ≤ 50 := ⟨fun h => h.2.1, NOk_dg⟩
theorem last_getD {zs : List Int} (h : 0 < zs.length) : zs.getLast? = some 0 ↔ zs.getD (zs.length - 1) 0 = 0 := by
  rw [List.getLast?_eq_getElem?, List.getElem?_eq_getElem (by omega)]
  simp [List.getElem?_eq_getElem (show zs.length - 1 < zs.length by omega)]
theorem lm_succ {zs : List Int} {k : Nat} (h : ∀ i, i < k → 0 ≤ zs.getD i 0 ∧ zs.getD i 0 < 1000000000) (hk : 0 ≤ zs.getD k 0 ∧ zs.getD k 0 < 1000000000) : ∀ i, i < k + 1 → 0 ≤ zs.getD i 0 ∧ zs.getD i 0 < 1000000000 := fun i hi => by
  by_cases e : i = k
  · subst e; exact hk
  · exact h i (by omega)
theorem lm_mem {zs : List Int} (h : ∀ i, i < zs.length → 0 ≤ zs.getD i 0 ∧ zs.getD i 0 < 1000000000) : Lm zs := fun x hx => by
  obtain ⟨i, hi, rfl⟩ := List.getElem_of_mem hx
  have := h i hi
  simpa [List.getElem?_eq_getElem hi] using this
/-- a list of limbs with a lower bound on its value is canonical -/
theorem dg_of {zs : List Int} {v : Nat} (h : Lm zs) (hv : vl zs = v) (hl : zs.length = 0 ∨ Bs ^ (zs.length - 1) ≤ v) : zs = dg v := by
  rw [← hv]
  refine (dg_vl h fun e => ?_).symm
  have hne : 0 < zs.length := by
    cases zs with
    | nil => simp at e
    | cons x l => simp
  have h1 : Bs ^ (zs.length - 1) ≤ v := hl.resolve_left (by omega)
  have h2 := vl_take_succ (a := zs) (k := zs.length - 1) (by omega)
  rw [Nat.sub_add_cancel hne, List.take_length, (last_getD hne).1 e] at h2
  have h3 := vl_lt (h.take (zs.length - 1))
  rw [List.length_take, Nat.min_eq_left (by omega)] at h3
  simp at h2
  omega
theorem le_of_len {m : Nat} (h : 0 < (dg m).length) : Bs ^ ((dg m).length - 1) ≤ m := by
  rcases Nat.lt_or_ge m (Bs ^ ((dg m).length - 1)) with h1 | h1
  · have := dg_len_le h1; omega
  · exact h1
theorem len_add (m n : Nat) : (dg (m + n)).length ≤ max (dg m).length (dg n).length + 1 := by
  apply dg_len_le
  have h1 : m < Bs ^ (max (dg m).length (dg n).length) := lt_of_dg_len (Nat.le_max_left _ _)
  have h2 : n < Bs ^ (max (dg m).length (dg n).length) := lt_of_dg_len (Nat.le_max_right _ _)
  rw [Nat.pow_succ]; simp only [Bs] at *; omega
theorem len_mul (m n : Nat) : (dg (m * n)).length ≤ (dg m).length + (dg n).length := by
  apply dg_len_le
  have h1 : m < Bs ^ (dg m).length := lt_of_dg_len (Nat.le_refl _)
  have h2 : n < Bs ^ (dg n).length := lt_of_dg_len (Nat.le_refl _)
  rw [Nat.pow_add]
  exact Nat.mul_lt_mul_of_lt_of_lt h1 h2
theorem len_le {m n : Nat} (h : m ≤ n) : (dg m).length ≤ (dg n).length := dg_len_le (Nat.lt_of_le_of_lt h (lt_of_dg_len (Nat.le_refl _)))
theorem vl_concat (os : List Int) (x : Int) : vl (os ++ [x]) = vl os + Bs ^ os.length * x.toNat := by
  rw [vl_append]; simp [vl]
end Go.Proofs.Ytjkeefmpjocilaa
namespace Go.Proofs.Ytjkeefmpjocilaa
theorem vl_take_set {os : List Int} {k : Nat} {x : Int} (hk : k < os.length) : vl ((os.set k x).take (k + 1)) = vl (os.take k) + Bs ^ k * x.toNat := by
  rw [vl_take_succ (by simpa using hk)]
  have e1 : (os.set k x).getD k 0 = x := by simp [List.getElem?_set, hk]
  rw [e1, List.take_set_of_le (Nat.le_refl _)]
/-- one limb of a difference -/
theorem sub_step {P A B Z c c2 a b x : Nat} (hs : a + Bs * c2 = b + c + x) (h : A + P * c = Z + B) : (A + P * a) + P * Bs * c2 = (Z + P * x) + (B + P * b) := by
  have : P * (a + Bs * c2) = P * (b + c + x) := by rw [hs]
  grind
theorem sub_end {m n z c P : Nat} (h : m + P * c = z + n) (hle : n ≤ m) (hz : z < P) (hc : c ≤ 1) : c = 0 ∧ z = m - n := by
  have h1 : c = 0 := by
    rcases Nat.eq_or_lt_of_le hc with e | e
    · subst e; omega
    · omega
  subst h1
  refine ⟨rfl, ?_⟩
  rw [Nat.mul_zero] at h; omega
theorem zero_set {os : List Int} {q k : Nat} {x : Int} (h : ∀ i, q ≤ i → os.getD i 0 = 0) (hk : k < q + 1) : ∀ i, q + 1 ≤ i → (os.set k x).getD i 0 = 0 := fun i hi => by
  rw [getD_set_ne' (by omega)]; exact h i (by omega)
theorem zero_set' {os : List Int} {q k : Nat} {x : Int} (h : ∀ i, q ≤ i → os.getD i 0 = 0) (hk : k < q) : ∀ i, q ≤ i → (os.set k x).getD i 0 = 0 := fun i hi => by
  rw [getD_set_ne' (by omega)]; exact h i (by omega)
theorem zero_rep (n : Nat) : ∀ i, 0 ≤ i → (List.replicate n (0 : Int)).getD i 0 = 0 := fun i _ => by
  simp only [List.getD_eq_getElem?_getD, List.getElem?_replicate]; split <;> rfl
theorem zero_mono {os : List Int} {q q' : Nat} (h : ∀ i, q ≤ i → os.getD i 0 = 0) (hq : q ≤ q') : ∀ i, q' ≤ i → os.getD i 0 = 0 := fun i hi => h i (by omega)
theorem mul_row {A B P V a : Nat} (h : V = A * B) : V + P * (a * B) = (A + P * a) * B := by
  subst h; grind
theorem getD_set_eq {os : List Int} {k : Nat} {x : Int} (h : k < os.length) : (os.set k x).getD k 0 = x := by
  simp [List.getElem?_set, h]
end Go.Proofs.Ytjkeefmpjocilaa
namespace Go.Proofs.Ytjkeefmpjocilaa
theorem add_end {os : List Int} {m n k : Nat} (hlm : Lm os) (hos : os.length = k) (hv : vl os = m + n) (hlast : k ≤ max (dg m).length (dg n).length ∨ ((0 : Nat) = 0 ∧ k = max (dg m).length (dg n).length + 1 ∧ Bs ^ (k - 1) ≤ vl os)) (hk : max (dg m).length (dg n).length ≤ k) : os = dg (m + n) :=
  dg_of hlm hv (by
    rcases hlast with h | h
    · by_cases h0 : k = 0
      · left; omega
      · right
        rw [hos, show k = max (dg m).length (dg n).length by omega]
        rcases Nat.le_total (dg m).length (dg n).length with hh | hh
        · rw [Nat.max_eq_right hh]; exact Nat.le_trans (le_of_len (by omega)) (Nat.le_add_left _ _)
        · rw [Nat.max_eq_left hh]; exact Nat.le_trans (le_of_len (by omega)) (Nat.le_add_right _ _)
    · right; rw [hos, ← hv]; exact h.2.2)
end Go.Proofs.Ytjkeefmpjocilaa

namespace Go.Proofs.Ytjkeefmpjocilaa
theorem NOk_mk {zs : List Int} (h : Lm zs) (h1 : zs.length ≤ 50) (h2 : zs.length = 0 ∨ ¬ zs.getD (zs.length - 1) 0 = 0) : NOk zs := ⟨h, h1, fun e => by
  rcases h2 with h2 | h2
  · rw [List.length_eq_zero_iff.1 h2] at e; simp at e
  · rcases Nat.eq_zero_or_pos zs.length with e0 | e0
    · rw [List.length_eq_zero_iff.1 e0] at e; simp at e
    · exact h2 ((last_getD e0).1 e)⟩
theorem NOk_iff {zs : List Int} (h : Lm zs) (h1 : zs.length ≤ 50) (h2 : 0 < zs.length) : (zs.getD (zs.length - 1) 0 ≠ 0) ↔ NOk zs :=
  ⟨fun e => NOk_mk h h1 (.inr e), fun e e0 => e.2.2 ((last_getD h2).2 e0)⟩
def IOk (n : Bool) (zs : List Int) : Prop := NOk zs ∧ (n = true → 0 < zs.length)
def DOk (n : Bool) (zs : List Int) (p : Int) : Prop := IOk n zs ∧ zs.length ≤ 6 ∧ 0 ≤ p ∧ p ≤ 30
instance (n : Bool) (zs : List Int) : Decidable (IOk n zs) := by unfold IOk; infer_instance
instance (n : Bool) (zs : List Int) (p : Int) : Decidable (DOk n zs p) := by unfold DOk; infer_instance
end Go.Proofs.Ytjkeefmpjocilaa
namespace Go.Proofs.Ytjkeefmpjocilaa
theorem carry_gen {os : List Int} {q T : Nat} {c s : Int} (hk : q < os.length) (hc : 0 ≤ c) (ho : 0 ≤ os.getD q 0) (hs : s = c + os.getD q 0) (h : vl os + Bs ^ q * c.toNat = T) :
    vl (os.set q (s % 1000000000)) + Bs ^ (q + 1) * (s / 1000000000).toNat = T := by
  have h1 := vl_set (os := os) (k := q) (x := s % 1000000000) hk
  have h2 := toNat_split (s := s) (by omega)
  have h3 : s.toNat = c.toNat + (os.getD q 0).toNat := by omega
  rw [h3] at h2
  rw [Nat.pow_succ]
  generalize Bs ^ q = P at *
  generalize vl (os.set q (s % 1000000000)) = Z at *
  generalize (s % 1000000000).toNat = r at *
  generalize (s / 1000000000).toNat = t at *
  generalize (os.getD q 0).toNat = o at *
  grind
end Go.Proofs.Ytjkeefmpjocilaa

namespace Go.Proofs.Ytjkeefmpjocilaa
def ng (x : Int) : Bool := decide (x < 0)
def nz (n : Bool) (zs : List Int) : Bool := n && decide (0 < zs.length)
def vI (n : Bool) (zs : List Int) : Int := if n then -((vl zs : Nat) : Int) else ((vl zs : Nat) : Int)
theorem len_zero {m : Nat} : (dg m).length = 0 ↔ m = 0 := by rw [List.length_eq_zero_iff, dg_nil]
theorem len_pos {m : Nat} : 0 < (dg m).length ↔ 0 < m := by have := len_zero (m := m); omega
theorem nz_dg (n : Bool) (m : Nat) : nz n (dg m) = (n && decide (0 < m)) := by unfold nz; simp only [len_pos]
theorem sg_eq {n : Bool} {m : Nat} {x : Int} (h1 : m = x.natAbs) (h2 : x < 0 → n = true) (h3 : 0 < x → n = false) : nz n (dg m) = ng x ∧ dg m = dg x.natAbs := by
  refine ⟨?_, by rw [h1]⟩
  rw [nz_dg]; unfold ng
  rcases Int.lt_trichotomy x 0 with h | h | h
  · rw [h2 h]; simp; omega
  · subst h; subst h1; simp
  · rw [h3 h]; simp; omega
theorem vI_ng (x : Int) : vI (ng x) (dg x.natAbs) = x := by
  unfold vI ng; rw [vl_dg]; split <;> simp_all <;> omega
theorem ng_true {x : Int} : ng x = true ↔ x < 0 := by simp [ng]
theorem ng_false {x : Int} : ng x = false ↔ 0 ≤ x := by simp [ng]
theorem ng_beq {x y : Int} : (ng x == ng y) = true ↔ (x < 0 ↔ y < 0) := by simp [ng]
theorem ng_beq' {x y : Int} : (ng x == ng y) = false ↔ ¬ (x < 0 ↔ y < 0) := by simp [ng]
theorem IOk.int {n : Bool} {zs : List Int} (h : IOk n zs) : ∃ x : Int, n = ng x ∧ zs = dg x.natAbs ∧ (dg x.natAbs).length ≤ 50 := by
  obtain ⟨m, rfl, hm⟩ := NOk.dg h.1
  cases n with
  | false => exact ⟨(m : Int), by simp [ng], by simp, by simpa using hm⟩
  | true =>
    have h0 := len_pos.1 (h.2 rfl)
    exact ⟨-(m : Int), by simp [ng]; omega, by simp, by simpa using hm⟩
theorem IOk_iff {x : Int} : IOk (ng x) (dg x.natAbs) ↔ (dg x.natAbs).length ≤ 50 :=
  ⟨fun h => h.1.2.1, fun h => ⟨NOk_dg h, fun e => len_pos.2 (by have := ng_true.1 e; omega)⟩⟩
theorem IOk_ng {x : Int} (h : (dg x.natAbs).length ≤ 50) : IOk (ng x) (dg x.natAbs) := IOk_iff.2 h
theorem DOk.int {n : Bool} {zs : List Int} {p : Int} (h : DOk n zs p) : ∃ x : Int, n = ng x ∧ zs = dg x.natAbs ∧ (dg x.natAbs).length ≤ 6 ∧ 0 ≤ p ∧ p ≤ 30 := by
  obtain ⟨x, rfl, rfl, _⟩ := h.1.int
  exact ⟨x, rfl, rfl, h.2⟩
theorem DOk_iff {x p : Int} : DOk (ng x) (dg x.natAbs) p ↔ ((dg x.natAbs).length ≤ 6 ∧ 0 ≤ p ∧ p ≤ 30) :=
  ⟨fun h => h.2, fun h => ⟨IOk_ng (by omega), h⟩⟩
theorem mul_neg_iff {x y : Int} : x * y < 0 ↔ (x < 0 ∧ 0 < y) ∨ (0 < x ∧ y < 0) := by
  rcases Int.lt_trichotomy x 0 with hx | hx | hx
  · rcases Int.lt_trichotomy y 0 with hy | hy | hy
    · have := Int.mul_pos_of_neg_of_neg hx hy; omega
    · subst hy; simp
    · have := Int.mul_neg_of_neg_of_pos hx hy; omega
  · subst hx; simp
  · rcases Int.lt_trichotomy y 0 with hy | hy | hy
    · have := Int.mul_neg_of_pos_of_neg hx hy; omega
    · subst hy; simp
    · have := Int.mul_pos hx hy; omega
theorem mul_sg (x y : Int) : nz (ng x != ng y) (dg (x.natAbs * y.natAbs)) = ng (x * y) ∧ dg (x.natAbs * y.natAbs) = dg (x * y).natAbs := by
  refine sg_eq (Int.natAbs_mul x y).symm (fun h => ?_) (fun h => ?_)
  · rcases mul_neg_iff.1 h with ⟨h1, h2⟩ | ⟨h1, h2⟩ <;> simp [ng] <;> omega
  · have h' : ¬ (x * y < 0) := by omega
    rw [mul_neg_iff] at h'
    have hx : x ≠ 0 := by rintro rfl; simp at h
    have hy : y ≠ 0 := by rintro rfl; simp at h
    simp [ng]; omega
theorem neg_sg (x : Int) : nz (!ng x) (dg x.natAbs) = ng (-x) ∧ dg x.natAbs = dg (-x).natAbs :=
  sg_eq (by omega) (fun h => by simp [ng]; omega) (fun h => by simp [ng]; omega)
theorem same_sg {x : Int} : nz (ng x) (dg x.natAbs) = ng x ∧ dg x.natAbs = dg x.natAbs := sg_eq rfl ng_true.2 fun h => ng_false.2 (by omega)
theorem add_sg {x y : Int} (h : (ng x == ng y) = true) : nz (ng x) (dg (x.natAbs + y.natAbs)) = ng (x + y) ∧ dg (x.natAbs + y.natAbs) = dg (x + y).natAbs := by
  have h := ng_beq.1 h
  exact sg_eq (by omega) (fun h => ng_true.2 (by omega)) (fun h => ng_false.2 (by omega))
theorem sub_sg {x y : Int} (h : (ng x == ng y) = false) (hle : y.natAbs ≤ x.natAbs) : nz (ng x) (dg (x.natAbs - y.natAbs)) = ng (x + y) ∧ dg (x.natAbs - y.natAbs) = dg (x + y).natAbs := by
  have h := ng_beq'.1 h
  exact sg_eq (by omega) (fun h => ng_true.2 (by omega)) (fun h => ng_false.2 (by omega))
theorem sub_sg2 {x y : Int} (h : (ng x == ng y) = false) (hle : x.natAbs ≤ y.natAbs) : nz (ng y) (dg (y.natAbs - x.natAbs)) = ng (x + y) ∧ dg (y.natAbs - x.natAbs) = dg (x + y).natAbs := by
  have h := ng_beq'.1 h
  exact sg_eq (by omega) (fun h => ng_true.2 (by omega)) (fun h => ng_false.2 (by omega))
theorem sign_z {x : Int} (h : (dg x.natAbs).length = 0) : x.sign = 0 := by
  have := len_zero.1 h; have : x = 0 := by omega
  subst this; rfl
theorem sign_n {x : Int} (h : ng x = true) : x.sign = -1 := Int.sign_eq_neg_one_of_neg (ng_true.1 h)
theorem sign_p {x : Int} (h : ¬ (dg x.natAbs).length = 0) (h1 : ng x = false) : x.sign = 1 := by
  have := mt len_zero.2 h; have := ng_false.1 h1
  exact Int.sign_eq_one_of_pos (by omega)
def cmpI (x y : Int) : Int := if x < y then -1 else if x = y then 0 else 1
theorem cmpI_sign (x y : Int) : (x + -y).sign = cmpI x y := by
  unfold cmpI
  split
  · exact Int.sign_eq_neg_one_of_neg (by omega)
  · split
    · rename_i h; subst h; rw [Int.add_right_neg]; rfl
    · exact Int.sign_eq_one_of_pos (by omega)
theorem cmpI_lt {x y : Int} (h : x < y) : -1 = cmpI x y := by simp [cmpI, h]
theorem cmpI_gt {x y : Int} (h : y < x) : 1 = cmpI x y := by
  have h1 : ¬ x < y := by omega
  have h2 : ¬ x = y := by omega
  simp [cmpI, h1, h2]
theorem cmpI_nn {x y : Int} (hx : 0 ≤ x) (hy : 0 ≤ y) : cmpL (dg x.natAbs) (dg y.natAbs) = cmpI x y := by
  rw [cmpL_dg]; unfold cmpN cmpI
  have h1 : x.natAbs < y.natAbs ↔ x < y := by omega
  have h2 : x.natAbs = y.natAbs ↔ x = y := by omega
  simp only [h1, h2]
theorem cmpI_mm {x y : Int} (hx : x < 0) (hy : y < 0) : cmpL (dg y.natAbs) (dg x.natAbs) = cmpI x y := by
  rw [cmpL_dg]; unfold cmpN cmpI
  have h1 : y.natAbs < x.natAbs ↔ x < y := by omega
  have h2 : y.natAbs = x.natAbs ↔ x = y := by omega
  simp only [h1, h2]
theorem cmpN_neg {m n : Nat} : cmpN m n < 0 ↔ m < n := by unfold cmpN; split <;> (try split) <;> simp <;> omega
theorem cmpN_nonneg {m n : Nat} : 0 ≤ cmpN m n ↔ n ≤ m := by have := cmpN_neg (m := m) (n := n); omega
def capN (m : Nat) : Nat := if (dg m).length ≤ 50 then m else 0
def cap (x : Int) : Int := if (dg x.natAbs).length ≤ 50 then x else 0
def capI (n : Bool) (m : Nat) : Int := if n then -((capN m : Nat) : Int) else ((capN m : Nat) : Int)
theorem capN_ok {m : Nat} (h : (dg m).length ≤ 50) : capN m = m := by simp [capN, h]
theorem capN_no {m : Nat} (h : ¬ (dg m).length ≤ 50) : capN m = 0 := by simp [capN, h]
theorem cap_ok {x : Int} (h : (dg x.natAbs).length ≤ 50) : cap x = x := by simp [cap, h]
theorem cap_sg (n : Bool) (m : Nat) : nz n (dg (capN m)) = ng (capI n m) ∧ dg (capN m) = dg (capI n m).natAbs := by
  refine sg_eq (by unfold capI; split <;> omega) (fun h => ?_) (fun h => ?_)
  · unfold capI at h; split at h
    · assumption
    · omega
  · unfold capI at h; split at h
    · omega
    · simp_all
theorem capI_of {n : Bool} {m : Nat} {x : Int} (h : nz n (dg m) = ng x ∧ dg m = dg x.natAbs) : capI n m = cap x := by
  have h2 : m = x.natAbs := dg_inj h.2
  have h1 := h.1
  unfold capI capN cap
  rw [nz_dg] at h1
  rw [← h2]
  by_cases hc : (dg m).length ≤ 50
  · rw [if_pos hc, if_pos hc]
    cases n with
    | false =>
      have : ng x = false := by rw [← h1]; rfl
      have := ng_false.1 this
      simp; omega
    | true =>
      simp only [Bool.true_and] at h1
      by_cases h0 : 0 < m
      · have : ng x = true := by rw [← h1]; simpa using h0
        have := ng_true.1 this
        simp; omega
      · simp; omega
  · rw [if_neg hc, if_neg hc]; simp
def tenI (k : Int) : Int := ((10 ^ k.toNat : Nat) : Int)
theorem tenI_abs (k : Int) : (tenI k).natAbs = 10 ^ k.toNat := by unfold tenI; exact Int.natAbs_natCast _
theorem tenI_pos (k : Int) : 0 < tenI k := by unfold tenI; have := Nat.pow_pos (n := k.toNat) (show 0 < 10 by decide); omega
theorem ten_ng (k : Int) : false = ng (tenI k) := (ng_false.2 (Int.le_of_lt (tenI_pos k))).symm
theorem ten_le {j : Nat} (h : j ≤ 8) : 10 ^ j ≤ 100000000 := by
  have : 10 ^ j ≤ 10 ^ 8 := Nat.pow_le_pow_right (by decide) h
  simpa using this
theorem pow_bs (q : Nat) : Bs ^ q = 10 ^ (9 * q) := by rw [Nat.pow_mul]
theorem ten_dg {k : Int} (h0 : 0 ≤ k) {j c : Nat} (hj : (j : Int) = k % 9) (hc : c = 10 ^ j) : List.replicate (k / 9).toNat 0 ++ [((c : Nat) : Int)] = dg (10 ^ k.toNat) := by
  have hj8 : j ≤ 8 := by omega
  have h8 := ten_le hj8
  have e : k.toNat = 9 * (k / 9).toNat + j := by omega
  have hv : vl (List.replicate (k / 9).toNat 0 ++ [((c : Nat) : Int)]) = 10 ^ k.toNat := by
    rw [vl_concat, vl_replicate, List.length_replicate, Int.toNat_natCast, Nat.zero_add, pow_bs, hc, ← Nat.pow_add, e]
  refine dg_of ((Lm.replicate _).append (Lm.single (by omega) (by omega))) hv (.inr ?_)
  rw [List.length_append, List.length_replicate, List.length_singleton, Nat.add_sub_cancel, pow_bs]
  exact Nat.pow_le_pow_right (by decide) (by omega)
theorem ten_lenq {k : Int} {q : Nat} (h : k.toNat < 9 * q) : (dg (10 ^ k.toNat)).length ≤ q := by
  apply dg_len_le
  rw [pow_bs]
  exact Nat.pow_lt_pow_right (by decide) h
theorem ten_len {k : Int} (h : k ≤ 449) : (dg (10 ^ k.toNat)).length ≤ 50 := ten_lenq (by omega)
theorem ten_len' {k : Int} (h : k ≤ 30) : (dg (10 ^ k.toNat)).length ≤ 4 := ten_lenq (by omega)
theorem ten_mul_sg (x k : Int) : nz (ng x) (dg (x.natAbs * 10 ^ k.toNat)) = ng (x * tenI k) ∧ dg (x.natAbs * 10 ^ k.toNat) = dg (x * tenI k).natAbs := by
  have h := mul_sg x (tenI k)
  rw [tenI_abs, ← ten_ng] at h
  simpa using h
theorem len_mulI (x y : Int) : (dg (x * y).natAbs).length ≤ (dg x.natAbs).length + (dg y.natAbs).length := by rw [Int.natAbs_mul]; exact len_mul _ _
theorem len_addI (x y : Int) : (dg (x + y).natAbs).length ≤ max (dg x.natAbs).length (dg y.natAbs).length + 1 :=
  Nat.le_trans (len_le (show (x + y).natAbs ≤ x.natAbs + y.natAbs by omega)) (len_add _ _)
theorem len_ten {k : Int} (h : k ≤ 30) : (dg (tenI k).natAbs).length ≤ 4 := by rw [tenI_abs]; exact ten_len' h
def decR (x p : Int) : Bool × List Int × Int × Bool := if (dg x.natAbs).length ≤ 6 ∧ 0 ≤ p ∧ p ≤ 30 then (ng x, dg x.natAbs, p, true) else (false, [], 0, false)
theorem decR_ok {x p : Int} (h : DOk (ng x) (dg x.natAbs) p) : decR x p = (ng x, dg x.natAbs, p, true) := by unfold decR; rw [if_pos (DOk_iff.1 h)]
theorem decR_no {x p : Int} (h : ¬ DOk (ng x) (dg x.natAbs) p) : decR x p = (false, [], 0, false) := by unfold decR; rw [if_neg (mt DOk_iff.2 h)]
def dBin (f : Int → Int → Int → Int → Int × Int) (n1 : Bool) (z1 : List Int) (p1 : Int) (n2 : Bool) (z2 : List Int) (p2 : Int) : Bool × List Int × Int × Bool :=
  if DOk n1 z1 p1 ∧ DOk n2 z2 p2 then decR (f (vI n1 z1) p1 (vI n2 z2) p2).1 (f (vI n1 z1) p1 (vI n2 z2) p2).2 else (false, [], 0, false)
theorem dBin_no {f : Int → Int → Int → Int → Int × Int} {n1 : Bool} {z1 : List Int} {p1 : Int} {n2 : Bool} {z2 : List Int} {p2 : Int} (h : ¬ (DOk n1 z1 p1 ∧ DOk n2 z2 p2)) : dBin f n1 z1 p1 n2 z2 p2 = (false, [], 0, false) := by unfold dBin; rw [if_neg h]
theorem dBin_ok {f : Int → Int → Int → Int → Int × Int} {x p y q : Int} (h1 : DOk (ng x) (dg x.natAbs) p) (h2 : DOk (ng y) (dg y.natAbs) q) : dBin f (ng x) (dg x.natAbs) p (ng y) (dg y.natAbs) q = decR (f x p y q).1 (f x p y q).2 := by
  unfold dBin; rw [if_pos ⟨h1, h2⟩, vI_ng, vI_ng]
abbrev fMul (x p y q : Int) : Int × Int := (x * y, p + q)
abbrev fAdd (x p y q : Int) : Int × Int := (x * tenI (max p q - p) + y * tenI (max p q - q), max p q)
abbrev fSub (x p y q : Int) : Int × Int := (x * tenI (max p q - p) + -(y * tenI (max p q - q)), max p q)
def dCmp (n1 : Bool) (z1 : List Int) (p1 : Int) (n2 : Bool) (z2 : List Int) (p2 : Int) : Int :=
  if DOk n1 z1 p1 ∧ DOk n2 z2 p2 then cmpI (vI n1 z1 * tenI (max p1 p2 - p1)) (vI n2 z2 * tenI (max p1 p2 - p2)) else 0
theorem dCmp_no {n1 : Bool} {z1 : List Int} {p1 : Int} {n2 : Bool} {z2 : List Int} {p2 : Int} (h : ¬ (DOk n1 z1 p1 ∧ DOk n2 z2 p2)) : dCmp n1 z1 p1 n2 z2 p2 = 0 := by unfold dCmp; rw [if_neg h]
theorem dCmp_ok {x p y q : Int} (h1 : DOk (ng x) (dg x.natAbs) p) (h2 : DOk (ng y) (dg y.natAbs) q) : dCmp (ng x) (dg x.natAbs) p (ng y) (dg y.natAbs) q = cmpI (x * tenI (max p q - p)) (y * tenI (max p q - q)) := by
  unfold dCmp; rw [if_pos ⟨h1, h2⟩, vI_ng, vI_ng]
def mk (n : Int) (k : Nat) : List Int := (List.range k).map fun i : Nat => n + (i : Int)
theorem mk_length (n : Int) (k : Nat) : (mk n k).length = k := by simp [mk]
theorem mk_getD {n : Int} {k i : Nat} (h : i < k) : (mk n k).getD i 0 = n + i := by simp [mk, h]
theorem mk_zero (n : Int) : mk n 0 = [] := rfl
theorem mk_set {n : Int} {k : Nat} {os : List Int} (h : os.take k = mk n k) (hk : k < os.length) : (os.set k (n + k)).take (k + 1) = mk n (k + 1) := by
  rw [List.take_succ_eq_append_getElem (by simpa using hk)]
  simp only [List.take_set_of_le (Nat.le_refl k), List.getElem_set_self, h]
  simp [mk, List.range_succ]
end Go.Proofs.Ytjkeefmpjocilaa
namespace Go.Proofs.Ytjkeefmpjocilaa
theorem dBin_sub {n1 : Bool} {z1 : List Int} {p1 x q : Int} : dBin fSub n1 z1 p1 (ng x) (dg x.natAbs) q = dBin fAdd n1 z1 p1 (ng (-x)) (dg (-x).natAbs) q := by
  unfold dBin
  have e : DOk (ng (-x)) (dg (-x).natAbs) q ↔ DOk (ng x) (dg x.natAbs) q := by rw [DOk_iff, DOk_iff, Int.natAbs_neg]
  simp only [e, vI_ng, fAdd, fSub, Int.neg_mul]
end Go.Proofs.Ytjkeefmpjocilaa
namespace Go.Proofs.Ytjkeefmpjocilaa
theorem decR_len (x p : Int) : (decR x p).2.1.length ≤ 6 := by
  unfold decR; split
  · rename_i h; exact h.1
  · simp
theorem dBin_len {f : Int → Int → Int → Int → Int × Int} {n1 : Bool} {z1 : List Int} {p1 : Int} {n2 : Bool} {z2 : List Int} {p2 : Int} : (dBin f n1 z1 p1 n2 z2 p2).2.1.length ≤ 6 := by
  unfold dBin; split
  · exact decR_len _ _
  · simp
end Go.Proofs.Ytjkeefmpjocilaa
namespace Go.Proofs.Ytjkeefmpjocilaa
theorem of_step {os : List Int} {q v n : Nat} (hv : vl os + Bs ^ os.length * n = v) : vl (os ++ [((n % Bs : Nat) : Int)]) + Bs ^ (os ++ [((n % Bs : Nat) : Int)]).length * (n / Bs) = v := by
  rw [vl_concat, List.length_append, List.length_singleton, Int.toNat_natCast, Nat.pow_succ, Nat.add_assoc, Nat.mul_assoc, ← Nat.mul_add, Nat.mod_add_div]; exact hv
theorem of_stepI {os : List Int} {v : Nat} {n : Int} (h0 : 0 ≤ n) (hv : vl os + Bs ^ os.length * n.toNat = v) : vl (os ++ [n % 1000000000]) + Bs ^ (os ++ [n % 1000000000]).length * (n / 1000000000).toNat = v := by
  have e1 : n % 1000000000 = ((n.toNat % Bs : Nat) : Int) := by simp only [Bs]; omega
  have e2 : (n / 1000000000).toNat = n.toNat / Bs := by simp only [Bs]; omega
  rw [e1, e2]; exact of_step (q := 0) hv
theorem of_len {os : List Int} {v : Nat} {n : Int} (h0 : 0 < n) (hv : vl os + Bs ^ os.length * n.toNat = v) : Bs ^ ((os ++ [n % 1000000000]).length - 1) ≤ v := by
  rw [List.length_append, List.length_singleton, Nat.add_sub_cancel, ← hv]
  exact Nat.le_trans (Nat.le_mul_of_pos_right _ (by omega)) (Nat.le_add_left _ _)
theorem len_u64 {n : Int} (h : n ≤ 18446744073709551615) : (dg n.toNat).length ≤ 3 := dg_len_le (by simp only [Bs]; omega)
theorem len_i64 {n : Int} (h : -9223372036854775808 ≤ n ∧ n ≤ 9223372036854775807) : (dg n.natAbs).length ≤ 3 := dg_len_le (by simp only [Bs]; omega)
theorem dg_min : dg (-9223372036854775808 : Int).natAbs = [854775808, 223372036, 9] := by decide +kernel
end Go.Proofs.Ytjkeefmpjocilaa
namespace Go.Proofs.Ytjkeefmpjocilaa
theorem capI_neg {n : Int} (h : -9223372036854775808 ≤ n ∧ n ≤ 0) : capI true (-n).toNat = n := by
  have e : (-n).toNat = n.natAbs := by omega
  have := len_i64 (n := n) (by omega)
  unfold capI; rw [e, capN_ok (by omega), if_pos rfl]; omega
theorem capI_pos {n : Int} (h : 0 ≤ n ∧ n ≤ 9223372036854775807) : capI false n.toNat = n := by
  have e : n.toNat = n.natAbs := by omega
  have := len_i64 (n := n) (by omega)
  unfold capI; rw [e, capN_ok (by omega), if_neg (by decide)]; omega
theorem capI_min : capI true (-9223372036854775808 : Int).natAbs = -9223372036854775808 := by
  have := capI_neg (n := -9223372036854775808) (by decide)
  exact this
end Go.Proofs.Ytjkeefmpjocilaa
namespace Go.Proofs.Ytjkeefmpjocilaa
theorem of_ln {m : Int} (h : 0 < m) : (dg m.toNat).length = (dg (m / 1000000000).toNat).length + 1 := by
  have e : (m / 1000000000).toNat = m.toNat / Bs := by simp only [Bs]; omega
  rw [e, dg_pos (n := m.toNat) (by omega), List.length_cons]
end Go.Proofs.Ytjkeefmpjocilaa

namespace Go.Proofs.Ytjkeefmpjocilaa
instance (s : ByteArray) : Decidable (Known s) := by unfold Known; infer_instance
def MOk (c : ByteArray) (n : Bool) (zs : List Int) : Prop := Known c ∧ IOk n zs ∧ zs.length ≤ 4
instance (c : ByteArray) (n : Bool) (zs : List Int) : Decidable (MOk c n zs) := by unfold MOk; infer_instance
theorem MOk.int {c : ByteArray} {n : Bool} {zs : List Int} (h : MOk c n zs) : ∃ x : Int, n = ng x ∧ zs = dg x.natAbs ∧ (dg x.natAbs).length ≤ 4 := by
  obtain ⟨x, rfl, rfl, _⟩ := h.2.1.int
  exact ⟨x, rfl, rfl, h.2.2⟩
theorem MOk_iff {c : ByteArray} {x : Int} : MOk c (ng x) (dg x.natAbs) ↔ (Known c ∧ (dg x.natAbs).length ≤ 4) := ⟨fun h => ⟨h.1, h.2.2⟩, fun h => ⟨h.1, IOk_ng (by omega), h.2⟩⟩
def noM : ByteArray × Bool × List Int × Bool := (⟨#[]⟩, false, [], false)
def mR (c : ByteArray) (x : Int) : ByteArray × Bool × List Int × Bool := if Known c ∧ (dg x.natAbs).length ≤ 4 then (c, ng x, dg x.natAbs, true) else noM
theorem mR_ok {c : ByteArray} {x : Int} (h : MOk c (ng x) (dg x.natAbs)) : mR c x = (c, ng x, dg x.natAbs, true) := by unfold mR; rw [if_pos (MOk_iff.1 h)]
theorem mR_no {c : ByteArray} {x : Int} (h : ¬ MOk c (ng x) (dg x.natAbs)) : mR c x = noM := by unfold mR; rw [if_neg (mt MOk_iff.2 h)]
theorem mR_len {c : ByteArray} {x : Int} : (mR c x).2.2.1.length ≤ 4 := by
  unfold mR; split
  · rename_i h; exact h.2
  · simp [noM]
def Alike (c1 : ByteArray) (n1 : Bool) (z1 : List Int) (c2 : ByteArray) (n2 : Bool) (z2 : List Int) : Prop := MOk c1 n1 z1 ∧ MOk c2 n2 z2 ∧ c1 = c2
instance (c1 : ByteArray) (n1 : Bool) (z1 : List Int) (c2 : ByteArray) (n2 : Bool) (z2 : List Int) : Decidable (Alike c1 n1 z1 c2 n2 z2) := by unfold Alike; infer_instance
def mBin (f : Int → Int → Int) (c1 : ByteArray) (n1 : Bool) (z1 : List Int) (c2 : ByteArray) (n2 : Bool) (z2 : List Int) : ByteArray × Bool × List Int × Bool :=
  if Alike c1 n1 z1 c2 n2 z2 then mR c1 (f (vI n1 z1) (vI n2 z2)) else noM
theorem mBin_no {f : Int → Int → Int} {c1 : ByteArray} {n1 : Bool} {z1 : List Int} {c2 : ByteArray} {n2 : Bool} {z2 : List Int} (h : ¬ Alike c1 n1 z1 c2 n2 z2) : mBin f c1 n1 z1 c2 n2 z2 = noM := by unfold mBin; rw [if_neg h]
theorem mBin_ok {f : Int → Int → Int} {c1 c2 : ByteArray} {x y : Int} (h : Alike c1 (ng x) (dg x.natAbs) c2 (ng y) (dg y.natAbs)) : mBin f c1 (ng x) (dg x.natAbs) c2 (ng y) (dg y.natAbs) = mR c1 (f x y) := by unfold mBin; rw [if_pos h, vI_ng, vI_ng]
theorem mBin_len {f : Int → Int → Int} {c1 : ByteArray} {n1 : Bool} {z1 : List Int} {c2 : ByteArray} {n2 : Bool} {z2 : List Int} : (mBin f c1 n1 z1 c2 n2 z2).2.2.1.length ≤ 4 := by
  unfold mBin; split
  · exact mR_len
  · simp [noM]
abbrev gAdd (x y : Int) : Int := x + y
abbrev gSub (x y : Int) : Int := x + -y
def mUn (f : Int → Int) (c : ByteArray) (n : Bool) (zs : List Int) : ByteArray × Bool × List Int × Bool := if MOk c n zs then mR c (f (vI n zs)) else noM
theorem mUn_no {f : Int → Int} {c : ByteArray} {n : Bool} {zs : List Int} (h : ¬ MOk c n zs) : mUn f c n zs = noM := by unfold mUn; rw [if_neg h]
theorem mUn_ok {f : Int → Int} {c : ByteArray} {x : Int} (h : MOk c (ng x) (dg x.natAbs)) : mUn f c (ng x) (dg x.natAbs) = mR c (f x) := by unfold mUn; rw [if_pos h, vI_ng]
theorem mUn_len {f : Int → Int} {c : ByteArray} {n : Bool} {zs : List Int} : (mUn f c n zs).2.2.1.length ≤ 4 := by
  unfold mUn; split
  · exact mR_len
  · simp [noM]
abbrev uNeg (x : Int) : Int := -x
abbrev uTimes (k : Int) (x : Int) : Int := x * k
def mCmp (c1 : ByteArray) (n1 : Bool) (z1 : List Int) (c2 : ByteArray) (n2 : Bool) (z2 : List Int) : Int × Bool := if Alike c1 n1 z1 c2 n2 z2 then (cmpI (vI n1 z1) (vI n2 z2), true) else (0, false)
theorem mCmp_no {c1 : ByteArray} {n1 : Bool} {z1 : List Int} {c2 : ByteArray} {n2 : Bool} {z2 : List Int} (h : ¬ Alike c1 n1 z1 c2 n2 z2) : mCmp c1 n1 z1 c2 n2 z2 = (0, false) := by unfold mCmp; rw [if_neg h]
theorem mCmp_ok {c1 c2 : ByteArray} {x y : Int} (h : Alike c1 (ng x) (dg x.natAbs) c2 (ng y) (dg y.natAbs)) : mCmp c1 (ng x) (dg x.natAbs) c2 (ng y) (dg y.natAbs) = (cmpI x y, true) := by unfold mCmp; rw [if_pos h, vI_ng, vI_ng]
theorem cur_places (s : ByteArray) : 0 ≤ (curOf s).places ∧ (curOf s).places ≤ 9 := by
  unfold curOf
  cases e : byCode tabI s with
  | none => exact ⟨by decide, by decide⟩
  | some c =>
    have hc : c ∈ tabI := List.mem_of_find?_eq_some e
    have : ∀ c ∈ tabI, 0 ≤ c.places ∧ c.places ≤ 9 := by decide +kernel
    exact this c hc
end Go.Proofs.Ytjkeefmpjocilaa

namespace Go.Proofs.Ytjkeefmpjocilaa
theorem drop_set {os : List Int} {j : Nat} {x : Int} (h : j < os.length) : (os.set j x).drop j = x :: os.drop (j + 1) := by
  rw [List.set_eq_take_append_cons_drop, if_pos h, List.drop_append, List.length_take, Nat.min_eq_left (by omega)]
  simp [List.drop_eq_nil_of_le]
theorem drop_getD {os : List Int} {j : Nat} (h : j < os.length) : os.drop j = os.getD j 0 :: os.drop (j + 1) := by
  have e : os.getD j 0 = os[j] := by simp [List.getElem?_eq_getElem h]
  rw [e, ← List.drop_eq_getElem_cons h]
theorem vl_drop {os : List Int} {k : Nat} (hk : 0 < k) (h : k ≤ os.length) : vl (os.drop (k - 1)) = (os.getD (k - 1) 0).toNat + Bs * vl (os.drop k) := by
  rw [drop_getD (by omega), Nat.sub_add_cancel hk, vl]
theorem vl_drop_set {os : List Int} {k : Nat} {x : Int} (hk : 0 < k) (h : k ≤ os.length) : vl ((os.set (k - 1) x).drop (k - 1)) = x.toNat + Bs * vl (os.drop k) := by
  rw [drop_set (by omega), Nat.sub_add_cancel hk, vl]
theorem small_q {r d a : Int} (h0 : 0 ≤ r) (h1 : r < d) (a0 : 0 ≤ a) (a1 : a < 1000000000) : 0 ≤ (r * 1000000000 + a) / d ∧ (r * 1000000000 + a) / d < 1000000000 ∧ 0 ≤ (r * 1000000000 + a) % d ∧ (r * 1000000000 + a) % d < d := by
  refine ⟨Int.ediv_nonneg (by omega) (by omega), Int.ediv_lt_of_lt_mul (by omega) (by omega), Int.emod_nonneg _ (by omega), Int.emod_lt_of_pos _ (by omega)⟩
theorem small_step {A os : List Int} {k : Nat} {r d X : Int} (hk : 0 < k) (hA : k ≤ A.length) (ho : k ≤ os.length) (hr : 0 ≤ r ∧ r < d) (ha : 0 ≤ A.getD (k - 1) 0 ∧ A.getD (k - 1) 0 < 1000000000) (hX : X = r * 1000000000 + A.getD (k - 1) 0)
    (hv : vl (A.drop k) = d.toNat * vl (os.drop k) + r.toNat) : vl (A.drop (k - 1)) = d.toNat * vl ((os.set (k - 1) (X / d)).drop (k - 1)) + (X % d).toNat := by
  rw [vl_drop hk hA, vl_drop_set hk ho, hv]
  have hq := small_q hr.1 hr.2 ha.1 ha.2
  rw [← hX] at hq
  have h1 := Int.mul_ediv_add_emod X d
  have h2 : d.toNat * (X / d).toNat + (X % d).toNat = r.toNat * Bs + (A.getD (k - 1) 0).toNat := by
    have e1 : ((d.toNat * (X / d).toNat + (X % d).toNat : Nat) : Int) = X := by
      rw [Int.natCast_add, Int.natCast_mul, Int.toNat_of_nonneg (by omega), Int.toNat_of_nonneg hq.1, Int.toNat_of_nonneg hq.2.2.1]; exact h1
    simp only [Bs]; omega
  generalize (X / d).toNat = q at *
  generalize (X % d).toNat = s at *
  generalize vl (os.drop k) = V at *
  generalize (A.getD (k - 1) 0).toNat = a at *
  generalize d.toNat = e at *
  generalize r.toNat = t at *
  grind
theorem div_end {m d v r : Nat} (h : m = d * v + r) (hr : r < d) : v = m / d ∧ r = m % d := by
  subst h
  have h0 : 0 < d := by omega
  refine ⟨?_, ?_⟩
  · rw [Nat.mul_add_div h0, Nat.div_eq_of_lt hr, Nat.add_zero]
  · rw [Nat.mul_add_mod, Nat.mod_eq_of_lt hr]
theorem one_limb {n : Nat} (h : (dg n).length = 1) : ((dg n).getD 0 0).toNat = n ∧ 1 ≤ (dg n).getD 0 0 ∧ (dg n).getD 0 0 ≤ 999999999 := by
  have h0 : n ≠ 0 := fun e => by subst e; rw [dg_zero] at h; cases h
  have hb := (Lm_dg n).getD 0
  have e : n / Bs = 0 := by
    rw [dg_pos h0, List.length_cons] at h
    exact len_zero.1 (by omega)
  have hm : n % Bs = n := Nat.mod_eq_of_lt (by
    rcases Nat.lt_or_ge n Bs with h1 | h1
    · exact h1
    · have := Nat.div_pos h1 (by decide); omega)
  have h2 : (dg n).getD 0 0 = (n : Int) := by rw [dg_pos h0, hm]; rfl
  rw [h2] at hb ⊢
  refine ⟨by simp, by omega, by omega⟩
theorem cmpN_le {m n : Nat} : cmpN m n ≤ 0 ↔ m ≤ n := by unfold cmpN; split <;> (try split) <;> simp <;> omega
theorem digit_end {r n : Nat} {lo hi : Int} (h0 : 0 ≤ lo) (he : ¬ lo < hi) (hle : lo ≤ hi) (hl : lo.toNat * n ≤ r) (hh : r < (hi.toNat + 1) * n) : lo = ((r / n : Nat) : Int) := by
  have e : lo = hi := by omega
  subst e
  have h1 : 0 < n := by
    rcases Nat.eq_zero_or_pos n with h | h
    · subst h; simp at hh
    · exact h
  have : r / n = lo.toNat := by
    apply Nat.le_antisymm
    · exact Nat.lt_succ_iff.1 ((Nat.div_lt_iff_lt_mul h1).2 hh)
    · exact (Nat.le_div_iff_mul_le h1).2 hl
  omega
theorem head_vl (a : Int) (R : Nat) : vl ([a] ++ dg R) = a.toNat + 1000000000 * R := by
  rw [vl_append, vl_dg]; simp [vl, Bs]
theorem down_step {A os : List Int} {k n R X : Nat} (hk : 0 < k) (hA : k ≤ A.length) (ho : k ≤ os.length) (hz : os.getD (k - 1) 0 = 0) (hX : X = (A.getD (k - 1) 0).toNat + 1000000000 * R)
    (hv : vl (A.drop k) = n * vl (os.drop k) + R) : vl (A.drop (k - 1)) = n * vl (os.drop (k - 1)) + X := by
  rw [vl_drop hk hA, vl_drop hk ho, hv, hz, hX]
  simp only [Bs, Int.toNat_zero]
  grind
theorem div_step {A os : List Int} {k n R X : Nat} (hk : 0 < k) (hA : k ≤ A.length) (ho : k ≤ os.length) (hX : X = (A.getD (k - 1) 0).toNat + 1000000000 * R) (hn : 0 < n)
    (hv : vl (A.drop k) = n * vl (os.drop k) + R) : vl (A.drop (k - 1)) = n * vl ((os.set (k - 1) (((X / n : Nat) : Int))).drop (k - 1)) + (X - n * (((X / n : Nat) : Int)).toNat) := by
  rw [vl_drop hk hA, vl_drop_set hk ho, hv]
  rw [Int.toNat_natCast]
  have h1 := Nat.div_add_mod X n
  have h2 : X - n * (X / n) = X % n := by omega
  rw [h2]
  simp only [Bs]
  generalize X / n = q at *
  generalize X % n = s at *
  generalize (A.getD (k - 1) 0).toNat = a at *
  generalize vl (os.drop k) = V at *
  grind
theorem sub_mod {X n : Nat} (hn : 0 < n) : X - n * (((X / n : Nat) : Int)).toNat < n := by
  rw [Int.toNat_natCast]
  have h1 := Nat.div_add_mod X n
  have := Nat.mod_lt X hn
  omega
theorem q_limb {X n a R : Nat} (hX : X = a + 1000000000 * R) (ha : a < 1000000000) (hR : R < n) : X / n < 1000000000 := by
  rw [Nat.div_lt_iff_lt_mul (by omega)]
  have : 1000000000 * (R + 1) ≤ 1000000000 * n := Nat.mul_le_mul_left _ hR
  omega
theorem zero_below {os : List Int} {k : Nat} {x : Int} (h : ∀ i, i < k → os.getD i 0 = 0) : ∀ i, i < k - 1 → (os.set (k - 1) x).getD i 0 = 0 := fun i hi => by
  rw [getD_set_ne' (by omega)]; exact h i (by omega)
theorem zero_rep' (n k : Nat) : ∀ i, i < k → (List.replicate n (0 : Int)).getD i 0 = 0 := fun i _ => zero_rep n i (Nat.zero_le _)
theorem len_lt_mul {X n : Nat} (h : X < 1000000000 * n) : (dg X).length ≤ (dg n).length + 1 := by
  apply dg_len_le
  have h2 : n < Bs ^ (dg n).length := lt_of_dg_len (Nat.le_refl _)
  rw [Nat.pow_succ]; simp only [Bs] at *; omega
end Go.Proofs.Ytjkeefmpjocilaa

namespace Go.Proofs.Ytjkeefmpjocilaa
theorem getD_drop {os zs : List Int} {k : Nat} (h : os.drop k = zs.drop k) : os.getD k 0 = zs.getD k 0 := by
  have h1 : (os.drop k)[0]? = (zs.drop k)[0]? := by rw [h]
  simp only [List.getElem?_drop, Nat.add_zero] at h1
  simp only [List.getD_eq_getElem?_getD, h1]
theorem drop_set_succ {os zs : List Int} {k : Nat} {x : Int} (h : os.drop k = zs.drop k) : (os.set k x).drop (k + 1) = zs.drop (k + 1) := by
  rw [List.drop_set_of_lt (by omega)]
  have h1 : (os.drop k).drop 1 = (zs.drop k).drop 1 := by rw [h]
  simpa only [List.drop_drop] using h1
theorem Lm_take_set {os : List Int} {k : Nat} {x : Int} (h : Lm (os.take k)) (hk : k < os.length) (h0 : 0 ≤ x) (h1 : x < 1000000000) : Lm ((os.set k x).take (k + 1)) := by
  rw [List.take_succ_eq_append_getElem (by simpa using hk), List.take_set_of_le (Nat.le_refl k), List.getElem_set_self]
  exact h.append (Lm.single h0 h1)
theorem subt_step {Z O Y P c c' u nl x q : Nat} (hv : Z + P * c = O + q * Y) (hs : u + Bs * c' = nl + x * q + c) : (Z + P * u) + P * Bs * c' = (O + P * nl) + q * (Y + P * x) := by
  have h1 : P * (u + Bs * c') = P * (nl + x * q + c) := by rw [hs]
  grind
theorem toNat_mul' {x q : Int} (hx : 0 ≤ x) (hq : 0 ≤ q) : (x * q).toNat = x.toNat * q.toNat := by
  have h : ((x.toNat * q.toNat : Nat) : Int) = x * q := by rw [Int.natCast_mul, Int.toNat_of_nonneg hx, Int.toNat_of_nonneg hq]
  omega
theorem subt_next {zs ys os : List Int} {k : Nat} {q c c' x : Int} (hk : k < os.length) (hdr : os.drop k = zs.drop k) (hq : 0 ≤ q) (hc : 0 ≤ c) (hc' : 0 ≤ c') (hx : 0 ≤ x ∧ x < 1000000000) (hz : 0 ≤ zs.getD k 0) (hy : 0 ≤ ys.getD k 0)
    (hs : os.getD k 0 + c' * 1000000000 = x + ys.getD k 0 * q + c) (hv : vl (zs.take k) + Bs ^ k * c.toNat = vl (os.take k) + q.toNat * vl (ys.take k)) :
    vl (zs.take (k + 1)) + Bs ^ (k + 1) * c'.toNat = vl ((os.set k x).take (k + 1)) + q.toNat * vl (ys.take (k + 1)) := by
  rw [vl_take_set hk, vl_take_succ', vl_take_succ', Nat.pow_succ]
  refine subt_step hv ?_
  have e1 := getD_drop hdr
  have e2 := toNat_mul' hy hq
  rw [← e2]
  have e3 : 0 ≤ ys.getD k 0 * q := Int.mul_nonneg hy hq
  rw [e1] at hs
  simp only [Bs]
  omega
theorem take_set_self {os : List Int} {n : Nat} {x : Int} : (os.set n x).take n = os.take n := List.take_set_of_le (Nat.le_refl n)
theorem subt_end {zs ys os : List Int} {n : Nat} {q c : Int} (hn : n < os.length) (hy : ys.length = n) (hdr : os.drop n = zs.drop n) (hq : 0 ≤ q) (hc : 0 ≤ c) (hv : vl (zs.take n) + Bs ^ n * c.toNat = vl (os.take n) + q.toNat * vl (ys.take n)) :
    ((vl ((os.set n (os.getD n 0 - c)).take n) : Nat) : Int) + ((Bs ^ n : Nat) : Int) * (os.set n (os.getD n 0 - c)).getD n 0 = ((vl (zs.take n) : Nat) : Int) + ((Bs ^ n : Nat) : Int) * zs.getD n 0 - q * ((vl ys : Nat) : Int) := by
  rw [take_set_self, getD_set_eq hn, getD_drop hdr]
  rw [vl_take_ge (show ys.length ≤ n by omega)] at hv
  have h1 : ((vl (zs.take n) : Nat) : Int) + ((Bs ^ n : Nat) : Int) * c = ((vl (os.take n) : Nat) : Int) + q * ((vl ys : Nat) : Int) := by
    have h2 : ((vl (zs.take n) + Bs ^ n * c.toNat : Nat) : Int) = ((vl (os.take n) + q.toNat * vl ys : Nat) : Int) := by rw [hv]
    rw [Int.natCast_add, Int.natCast_add, Int.natCast_mul, Int.natCast_mul, Int.toNat_of_nonneg hc, Int.toNat_of_nonneg hq] at h2
    exact h2
  generalize ((Bs ^ n : Nat) : Int) = B at *
  grind
theorem addb_next {zs ys os : List Int} {k : Nat} {c : Nat} {s : Int} (hk : k < os.length) (hdr : os.drop k = zs.drop k) (hz : 0 ≤ zs.getD k 0) (hy : 0 ≤ ys.getD k 0)
    (hs : s = (c : Int) + (os.getD k 0 + ys.getD k 0)) (hv : vl (os.take k) + Bs ^ k * c = vl (zs.take k) + vl (ys.take k)) :
    vl ((os.set k (s % 1000000000)).take (k + 1)) + Bs ^ (k + 1) * (s / 1000000000).toNat = vl (zs.take (k + 1)) + vl (ys.take (k + 1)) := by
  rw [vl_take_set hk, vl_take_succ', vl_take_succ', Nat.pow_succ]
  have e1 := getD_drop hdr
  refine add_step (s := s) ?_ hv
  omega
theorem addb_end {zs ys os : List Int} {n c : Nat} (hn : n < os.length) (hy : ys.length = n) (hdr : os.drop n = zs.drop n) (hv : vl (os.take n) + Bs ^ n * c = vl (zs.take n) + vl (ys.take n)) :
    ((vl ((os.set n (os.getD n 0 + (c : Int))).take n) : Nat) : Int) + ((Bs ^ n : Nat) : Int) * (os.set n (os.getD n 0 + (c : Int))).getD n 0 = ((vl (zs.take n) : Nat) : Int) + ((Bs ^ n : Nat) : Int) * zs.getD n 0 + ((vl ys : Nat) : Int) := by
  rw [take_set_self, getD_set_eq hn, getD_drop hdr]
  rw [vl_take_ge (show ys.length ≤ n by omega)] at hv
  have h2 : ((vl (os.take n) + Bs ^ n * c : Nat) : Int) = ((vl (zs.take n) + vl ys : Nat) : Int) := by rw [hv]
  rw [Int.natCast_add, Int.natCast_add, Int.natCast_mul] at h2
  generalize ((Bs ^ n : Nat) : Int) = B at *
  grind
theorem kn_up {P L u2 top K v2 v1 : Nat} (hL : L < P) (hu2 : u2 < 1000000000) (hv1 : 0 < v1) : (L + P * (u2 + 1000000000 * top)) / (K + P * (v2 + 1000000000 * v1)) ≤ top / v1 := by
  generalize hQ : (L + P * (u2 + 1000000000 * top)) / (K + P * (v2 + 1000000000 * v1)) = Q
  have h0 : Q * (K + P * (v2 + 1000000000 * v1)) ≤ L + P * (u2 + 1000000000 * top) := by rw [← hQ]; exact Nat.div_mul_le_self _ _
  rw [Nat.le_div_iff_mul_le hv1]
  rcases Nat.lt_or_ge top (Q * v1) with h | h
  · exfalso
    have h1 : P * (top + 1) ≤ P * (Q * v1) := Nat.mul_le_mul_left _ h
    have h2 : P * (u2 + 1) ≤ P * 1000000000 := Nat.mul_le_mul_left _ hu2
    have h3 : Q * (K + P * (v2 + 1000000000 * v1)) = Q * K + Q * P * v2 + 1000000000 * (P * (Q * v1)) := by grind
    have h4 : P * (u2 + 1000000000 * top) = P * u2 + 1000000000 * (P * top) := by grind
    rw [Nat.mul_add, Nat.mul_one] at h1 h2
    rw [h3, h4] at h0
    omega
  · exact h
theorem kn_dn {P L u2 top K v2 v1 q r : Nat} (hL : L < P) (ht : top = q * v1 + r) (hg : r * 1000000000 + u2 < q * v2) : (L + P * (u2 + 1000000000 * top)) / (K + P * (v2 + 1000000000 * v1)) < q := by
  generalize hQ : (L + P * (u2 + 1000000000 * top)) / (K + P * (v2 + 1000000000 * v1)) = Q
  have h0 : Q * (K + P * (v2 + 1000000000 * v1)) ≤ L + P * (u2 + 1000000000 * top) := by rw [← hQ]; exact Nat.div_mul_le_self _ _
  rcases Nat.lt_or_ge Q q with h | h
  · exact h
  · exfalso
    have h1 : q * (K + P * (v2 + 1000000000 * v1)) ≤ Q * (K + P * (v2 + 1000000000 * v1)) := Nat.mul_le_mul_right _ h
    have h2 : P * (r * 1000000000 + u2 + 1) ≤ P * (q * v2) := Nat.mul_le_mul_left _ hg
    have h3 : q * (K + P * (v2 + 1000000000 * v1)) = q * K + P * (q * v2) + 1000000000 * (P * (q * v1)) := by grind
    have h4 : P * (u2 + 1000000000 * top) = P * u2 + 1000000000 * (P * (q * v1)) + 1000000000 * (P * r) := by rw [ht]; grind
    have h5 : P * (r * 1000000000 + u2 + 1) = 1000000000 * (P * r) + P * u2 + P := by grind
    rw [h4] at h0; rw [h3] at h1; rw [h5] at h2
    omega
theorem kn_ge {P L u2 top K v2 v1 q r : Nat} (hK : K < P) (ht : top = q * v1 + r) (hq : q < 1000000000) (hv2 : v2 < 1000000000) (hv1 : 0 < v1) (hx : q * v2 ≤ r * 1000000000 + u2 ∨ 1000000000 ≤ r) :
    q ≤ (L + P * (u2 + 1000000000 * top)) / (K + P * (v2 + 1000000000 * v1)) + 1 := by
  have hV : 0 < K + P * (v2 + 1000000000 * v1) := by
    have : P * 1 ≤ P * (v2 + 1000000000 * v1) := Nat.mul_le_mul_left _ (by omega)
    omega
  have h0 := Nat.lt_mul_div_succ (L + P * (u2 + 1000000000 * top)) hV
  generalize (L + P * (u2 + 1000000000 * top)) / (K + P * (v2 + 1000000000 * v1)) = Q at *
  rcases Nat.lt_or_ge (Q + 1) q with h | h
  · exfalso
    obtain ⟨p, rfl⟩ : ∃ p, q = p + 1 := ⟨q - 1, by omega⟩
    have h1 : (K + P * (v2 + 1000000000 * v1)) * (Q + 1) ≤ (K + P * (v2 + 1000000000 * v1)) * p := Nat.mul_le_mul_left _ (by omega)
    have h2 : (K + P * (v2 + 1000000000 * v1)) * p ≤ (P + P * (v2 + 1000000000 * v1)) * p := Nat.mul_le_mul_right _ (by omega)
    have h3 : P * (u2 + 1000000000 * top) < P * ((v2 + 1000000000 * v1 + 1) * p) := by
      have : (P + P * (v2 + 1000000000 * v1)) * p = P * ((v2 + 1000000000 * v1 + 1) * p) := by grind
      omega
    have h4 := Nat.lt_of_mul_lt_mul_left h3
    have h5 : (v2 + 1000000000 * v1 + 1) * p = p * v2 + 1000000000 * (p * v1) + p := by grind
    have h6 : top = p * v1 + v1 + r := by rw [ht]; grind
    rw [h5, h6] at h4
    rcases hx with hx | hx
    · have h7 : (p + 1) * v2 = p * v2 + v2 := by grind
      omega
    · have h7 : p * (v2 + 1) ≤ p * 1000000000 := Nat.mul_le_mul_left _ hv2
      have h8 : p * (v2 + 1) = p * v2 + p := by grind
      omega
  · exact h
theorem vl_split (zs : List Int) (j : Nat) (h : j ≤ zs.length) : vl zs = vl (zs.take j) + Bs ^ j * vl (zs.drop j) := by
  conv => lhs; rw [← List.take_append_drop j zs]
  rw [vl_append, List.length_take, Nat.min_eq_left h]
theorem vl_drop_one {zs : List Int} {j : Nat} (h : j < zs.length) : vl (zs.drop j) = (zs.getD j 0).toNat + Bs * vl (zs.drop (j + 1)) := by
  rw [drop_getD h, vl]
theorem vl_drop_end {zs : List Int} {j : Nat} (h : zs.length ≤ j) : vl (zs.drop j) = 0 := by rw [List.drop_eq_nil_of_le h]; rfl
theorem vl_top3 {zs : List Int} {n : Nat} (h2 : 2 ≤ n) (hl : zs.length = n + 1) : vl zs = vl (zs.take (n - 2)) + Bs ^ (n - 2) * ((zs.getD (n - 2) 0).toNat + 1000000000 * ((zs.getD n 0).toNat * 1000000000 + (zs.getD (n - 1) 0).toNat)) := by
  rw [vl_split zs (n - 2) (by omega), vl_drop_one (by omega), show n - 2 + 1 = n - 1 by omega, vl_drop_one (by omega), show n - 1 + 1 = n by omega, vl_drop_one (by omega), vl_drop_end (by omega)]
  congr 2
  simp only [Bs]; omega
theorem vl_top2 {zs : List Int} {n : Nat} (h2 : 2 ≤ n) (hl : zs.length = n) : vl zs = vl (zs.take (n - 2)) + Bs ^ (n - 2) * ((zs.getD (n - 2) 0).toNat + 1000000000 * (zs.getD (n - 1) 0).toNat) := by
  rw [vl_split zs (n - 2) (by omega), vl_drop_one (by omega), show n - 2 + 1 = n - 1 by omega, vl_drop_one (by omega), vl_drop_end (by omega)]
  simp only [Bs, Nat.mul_zero, Nat.add_zero]
theorem vl_take_lt {zs : List Int} (h : Lm zs) {k : Nat} (hk : k ≤ zs.length) : vl (zs.take k) < Bs ^ k := by
  have := vl_lt (h.take k); rwa [List.length_take, Nat.min_eq_left hk] at this
structure Guess (zs ys : List Int) (n : Nat) (top q : Int) : Prop where
  q0 : 0 ≤ q
  q1 : q ≤ 999999999
  qv : q * ys.getD (n - 1) 0 ≤ top
  up : vl zs / vl ys ≤ q.toNat
theorem top_eq {zs : List Int} {n : Nat} {top : Int} (hz : Lm zs) (ht : top = zs.getD n 0 * 1000000000 + zs.getD (n - 1) 0) : 0 ≤ top ∧ top ≤ 999999999999999999 ∧ top.toNat = (zs.getD n 0).toNat * 1000000000 + (zs.getD (n - 1) 0).toNat := by
  have h1 := hz.getD n
  have h2 := hz.getD (n - 1)
  omega
theorem guess_init {zs ys : List Int} {n : Nat} {top : Int} (h2 : 2 ≤ n) (hl : zs.length = n + 1) (hy : ys.length = n) (hz : Lm zs) (hY : Lm ys) (hv1 : 0 < ys.getD (n - 1) 0) (hU : vl zs < 1000000000 * vl ys)
    (ht : top = zs.getD n 0 * 1000000000 + zs.getD (n - 1) 0) : Guess zs ys n top (min (top / ys.getD (n - 1) 0) 999999999) := by
  obtain ⟨t0, t1, t2⟩ := top_eq hz ht
  have hd0 : 0 ≤ top / ys.getD (n - 1) 0 := Int.ediv_nonneg t0 (by omega)
  refine ⟨by omega, by omega, ?_, ?_⟩
  · have h3 : top / ys.getD (n - 1) 0 * ys.getD (n - 1) 0 ≤ top := Int.ediv_mul_le _ (by omega)
    have h4 : min (top / ys.getD (n - 1) 0) 999999999 * ys.getD (n - 1) 0 ≤ top / ys.getD (n - 1) 0 * ys.getD (n - 1) 0 := Int.mul_le_mul_of_nonneg_right (by omega) (by omega)
    omega
  · have hVpos : 0 < vl ys := by
      rcases Nat.eq_zero_or_pos (vl ys) with h | h
      · rw [h] at hU; omega
      · exact h
    have h3 : vl zs / vl ys < 1000000000 := (Nat.div_lt_iff_lt_mul hVpos).2 hU
    have h4 : vl zs / vl ys ≤ top.toNat / (ys.getD (n - 1) 0).toNat := by
      rw [vl_top3 h2 hl, vl_top2 h2 hy, t2]
      have := hz.getD (n - 2)
      exact kn_up (vl_take_lt hz (by omega)) (by omega) (by omega)
    have h5 : top.toNat / (ys.getD (n - 1) 0).toNat = (top / ys.getD (n - 1) 0).toNat := by
      have h6 : ((top.toNat / (ys.getD (n - 1) 0).toNat : Nat) : Int) = top / ys.getD (n - 1) 0 := by rw [Int.natCast_ediv, Int.toNat_of_nonneg t0, Int.toNat_of_nonneg (by omega)]
      rw [← h6, Int.toNat_natCast]
    rw [h5] at h4
    omega
theorem guess_next {zs ys : List Int} {n : Nat} {top q : Int} (h2 : 2 ≤ n) (hl : zs.length = n + 1) (hy : ys.length = n) (hz : Lm zs) (hY : Lm ys) (hv1 : 0 < ys.getD (n - 1) 0)
    (ht : top = zs.getD n 0 * 1000000000 + zs.getD (n - 1) 0) (hg : Guess zs ys n top q) (hq : 0 < q) (hx : (top - q * ys.getD (n - 1) 0) * 1000000000 + zs.getD (n - 2) 0 < q * ys.getD (n - 2) 0) : Guess zs ys n top (q - 1) := by
  obtain ⟨t0, t1, t2⟩ := top_eq hz ht
  have hz2 := hz.getD (n - 2)
  have hy2 := hY.getD (n - 2)
  have hqv := hg.qv
  refine ⟨by omega, by have := hg.q1; omega, ?_, ?_⟩
  · have : (q - 1) * ys.getD (n - 1) 0 = q * ys.getD (n - 1) 0 - ys.getD (n - 1) 0 := by grind
    omega
  · have e1 := toNat_mul' (x := q) (q := ys.getD (n - 1) 0) (by omega) (by omega)
    have e2 := toNat_mul' (x := q) (q := ys.getD (n - 2) 0) (by omega) (by omega)
    have e3 : 0 ≤ q * ys.getD (n - 1) 0 := Int.mul_nonneg (by omega) (by omega)
    have h3 : vl zs / vl ys < q.toNat := by
      rw [vl_top3 h2 hl, vl_top2 h2 hy, ← t2]
      refine kn_dn (r := (top - q * ys.getD (n - 1) 0).toNat) (vl_take_lt hz (by omega)) ?_ ?_
      · rw [← e1]; omega
      · rw [← e2]; omega
    omega
theorem guess_end {zs ys : List Int} {n : Nat} {top q : Int} (h2 : 2 ≤ n) (hl : zs.length = n + 1) (hy : ys.length = n) (hz : Lm zs) (hY : Lm ys) (hv1 : 0 < ys.getD (n - 1) 0)
    (ht : top = zs.getD n 0 * 1000000000 + zs.getD (n - 1) 0) (hg : Guess zs ys n top q) (hx : ¬ 0 < q ∨ ¬ top - q * ys.getD (n - 1) 0 < 1000000000 ∨ ¬ (top - q * ys.getD (n - 1) 0) * 1000000000 + zs.getD (n - 2) 0 < q * ys.getD (n - 2) 0) : q.toNat ≤ vl zs / vl ys + 1 := by
  obtain ⟨t0, t1, t2⟩ := top_eq hz ht
  have hz2 := hz.getD (n - 2)
  have hy2 := hY.getD (n - 2)
  have hqv := hg.qv
  have hq0 := hg.q0
  have hq1 := hg.q1
  have e1 := toNat_mul' (x := q) (q := ys.getD (n - 1) 0) (by omega) (by omega)
  have e2 := toNat_mul' (x := q) (q := ys.getD (n - 2) 0) (by omega) (by omega)
  have e3 : 0 ≤ q * ys.getD (n - 1) 0 := Int.mul_nonneg (by omega) (by omega)
  rcases hx with hx | hx
  · rw [show q.toNat = 0 by omega]; exact Nat.zero_le _
  · rw [vl_top3 h2 hl, vl_top2 h2 hy, ← t2]
    refine kn_ge (r := (top - q * ys.getD (n - 1) 0).toNat) (vl_take_lt hY (by omega)) ?_ (by omega) (by omega) (by omega) ?_
    · rw [← e1]; omega
    · rw [← e2]
      rcases hx with hx | hx
      · exact .inr (by omega)
      · exact .inl (by omega)
theorem win_fin {os : List Int} {n R : Nat} (hl : os.length = n + 1) (hlm : Lm (os.take n)) (hR : R < Bs ^ n) (hv : ((vl (os.take n) : Nat) : Int) + ((Bs ^ n : Nat) : Int) * os.getD n 0 = ((R : Nat) : Int)) : Lm os ∧ vl os = R := by
  have h1 := vl_lt hlm
  rw [List.length_take, Nat.min_eq_left (by omega)] at h1
  have h0 : os.getD n 0 = 0 := by
    rcases Int.lt_trichotomy (os.getD n 0) 0 with h | h | h
    · have : ((Bs ^ n : Nat) : Int) * os.getD n 0 ≤ ((Bs ^ n : Nat) : Int) * (-1) := Int.mul_le_mul_of_nonneg_left (by omega) (by omega)
      omega
    · exact h
    · have : ((Bs ^ n : Nat) : Int) * 1 ≤ ((Bs ^ n : Nat) : Int) * os.getD n 0 := Int.mul_le_mul_of_nonneg_left (by omega) (by omega)
      omega
  rw [h0, Int.mul_zero] at hv
  have e : os = os.take n ++ [0] := by
    have e1 : os = os.take (n + 1) := by rw [List.take_of_length_le (by omega)]
    rw [List.take_succ_eq_append_getElem (by omega)] at e1
    have e2 : os[n] = 0 := by rw [← h0]; simp [List.getElem?_eq_getElem (show n < os.length by omega)]
    rw [e2] at e1; exact e1
  refine ⟨by rw [e]; exact hlm.append (Lm.single (by decide) (by decide)), ?_⟩
  rw [e, vl_concat]
  simp only [Int.toNat_zero, Nat.mul_zero]
  omega
theorem vlI {zs : List Int} {n : Nat} (hl : zs.length = n + 1) (h0 : 0 ≤ zs.getD n 0) : ((vl (zs.take n) : Nat) : Int) + ((Bs ^ n : Nat) : Int) * zs.getD n 0 = ((vl zs : Nat) : Int) := by
  have h1 := vl_take_succ' (a := zs) (k := n)
  rw [List.take_of_length_le (by omega)] at h1
  rw [h1, Int.natCast_add, Int.natCast_mul (Bs ^ n), Int.toNat_of_nonneg h0]
theorem step_sub {zs ys os : List Int} {n : Nat} {q : Int} (hl : zs.length = n + 1) (hz : Lm zs) (hY : Lm ys) (hy : ys.length = n) (hV : 0 < vl ys) (hq : 0 ≤ q) (hup : vl zs / vl ys ≤ q.toNat) (hdn : q.toNat ≤ vl zs / vl ys + 1)
    (hol : os.length = n + 1) (hlm : Lm (os.take n)) (hv : ((vl (os.take n) : Nat) : Int) + ((Bs ^ n : Nat) : Int) * os.getD n 0 = ((vl (zs.take n) : Nat) : Int) + ((Bs ^ n : Nat) : Int) * zs.getD n 0 - q * ((vl ys : Nat) : Int)) :
    (0 ≤ os.getD n 0 → q = ((vl zs / vl ys : Nat) : Int) ∧ Lm os ∧ vl os = vl zs % vl ys) ∧ (os.getD n 0 < 0 → os.getD n 0 = -1 ∧ q - 1 = ((vl zs / vl ys : Nat) : Int) ∧
      ∀ os' : List Int, os'.length = n + 1 → Lm (os'.take n) → ((vl (os'.take n) : Nat) : Int) + ((Bs ^ n : Nat) : Int) * os'.getD n 0 = ((vl (os.take n) : Nat) : Int) + ((Bs ^ n : Nat) : Int) * os.getD n 0 + ((vl ys : Nat) : Int) → Lm os' ∧ vl os' = vl zs % vl ys) := by
  have hVB : vl ys < Bs ^ n := by have := vl_lt hY; rwa [hy] at this
  have hm := Nat.mod_lt (vl zs) hV
  rw [vlI hl (hz.getD n).1] at hv
  have hda : ((vl ys : Nat) : Int) * ((vl zs / vl ys : Nat) : Int) + ((vl zs % vl ys : Nat) : Int) = ((vl zs : Nat) : Int) := by
    have := Nat.div_add_mod (vl zs) (vl ys)
    rw [← Int.natCast_mul, ← Int.natCast_add, this]
  generalize hQ : vl zs / vl ys = Q at *
  generalize vl zs % vl ys = R at *
  have h1 := vl_lt hlm
  rw [List.length_take, Nat.min_eq_left (by omega)] at h1
  have hqq : q = (Q : Int) ∨ q = (Q : Int) + 1 := by omega
  refine ⟨fun h0 => ?_, fun h0 => ?_⟩
  · have hq1 : q = (Q : Int) := by
      rcases hqq with h | h
      · exact h
      · exfalso
        have e : q * ((vl ys : Nat) : Int) = ((vl ys : Nat) : Int) * ((Q : Nat) : Int) + ((vl ys : Nat) : Int) := by rw [h]; grind
        have : 0 ≤ ((Bs ^ n : Nat) : Int) * os.getD n 0 := Int.mul_nonneg (by omega) h0
        omega
    refine ⟨hq1, ?_⟩
    have e : q * ((vl ys : Nat) : Int) = ((vl ys : Nat) : Int) * ((Q : Nat) : Int) := by rw [hq1]; grind
    exact win_fin hol hlm (by omega) (by omega)
  · have hq1 : q = (Q : Int) + 1 := by
      rcases hqq with h | h
      · exfalso
        have e : q * ((vl ys : Nat) : Int) = ((vl ys : Nat) : Int) * ((Q : Nat) : Int) := by rw [h]; grind
        have : ((Bs ^ n : Nat) : Int) * os.getD n 0 ≤ ((Bs ^ n : Nat) : Int) * (-1) := Int.mul_le_mul_of_nonneg_left (by omega) (by omega)
        omega
      · exact h
    have e : q * ((vl ys : Nat) : Int) = ((vl ys : Nat) : Int) * ((Q : Nat) : Int) + ((vl ys : Nat) : Int) := by rw [hq1]; grind
    refine ⟨?_, by omega, fun os' l' m' v' => win_fin l' m' (by omega) (by omega)⟩
    rcases Int.lt_or_le (os.getD n 0) (-1) with h | h
    · exfalso
      have : ((Bs ^ n : Nat) : Int) * os.getD n 0 ≤ ((Bs ^ n : Nat) : Int) * (-2) := Int.mul_le_mul_of_nonneg_left (by omega) (by omega)
      omega
    · omega
theorem dg_top {n : Nat} (h : 0 < n) : 1 ≤ (dg n).getD ((dg n).length - 1) 0 := by
  have hl : 0 < (dg n).length := len_pos.2 h
  have h1 := (Lm_dg n).getD ((dg n).length - 1)
  have h2 : (dg n).getD ((dg n).length - 1) 0 ≠ 0 := fun e => dg_last n ((last_getD hl).2 e)
  omega
theorem scale_bd {t : Int} (h1 : 1 ≤ t) (h2 : t < 1000000000) : 1 ≤ 1000000000 / (t + 1) ∧ 1000000000 / (t + 1) ≤ 500000000 ∧ (t + 1) * (1000000000 / (t + 1)) ≤ 1000000000 := by
  refine ⟨?_, ?_, Int.mul_ediv_self_le (by omega)⟩
  · exact Int.le_ediv_of_mul_le (by omega) (by omega)
  · exact Int.ediv_le_of_le_mul (by omega) (by omega)
theorem scale_len {n : Nat} {s : Int} (h : 0 < n) (hs : 1 ≤ s) (hb : ((dg n).getD ((dg n).length - 1) 0 + 1) * s ≤ 1000000000) : (dg (n * s.toNat)).length = (dg n).length := by
  have hl : 0 < (dg n).length := len_pos.2 h
  apply Nat.le_antisymm
  · apply dg_len_le
    have h1 := vl_split (dg n) ((dg n).length - 1) (by omega)
    rw [vl_dg, vl_drop_one (by omega), vl_drop_end (by omega)] at h1
    have h2 := vl_take_lt (Lm_dg n) (k := (dg n).length - 1) (by omega)
    have h3 := (Lm_dg n).getD ((dg n).length - 1)
    generalize (dg n).getD ((dg n).length - 1) 0 = t at *
    generalize hL : (dg n).length - 1 = L at *
    have hL2 : (dg n).length = L + 1 := by omega
    rw [hL2, Nat.pow_succ]
    have h4 : n + 1 ≤ Bs ^ L * (t.toNat + 1) := by
      rw [Nat.mul_add, Nat.mul_one]
      simp only [Nat.mul_zero, Nat.add_zero] at h1
      omega
    have h5 : (n + 1) * s.toNat ≤ Bs ^ L * (t.toNat + 1) * s.toNat := Nat.mul_le_mul_right _ h4
    have h6 : (t.toNat + 1) * s.toNat ≤ Bs := by
      have e : (((t.toNat + 1) * s.toNat : Nat) : Int) = (t + 1) * s := by
        rw [Int.natCast_mul, Int.natCast_add, Int.toNat_of_nonneg h3.1, Int.toNat_of_nonneg (by omega)]; rfl
      simp only [Bs]; omega
    have h7 : Bs ^ L * ((t.toNat + 1) * s.toNat) ≤ Bs ^ L * Bs := Nat.mul_le_mul_left _ h6
    rw [Nat.mul_assoc] at h5
    have h8 : (n + 1) * s.toNat = n * s.toNat + s.toNat := by grind
    omega
  · exact len_le (Nat.le_mul_of_pos_right _ (by omega))
theorem top_init {us : List Int} {m n s La Lb : Nat} (hl : us.length = La + 1) (hm : (dg m).length = La) (hn : (dg n).length = Lb) (hb : 0 < Lb) (hab : Lb ≤ La) (hs : 0 < s) (hv : vl us = m * s) : vl (us.drop (La + 1 - Lb)) < n * s := by
  have h1 := vl_split us (La + 1 - Lb) (by omega)
  have h2 : m < Bs ^ La := lt_of_dg_len (by omega)
  have h3 : Bs ^ (Lb - 1) ≤ n := by have := le_of_len (m := n) (by omega); rwa [hn] at this
  have h4 : Bs ^ La = Bs ^ (La + 1 - Lb) * Bs ^ (Lb - 1) := by rw [← Nat.pow_add]; congr 1; omega
  have h5 : m * s < Bs ^ La * s := Nat.mul_lt_mul_of_pos_right h2 hs
  have h6 : Bs ^ (Lb - 1) * s ≤ n * s := Nat.mul_le_mul_right _ h3
  rcases Nat.lt_or_ge (vl (us.drop (La + 1 - Lb))) (n * s) with h | h
  · exact h
  · exfalso
    have h7 : Bs ^ (La + 1 - Lb) * (Bs ^ (Lb - 1) * s) ≤ Bs ^ (La + 1 - Lb) * vl (us.drop (La + 1 - Lb)) := Nat.mul_le_mul_left _ (by omega)
    rw [h4, Nat.mul_assoc] at h5
    omega
theorem win_of {us : List Int} {j n V : Nat} (hz : Lm us) (hl : j + n + 1 ≤ us.length) (hV : V < Bs ^ n) (ht : vl (us.drop (j + 1)) < V) :
    vl ((us.drop j).take (j + n + 1 - j)) = vl (us.drop j) ∧ vl (us.drop j) < 1000000000 * V ∧ vl (us.drop (j + n + 1)) = 0 := by
  have h1 := vl_drop_one (zs := us) (j := j) (by omega)
  have h2 := hz.getD j
  have h3 : vl (us.drop j) < 1000000000 * V := by
    rw [h1]; simp only [Bs] at *; omega
  have h4 := vl_split (us.drop j) (n + 1) (by rw [List.length_drop]; omega)
  rw [List.drop_drop, show j + (n + 1) = j + n + 1 by omega] at h4
  have h5 : vl (us.drop (j + n + 1)) = 0 := by
    rcases Nat.eq_zero_or_pos (vl (us.drop (j + n + 1))) with h | h
    · exact h
    · exfalso
      have h6 : Bs ^ (n + 1) * 1 ≤ Bs ^ (n + 1) * vl (us.drop (j + n + 1)) := Nat.mul_le_mul_left _ h
      rw [Nat.mul_one] at h6
      have h7 : Bs ^ (n + 1) = Bs ^ n * 1000000000 := Nat.pow_succ ..
      omega
  refine ⟨?_, h3, h5⟩
  rw [h5, Nat.mul_zero, Nat.add_zero] at h4
  rw [show j + n + 1 - j = n + 1 by omega]; exact h4.symm
theorem div_put {us qs ys : List Int} {k n V M W : Nat} (hk : 0 < k) (hkq : k ≤ qs.length) (hl : k - 1 + n + 1 ≤ us.length) (hW : W = vl (us.drop (k - 1))) (h0 : vl (us.drop (k - 1 + n + 1)) = 0) (hyl : ys.length = n + 1) (hys : vl ys = W % V)
    (hv : M = vl us + Bs ^ k * (V * vl (qs.drop k))) :
    vl ((us.take (k - 1) ++ ys ++ us.drop (k - 1 + n + 1)).drop (k - 1)) = W % V ∧ M = vl (us.take (k - 1) ++ ys ++ us.drop (k - 1 + n + 1)) + Bs ^ (k - 1) * (V * vl ((qs.set (k - 1) ((W / V : Nat) : Int)).drop (k - 1))) := by
  have hlt : (us.take (k - 1)).length = k - 1 := by rw [List.length_take]; omega
  have e1 : (us.take (k - 1) ++ ys ++ us.drop (k - 1 + n + 1)).drop (k - 1) = ys ++ us.drop (k - 1 + n + 1) := by
    rw [List.append_assoc, List.drop_append_of_le_length (by omega), List.drop_of_length_le (by omega), List.nil_append]
  have e2 : vl (ys ++ us.drop (k - 1 + n + 1)) = W % V := by rw [vl_append, h0, Nat.mul_zero, Nat.add_zero, hys]
  refine ⟨by rw [e1, e2], ?_⟩
  rw [List.append_assoc, vl_append, hlt, e2, vl_drop_set hk hkq, Int.toNat_natCast, hv, vl_split us (k - 1) (by omega), ← hW]
  have h3 := Nat.div_add_mod W V
  have h4 : Bs ^ k = Bs ^ (k - 1) * Bs := by rw [← Nat.pow_succ]; congr 1; omega
  rw [h4]
  generalize Bs ^ (k - 1) = P at *
  generalize vl (qs.drop k) = D at *
  generalize W / V = q at *
  generalize W % V = r at *
  generalize vl (us.take (k - 1)) = T at *
  have : P * W = P * (V * q + r) := by rw [h3]
  grind
theorem scaled_end {m n s u q : Nat} (hs : 0 < s) (hn : 0 < n) (hv : m * s = u + Bs ^ 0 * (n * s * q)) (hu : u < n * s) : q = m / n ∧ u = m % n * s := by
  rw [Nat.pow_zero, Nat.one_mul] at hv
  have h := div_end (m := m * s) (d := n * s) (v := q) (r := u) (by omega) hu
  rw [Nat.mul_div_mul_right _ _ hs, Nat.mul_mod_mul_right] at h
  exact h
theorem dg_one {s : Int} (h0 : 1 ≤ s) (h1 : s < 1000000000) : dg s.toNat = [s] := by
  rw [dg_pos (by omega), show s.toNat / Bs = 0 by simp only [Bs]; omega, dg_zero]
  congr 1
  simp only [Bs]; omega
theorem Lm.drop {a : List Int} (ha : Lm a) (k : Nat) : Lm (a.drop k) := fun x hx => ha x (List.mem_of_mem_drop hx)
theorem dg_getD_pos {n : Nat} (h : 0 < n) {k : Nat} (hk : k = (dg n).length - 1) : 0 < (dg n).getD k 0 := by subst hk; have := dg_top h; omega
end Go.Proofs.Ytjkeefmpjocilaa
namespace Go.Proofs.Ytjkeefmpjocilaa
theorem one_dg {s : Int} (h0 : 1 ≤ s) (h1 : s < 1000000000) : [s] = dg (vl [s]) := by rw [show vl [s] = s.toNat by simp [vl], dg_one h0 h1]
end Go.Proofs.Ytjkeefmpjocilaa

namespace Go.Proofs.Ytjkeefmpjocilaa
theorem vl_one : vl [1] = 1 := rfl
theorem dg_1 : dg 1 = [1] := by have := dg_one (s := 1) (by decide) (by decide); simpa using this
theorem dg_is_one {G : Nat} : dg G = [1] ↔ G = 1 := ⟨fun h => by have := congrArg vl h; rw [vl_dg] at this; exact this, fun h => by subst h; exact dg_1⟩
theorem one_iff {zs : List Int} : zs = [1] ↔ (zs.length = 1 ∧ zs.getD 0 0 = 1) := by
  cases zs with
  | nil => simp
  | cons a l => cases l <;> simp
theorem gcd_next {m n : Nat} : Nat.gcd n (m % n) = Nat.gcd m n := by rw [Nat.gcd_comm m n, Nat.gcd_rec n m, Nat.gcd_comm]
theorem gcd_le_left {m n k : Nat} (h1 : (dg m).length ≤ k) (h2 : (dg n).length ≤ k) : (dg (Nat.gcd m n)).length ≤ k := by
  rcases Nat.eq_zero_or_pos m with h | h
  · subst h; rw [Nat.gcd_zero_left]; exact h2
  · exact Nat.le_trans (len_le (Nat.gcd_le_left _ h)) h1
def ROk (n : Bool) (z y : List Int) : Prop := IOk n z ∧ NOk y ∧ 0 < y.length ∧ y.length ≤ 18 ∧ z.length ≤ 18 ∧ Nat.gcd (vl z) (vl y) = 1
instance (n : Bool) (z y : List Int) : Decidable (ROk n z y) := by unfold ROk; infer_instance
theorem ROk.rat {n : Bool} {z y : List Int} (h : ROk n z y) : ∃ (x : Int) (d : Nat), n = ng x ∧ z = dg x.natAbs ∧ y = dg d ∧ 0 < d ∧ (dg x.natAbs).length ≤ 18 ∧ (dg d).length ≤ 18 ∧ Nat.gcd x.natAbs d = 1 := by
  obtain ⟨h1, h2, h3, h4, h5, h6⟩ := h
  obtain ⟨x, rfl, rfl, _⟩ := h1.int
  obtain ⟨d, rfl, _⟩ := h2.dg
  rw [vl_dg, vl_dg] at h6
  exact ⟨x, d, rfl, rfl, rfl, len_pos.1 h3, h5, h4, h6⟩
theorem ROk_iff {x : Int} {d : Nat} : ROk (ng x) (dg x.natAbs) (dg d) ↔ (0 < d ∧ (dg x.natAbs).length ≤ 18 ∧ (dg d).length ≤ 18 ∧ Nat.gcd x.natAbs d = 1) := by
  unfold ROk
  rw [vl_dg, vl_dg, len_pos]
  constructor
  · rintro ⟨_, _, h3, h4, h5, h6⟩; exact ⟨h3, h5, h4, h6⟩
  · rintro ⟨h3, h5, h4, h6⟩; exact ⟨IOk_ng (by omega), NOk_dg (by omega), h3, h4, h5, h6⟩
def sgI (n : Bool) (m : Nat) : Int := if n then -(m : Int) else (m : Int)
theorem sgI_abs (n : Bool) (m : Nat) : (sgI n m).natAbs = m := by unfold sgI; split <;> omega
theorem sgI_ng (x : Int) : sgI (ng x) x.natAbs = x := by
  unfold sgI; by_cases h : x < 0
  · rw [if_pos (ng_true.2 h)]; omega
  · rw [if_neg (by rw [ng_false.2 (by omega)]; decide)]; omega
theorem ng_sgI (n : Bool) (m : Nat) : nz n (dg m) = ng (sgI n m) := by
  rw [nz_dg]; unfold sgI ng; cases n <;> simp <;> omega
theorem sgI_nz (n : Bool) (m : Nat) : sgI (nz n (dg m)) m = sgI n m := by
  rw [nz_dg]; unfold sgI; cases n <;> simp; intro h; omega
theorem sgI_vI (n : Bool) (z : List Int) : sgI n (vl z) = vI n z := rfl
theorem sgI_false (m : Nat) : sgI false m = (m : Int) := rfl
theorem capI_sgI {n : Bool} {m : Nat} (h : (dg m).length ≤ 50) : capI n m = sgI n m := by unfold capI sgI; rw [capN_ok h]
def lowN (x : Int) (d : Nat) : Int := sgI (ng x) (x.natAbs / Nat.gcd x.natAbs d)
def lowD (x : Int) (d : Nat) : Nat := d / Nat.gcd x.natAbs d
theorem lowN_abs (x : Int) (d : Nat) : (lowN x d).natAbs = x.natAbs / Nat.gcd x.natAbs d := sgI_abs _ _
theorem lowN_sg (n : Bool) (m d : Nat) : nz n (dg (m / Nat.gcd m d)) = ng (lowN (sgI n m) d) := by
  unfold lowN; rw [sgI_abs, ← ng_sgI, ← ng_sgI, nz_dg, nz_dg, nz_dg]
  cases n
  · rfl
  · simp only [Bool.true_and]
    by_cases h : 0 < m / Nat.gcd m d
    · have h0 : 0 < m := by
        rcases Nat.eq_zero_or_pos m with h0 | h0
        · rw [h0, Nat.zero_div] at h; exact absurd h (Nat.lt_irrefl 0)
        · exact h0
      rw [decide_eq_true h, decide_eq_true h0]; rfl
    · rw [decide_eq_false h, Bool.and_false]
def noR : Bool × List Int × List Int × Bool := (false, [], [], false)
def rR (x : Int) (d : Nat) : Bool × List Int × List Int × Bool :=
  if 0 < d ∧ (dg (lowN x d).natAbs).length ≤ 18 ∧ (dg (lowD x d)).length ≤ 18 then (ng (lowN x d), dg (lowN x d).natAbs, dg (lowD x d), true) else noR
theorem rR_ok {n : Bool} {m d : Nat} (h0 : 0 < d) (h1 : (dg (m / Nat.gcd m d)).length ≤ 18) (h2 : (dg (d / Nat.gcd m d)).length ≤ 18) :
    rR (sgI n m) d = (nz n (dg (m / Nat.gcd m d)), dg (m / Nat.gcd m d), dg (d / Nat.gcd m d), true) := by
  unfold rR
  rw [lowN_abs, lowD, sgI_abs, if_pos ⟨h0, h1, h2⟩, lowN_sg]
theorem rR_no {n : Bool} {m d : Nat} (h : ¬ ((dg (m / Nat.gcd m d)).length ≤ 18 ∧ (dg (d / Nat.gcd m d)).length ≤ 18)) : rR (sgI n m) d = noR := by
  unfold rR
  rw [lowN_abs, lowD, sgI_abs, if_neg (fun h' => h h'.2)]
theorem rR_zero {x : Int} {d : Nat} (h : d = 0) : rR x d = noR := by unfold rR; rw [if_neg (fun h' => by omega)]
theorem rR_len {x : Int} {d : Nat} : (rR x d).2.1.length ≤ 18 ∧ (rR x d).2.2.1.length ≤ 18 := by
  unfold rR; split
  · rename_i h; exact ⟨h.2.1, h.2.2⟩
  · exact ⟨by simp [noR], by simp [noR]⟩
theorem low_ok {x : Int} {d : Nat} (h0 : 0 < d) (h1 : (dg (lowN x d).natAbs).length ≤ 18) (h2 : (dg (lowD x d)).length ≤ 18) : ROk (ng (lowN x d)) (dg (lowN x d).natAbs) (dg (lowD x d)) := by
  have hg : 0 < Nat.gcd x.natAbs d := Nat.gcd_pos_of_pos_right _ h0
  refine ROk_iff.2 ⟨Nat.div_pos (Nat.gcd_le_right _ h0) hg, h1, h2, ?_⟩
  rw [lowN_abs, lowD]
  have e : Nat.gcd x.natAbs d * Nat.gcd (x.natAbs / Nat.gcd x.natAbs d) (d / Nat.gcd x.natAbs d) = Nat.gcd x.natAbs d := by
    rw [← Nat.gcd_mul_left, Nat.mul_div_cancel' (Nat.gcd_dvd_left _ _), Nat.mul_div_cancel' (Nat.gcd_dvd_right _ _)]
  exact Nat.eq_of_mul_eq_mul_left hg (by rw [e, Nat.mul_one])
theorem low_same {x : Int} {d : Nat} (h : Nat.gcd x.natAbs d = 1) : lowN x d = x ∧ lowD x d = d := by
  unfold lowN lowD; rw [h, Nat.div_one, Nat.div_one, sgI_ng]; exact ⟨rfl, rfl⟩
theorem rR_same {x : Int} {d : Nat} (h : ROk (ng x) (dg x.natAbs) (dg d)) : rR x d = (ng x, dg x.natAbs, dg d, true) := by
  have h' := ROk_iff.1 h
  have e := low_same h'.2.2.2
  unfold rR; rw [e.1, e.2, if_pos ⟨h'.1, h'.2.1, h'.2.2.1⟩]
theorem rR_ROk {x : Int} {d : Nat} (h : (rR x d).2.2.2 = true) : ROk (rR x d).1 (rR x d).2.1 (rR x d).2.2.1 := by
  unfold rR at h ⊢
  split
  · rename_i h'; exact low_ok h'.1 h'.2.1 h'.2.2
  · rename_i h'; rw [if_neg h'] at h; cases h
theorem gcd_pos_r {m n : Nat} (h : 0 < n) : 0 < Nat.gcd m n := Nat.gcd_pos_of_pos_right _ h
theorem len_div (m n : Nat) : (dg (m / n)).length ≤ (dg m).length := len_le (Nat.div_le_self _ _)
theorem len_mod {m n : Nat} (h : 0 < n) : (dg (m % n)).length ≤ (dg n).length := len_le (Nat.le_of_lt (Nat.mod_lt _ h))
end Go.Proofs.Ytjkeefmpjocilaa
namespace Go.Proofs.Ytjkeefmpjocilaa
def rMake (n1 : Bool) (z1 : List Int) (n2 : Bool) (z2 : List Int) : Bool × List Int × List Int × Bool := if IOk n1 z1 ∧ IOk n2 z2 then rR (sgI (n1 != n2) (vl z1)) (vl z2) else noR
theorem rMake_no {n1 : Bool} {z1 : List Int} {n2 : Bool} {z2 : List Int} (h : ¬ (IOk n1 z1 ∧ IOk n2 z2)) : rMake n1 z1 n2 z2 = noR := by unfold rMake; rw [if_neg h]
theorem rMake_ok {x y : Int} (h1 : IOk (ng x) (dg x.natAbs)) (h2 : IOk (ng y) (dg y.natAbs)) : rMake (ng x) (dg x.natAbs) (ng y) (dg y.natAbs) = rR (sgI (ng x != ng y) x.natAbs) y.natAbs := by unfold rMake; rw [if_pos ⟨h1, h2⟩, vl_dg, vl_dg]
theorem rMake_len {n1 : Bool} {z1 : List Int} {n2 : Bool} {z2 : List Int} : (rMake n1 z1 n2 z2).2.1.length ≤ 18 ∧ (rMake n1 z1 n2 z2).2.2.1.length ≤ 18 := by
  unfold rMake; split
  · exact rR_len
  · exact ⟨by simp [noR], by simp [noR]⟩
def dRat (n : Bool) (z : List Int) (p : Int) : Bool × List Int × List Int × Bool := if DOk n z p then rR (vI n z) (10 ^ p.toNat) else noR
theorem dRat_no {n : Bool} {z : List Int} {p : Int} (h : ¬ DOk n z p) : dRat n z p = noR := by unfold dRat; rw [if_neg h]
theorem dRat_ok {x p : Int} (h : DOk (ng x) (dg x.natAbs) p) : dRat (ng x) (dg x.natAbs) p = rR (sgI (ng x) x.natAbs) (10 ^ p.toNat) := by unfold dRat; rw [if_pos h, vI_ng, sgI_ng]
theorem dRat_len {n : Bool} {z : List Int} {p : Int} : (dRat n z p).2.1.length ≤ 18 ∧ (dRat n z p).2.2.1.length ≤ 18 := by
  unfold dRat; split
  · exact rR_len
  · exact ⟨by simp [noR], by simp [noR]⟩
theorem dRat_make {x p : Int} (h : DOk (ng x) (dg x.natAbs) p) : rMake (ng x) (dg x.natAbs) (ng (tenI p)) (dg (tenI p).natAbs) = dRat (ng x) (dg x.natAbs) p := by
  have h' := DOk_iff.1 h
  rw [dRat_ok h, rMake_ok (IOk_ng (by omega)) (IOk_ng (by have := len_ten (k := p) (by omega); omega)), tenI_abs, ← ten_ng]
  congr 2
  cases ng x <;> rfl
def fair (n : Bool) (z ws : List Int) (i : Int) : Bool × List Int × List Int × Bool := if WOk ws ∧ (0 ≤ i ∧ i < ws.length) ∧ IOk n z then rR (sgI n (vl z * (ws.getD i.toNat 0).toNat)) ws.sum.toNat else noR
theorem fair_no {n : Bool} {z ws : List Int} {i : Int} (h : ¬ (WOk ws ∧ (0 ≤ i ∧ i < ws.length) ∧ IOk n z)) : fair n z ws i = noR := by unfold fair; rw [if_neg h]
theorem fair_ok {x : Int} {ws : List Int} {i : Int} (h : WOk ws ∧ (0 ≤ i ∧ i < ws.length) ∧ IOk (ng x) (dg x.natAbs)) : fair (ng x) (dg x.natAbs) ws i = rR (sgI (ng x) (x.natAbs * (ws.getD i.toNat 0).toNat)) ws.sum.toNat := by unfold fair; rw [if_pos h, vl_dg]
theorem fair_len {n : Bool} {z ws : List Int} {i : Int} : (fair n z ws i).2.1.length ≤ 18 ∧ (fair n z ws i).2.2.1.length ≤ 18 := by
  unfold fair; split
  · exact rR_len
  · exact ⟨by simp [noR], by simp [noR]⟩
theorem w_bd {ws : List Int} (h : WOk ws) (i : Nat) : 0 ≤ ws.getD i 0 ∧ ws.getD i 0 ≤ 1000000000 := by
  rcases Nat.lt_or_ge i ws.length with h1 | h1
  · exact bd_getD h.2.2.1 h1
  · rw [getD_ge h1]; omega
theorem w_sum {ws : List Int} (h : WOk ws) : 0 < ws.sum ∧ ws.sum ≤ 30000000000 := by
  have := (sum_bd h.2.2.1 ws.length (Nat.le_refl _)).2
  rw [List.take_length] at this
  have h1 := h.2.1
  have h2 := h.2.2.2
  refine ⟨h2, ?_⟩
  omega
def awayB (m : Int) (neg : Bool) (c : Int) (odd : Bool) : Bool :=
  if m = 0 then false else if m = 1 then true else if m = 2 then neg else if m = 3 then !neg else if m = 4 then decide (0 < c) else if m = 5 then decide (0 ≤ c) else decide (0 < c) || (decide (c = 0) && odd)
def rq (x : Int) (d : Nat) (m : Int) : Nat := x.natAbs / d + if 0 < x.natAbs % d ∧ awayB m (ng x) (cmpN (x.natAbs % d + x.natAbs % d) d) (decide ((x.natAbs / d) % 2 = 1)) = true then 1 else 0
def rqI (x : Int) (d : Nat) (m : Int) : Int := sgI (ng x) (rq x d m)
theorem rq_up {x : Int} {d : Nat} {m : Int} (h : 0 < x.natAbs % d) (ha : awayB m (ng x) (cmpN (x.natAbs % d + x.natAbs % d) d) (decide ((x.natAbs / d) % 2 = 1)) = true) : rq x d m = x.natAbs / d + 1 := by unfold rq; rw [if_pos ⟨h, ha⟩]
theorem rq_dn {x : Int} {d : Nat} {m : Int} (h : ¬ (0 < x.natAbs % d ∧ awayB m (ng x) (cmpN (x.natAbs % d + x.natAbs % d) d) (decide ((x.natAbs / d) % 2 = 1)) = true)) : rq x d m = x.natAbs / d := by unfold rq; rw [if_neg h]; rfl
theorem rq_le (x : Int) (d : Nat) (m : Int) : rq x d m ≤ x.natAbs / d + 1 := by unfold rq; split <;> omega
theorem rq_len {x : Int} {d k : Nat} {m : Int} (h : (dg x.natAbs).length ≤ k) : (dg (rq x d m)).length ≤ k + 1 := by
  have h1 := len_le (rq_le x d m)
  have h2 := len_add (x.natAbs / d) 1
  have h3 := len_div x.natAbs d
  have h4 : (dg 1).length = 1 := by rw [dg_1]; rfl
  by_cases hk : k = 0
  · subst hk
    have : x.natAbs = 0 := len_zero.1 (by omega)
    rw [this, Nat.zero_div, Nat.zero_add] at h1
    omega
  · have := Nat.max_le.2 ⟨Nat.le_trans h3 h, show (dg 1).length ≤ k by omega⟩
    omega
theorem rqI_sg (x : Int) (d : Nat) (m : Int) : nz (ng x) (dg (rq x d m)) = ng (rqI x d m) ∧ dg (rq x d m) = dg (rqI x d m).natAbs := ⟨ng_sgI _ _, by unfold rqI; rw [sgI_abs]⟩
theorem odd_dg {q : Nat} : (dg q).length = 0 ∨ (dg q).getD 0 0 % 2 = 0 ↔ ¬ q % 2 = 1 := by
  by_cases h : q = 0
  · subst h; simp [dg_zero]
  · rw [dg_pos h]
    simp only [List.length_cons, List.getD_cons_zero, Bs]
    omega
theorem rq_low {x : Int} {d g : Nat} (hg : 0 < g) {y : Int} {e : Nat} (hx : x.natAbs = g * y.natAbs) (hd : d = g * e) (hn : ng x = ng y) (m : Int) : rq x d m = rq y e m := by
  unfold rq
  have h1 : x.natAbs / d = y.natAbs / e := by rw [hx, hd, Nat.mul_div_mul_left _ _ hg]
  have h2 : x.natAbs % d = g * (y.natAbs % e) := by rw [hx, hd, Nat.mul_mod_mul_left]
  have h3 : cmpN (g * (y.natAbs % e) + g * (y.natAbs % e)) (g * e) = cmpN (y.natAbs % e + y.natAbs % e) e := by
    rw [← Nat.mul_add]
    unfold cmpN
    have a1 : g * (y.natAbs % e + y.natAbs % e) < g * e ↔ y.natAbs % e + y.natAbs % e < e := Nat.mul_lt_mul_left hg
    have a2 : g * (y.natAbs % e + y.natAbs % e) = g * e ↔ y.natAbs % e + y.natAbs % e = e := ⟨fun h => Nat.eq_of_mul_eq_mul_left hg h, fun h => by rw [h]⟩
    simp only [a1, a2]
  have h4 : 0 < g * (y.natAbs % e) ↔ 0 < y.natAbs % e := ⟨fun h => Nat.pos_of_mul_pos_left h, fun h => Nat.mul_pos hg h⟩
  rw [h1, h2, hd, h3, hn]
  simp only [h4]
theorem low_mul (x : Int) (d : Nat) : x.natAbs = Nat.gcd x.natAbs d * (lowN x d).natAbs ∧ d = Nat.gcd x.natAbs d * lowD x d := by
  rw [lowN_abs, lowD]
  exact ⟨(Nat.mul_div_cancel' (Nat.gcd_dvd_left _ _)).symm, (Nat.mul_div_cancel' (Nat.gcd_dvd_right _ _)).symm⟩
theorem lowN_ng (x : Int) {d : Nat} (hd : 0 < d) : ng (lowN x d) = ng x := by
  have h := lowN_sg (ng x) x.natAbs d
  rw [sgI_ng, nz_dg] at h
  rw [← h]
  by_cases hx : x < 0
  · rw [ng_true.2 hx]
    simp only [Bool.true_and, decide_eq_true_eq]
    exact Nat.div_pos (Nat.gcd_le_left _ (by omega)) (gcd_pos_r hd)
  · rw [ng_false.2 (by omega)]; rfl
theorem rqI_low (x : Int) {d : Nat} (hd : 0 < d) (m : Int) : rqI (lowN x d) (lowD x d) m = rqI x d m := by
  have h := low_mul x d
  unfold rqI
  rw [← rq_low (gcd_pos_r hd) h.1 h.2 (lowN_ng x hd).symm m, lowN_ng x hd]
def noS : Bool × List Int × Bool := (false, [], false)
def iR (x : Int) : Bool × List Int × Bool := (ng x, dg x.natAbs, true)
def rRound (n : Bool) (z y : List Int) (m : Int) : Bool × List Int × Bool := if ROk n z y ∧ (0 ≤ m ∧ m ≤ 6) then iR (rqI (vI n z) (vl y) m) else noS
theorem rRound_no {n : Bool} {z y : List Int} {m : Int} (h : ¬ (ROk n z y ∧ (0 ≤ m ∧ m ≤ 6))) : rRound n z y m = noS := by unfold rRound; rw [if_neg h]
theorem rRound_ok {x : Int} {d : Nat} {m : Int} (h : ROk (ng x) (dg x.natAbs) (dg d) ∧ (0 ≤ m ∧ m ≤ 6)) : rRound (ng x) (dg x.natAbs) (dg d) m = iR (rqI x d m) := by unfold rRound; rw [if_pos h, vI_ng, vl_dg]
theorem rRound_len {n : Bool} {z y : List Int} {m : Int} : (rRound n z y m).2.1.length ≤ 19 := by
  unfold rRound; split
  · rename_i h
    obtain ⟨x, d, rfl, rfl, rfl, h0, h1, h2, h3⟩ := h.1.rat
    rw [vI_ng, vl_dg]
    show (dg (rqI x d m).natAbs).length ≤ 19
    unfold rqI; rw [sgI_abs]
    exact rq_len h1
  · simp [noS]
def roundTo (n : Bool) (z : List Int) (s m : Int) : Bool × List Int × Bool := if IOk n z ∧ z.length ≤ 18 ∧ (1 ≤ s ∧ s ≤ 1000000) ∧ (0 ≤ m ∧ m ≤ 6) then iR (rqI (vI n z) s.toNat m * s) else noS
theorem roundTo_no {n : Bool} {z : List Int} {s m : Int} (h : ¬ (IOk n z ∧ z.length ≤ 18 ∧ (1 ≤ s ∧ s ≤ 1000000) ∧ (0 ≤ m ∧ m ≤ 6))) : roundTo n z s m = noS := by unfold roundTo; rw [if_neg h]
theorem roundTo_ok {x s m : Int} (h : IOk (ng x) (dg x.natAbs) ∧ (dg x.natAbs).length ≤ 18 ∧ (1 ≤ s ∧ s ≤ 1000000) ∧ (0 ≤ m ∧ m ≤ 6)) : roundTo (ng x) (dg x.natAbs) s m = iR (rqI x s.toNat m * s) := by unfold roundTo; rw [if_pos h, vI_ng]
theorem roundTo_len {n : Bool} {z : List Int} {s m : Int} : (roundTo n z s m).2.1.length ≤ 20 := by
  unfold roundTo; split
  · rename_i h
    obtain ⟨x, rfl, rfl, _⟩ := h.1.int
    rw [vI_ng]
    show (dg (rqI x s.toNat m * s).natAbs).length ≤ 20
    have h1 := len_mulI (rqI x s.toNat m) s
    have h2 : (dg s.natAbs).length ≤ 1 := dg_len_le (by simp only [Bs]; omega)
    have h3 : (dg (rqI x s.toNat m).natAbs).length ≤ 19 := by unfold rqI; rw [sgI_abs]; exact rq_len h.2.1
    omega
  · simp [noS]
end Go.Proofs.Ytjkeefmpjocilaa
namespace Go.Proofs.Ytjkeefmpjocilaa
theorem mul_sp {Q s : Int} (h : 1 ≤ s) : nz (ng Q) (dg (Q.natAbs * s.toNat)) = ng (Q * s) ∧ dg (Q.natAbs * s.toNat) = dg (Q * s).natAbs := by
  refine sg_eq (by rw [Int.natAbs_mul]; congr 1; omega) (fun h' => ?_) (fun h' => ?_)
  · rcases mul_neg_iff.1 h' with h2 | h2
    · exact ng_true.2 h2.1
    · omega
  · refine ng_false.2 ?_
    rcases Int.lt_or_le Q 0 with h2 | h2
    · have := mul_neg_iff.2 (.inl ⟨h2, show 0 < s by omega⟩); omega
    · exact h2
theorem rTo_ok {x s : Int} (h1 : IOk (ng x) (dg x.natAbs)) (h2 : (dg x.natAbs).length ≤ 18) (h3 : 1 ≤ s ∧ s ≤ 1000000) :
    rMake (ng x) (dg x.natAbs) (ng s) (dg s.natAbs) = (ng (lowN x s.toNat), dg (lowN x s.toNat).natAbs, dg (lowD x s.toNat), true) := by
  have hs : s.natAbs = s.toNat := by omega
  have hl : (dg s.natAbs).length ≤ 1 := dg_len_le (by simp only [Bs]; omega)
  rw [rMake_ok h1 (IOk_ng (by omega)), hs]
  have e : sgI (ng x != ng s) x.natAbs = x := by
    have : ng s = false := ng_false.2 (by omega)
    rw [this, show (ng x != false) = ng x by cases ng x <;> rfl, sgI_ng]
  rw [e]
  unfold rR
  have h4 : (dg (lowN x s.toNat).natAbs).length ≤ 18 := by rw [lowN_abs]; exact Nat.le_trans (len_div _ _) h2
  have h5 : (dg (lowD x s.toNat)).length ≤ 18 := by
    have := len_div s.toNat (Nat.gcd x.natAbs s.toNat)
    rw [hs] at hl
    show (dg (s.toNat / Nat.gcd x.natAbs s.toNat)).length ≤ 18
    omega
  rw [if_pos ⟨by omega, h4, h5⟩]
end Go.Proofs.Ytjkeefmpjocilaa
