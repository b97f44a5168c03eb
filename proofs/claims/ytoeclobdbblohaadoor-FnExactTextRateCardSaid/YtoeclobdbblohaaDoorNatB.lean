/- Plain lemmas on numbers and lists; no program in sight. Conditions: none. -/
import Derived.Test.YtoeclobdbblohaaDoorNat
set_option linter.unusedVariables false
set_option linter.unusedSimpArgs false
namespace Go.Proofs.YtoeclobdbblohaaDoor
theorem getD_take {zs : List Int} {k i : Nat} (h : i < k) : (zs.take k).getD i 0 = zs.getD i 0 := by
  simp only [List.getD_eq_getElem?_getD]; rw [List.getElem?_take_of_lt h]
theorem trim_step {zs : List Int} {k : Nat} (hk : 0 < k) (hl : k ≤ zs.length) (h : (zs.take k).getD (k - 1) 0 = 0) (hv : vl (zs.take k) = vl zs) : vl (zs.take (k - 1)) = vl zs := by
  have h1 := vl_take_succ (a := zs) (k := k - 1) (by omega)
  rw [Nat.sub_add_cancel (by omega)] at h1
  rw [getD_take (by omega)] at h
  rw [h] at h1; simp at h1; omega
theorem trim_done {zs : List Int} {k : Nat} (hz : Lm zs) (hl : k ≤ zs.length) (hv : vl (zs.take k) = vl zs) (h : k = 0 ∨ ¬ (zs.take k).getD (k - 1) 0 = 0) : zs.take k = dg (vl zs) := by
  rw [← hv]
  by_cases h0 : k = 0
  · subst h0; simp [vl, dg_zero]
  · have hne : ¬ (zs.take k).getD (k - 1) 0 = 0 := h.resolve_left h0
    refine (dg_vl (hz.take k) fun e => hne ?_).symm
    have hlen : (zs.take k).length = k := by rw [List.length_take]; omega
    rw [List.getLast?_eq_getElem?, hlen] at e
    simp only [List.getD_eq_getElem?_getD, e]; rfl
theorem vl_set {os : List Int} {k : Nat} {x : Int} (hk : k < os.length) : vl (os.set k x) + Bs ^ k * (os.getD k 0).toNat = vl os + Bs ^ k * x.toNat := by
  have e1 : os.set k x = os.take k ++ x :: os.drop (k + 1) := by rw [List.set_eq_take_append_cons_drop, if_pos hk]
  have e2 : os = os.take k ++ os.getD k 0 :: os.drop (k + 1) := by
    have : os.getD k 0 = os[k] := by simp [List.getElem?_eq_getElem hk]
    rw [this, ← List.drop_eq_getElem_cons hk, List.take_append_drop]
  have hl : (os.take k).length = k := by rw [List.length_take]; omega
  rw [e1]
  conv => rhs; rw [e2]
  rw [vl_append, vl_append, hl]
  simp only [vl]
  grind
theorem Lm.set {os : List Int} (h : Lm os) (k : Nat) {x : Int} (h0 : 0 ≤ x) (h1 : x < 1000000000) : Lm (os.set k x) := fun y hy => by
  rcases List.mem_or_eq_of_mem_set hy with h' | rfl
  · exact h y h'
  · exact ⟨h0, h1⟩
theorem Lm.replicate (n : Nat) : Lm (List.replicate n 0) := fun x hx => by
  rw [List.eq_of_mem_replicate hx]; exact ⟨by decide, by decide⟩
theorem vl_replicate (n : Nat) : vl (List.replicate n 0) = 0 := by
  induction n with
  | zero => rfl
  | succ n ih => rw [List.replicate_succ, vl, ih]; rfl
theorem mod_bd {s : Int} (h : 0 ≤ s) : 0 ≤ s % 1000000000 ∧ s % 1000000000 < 1000000000 := ⟨Int.emod_nonneg _ (by decide), Int.emod_lt_of_pos _ (by decide)⟩
theorem toNat_split {s : Int} (h : 0 ≤ s) : (s % 1000000000).toNat + Bs * (s / 1000000000).toNat = s.toNat := by
  have := Int.emod_add_mul_ediv s 1000000000
  have h1 : 0 ≤ s / 1000000000 := Int.ediv_nonneg h (by decide)
  have h2 := mod_bd h
  simp only [Bs]
  omega
/-- one limb of a sum -/
theorem add_step {P c A B Z : Nat} {a b : Nat} {s : Int} (hs : s = c + a + b) (h : Z + P * c = A + B) : (Z + P * (s % 1000000000).toNat) + P * Bs * (s / 1000000000).toNat = (A + P * a) + (B + P * b) := by
  have h1 := toNat_split (s := s) (by omega)
  have h2 : s.toNat = c + a + b := by omega
  rw [h2] at h1
  grind
/-- one limb of a product, stored -/
theorem mul_step {os bs : List Int} {i j : Nat} {c x s : Int} {V : Nat} (hc : 0 ≤ c) (hx : 0 ≤ x) (ho : 0 ≤ os.getD (i + j) 0) (hy : 0 ≤ bs.getD j 0) (hk : i + j < os.length) (hj : j < bs.length)
    (hs : s = c + (os.getD (i + j) 0 + x * bs.getD j 0)) (h : vl os + Bs ^ (i + j) * c.toNat = V + Bs ^ i * (x.toNat * vl (bs.take j))) :
    vl (os.set (i + j) (s % 1000000000)) + Bs ^ (i + (j + 1)) * (s / 1000000000).toNat = V + Bs ^ i * (x.toNat * vl (bs.take (j + 1))) := by
  have hxy : 0 ≤ x * bs.getD j 0 := Int.mul_nonneg hx hy
  have h1 := toNat_split (s := s) (by omega)
  have h2 : s.toNat = c.toNat + ((os.getD (i + j) 0).toNat + x.toNat * (bs.getD j 0).toNat) := by
    have e : (x * bs.getD j 0).toNat = x.toNat * (bs.getD j 0).toNat := Int.toNat_mul hx hy
    omega
  have h3 := vl_set (os := os) (k := i + j) (x := s % 1000000000) hk
  have h4 := vl_take_succ (a := bs) (k := j) hj
  rw [h4]
  rw [h2] at h1
  have e1 : Bs ^ (i + j) = Bs ^ i * Bs ^ j := Nat.pow_add _ _ _
  have e2 : Bs ^ (i + (j + 1)) = Bs ^ i * Bs ^ j * Bs := by rw [← Nat.add_assoc, Nat.pow_succ, Nat.pow_add]
  rw [e2]; rw [e1] at h h3
  generalize Bs ^ i = P at *
  generalize Bs ^ j = Q at *
  generalize vl (os.set (i + j) (s % 1000000000)) = Z at *
  generalize vl (bs.take j) = T at *
  generalize (s % 1000000000).toNat = r at *
  generalize (s / 1000000000).toNat = q at *
  generalize (os.getD (i + j) 0).toNat = o at *
  generalize (bs.getD j 0).toNat = y at *
  grind
/-- a limb set where there was none, and the carry is gone -/
theorem carry_step {os : List Int} {k : Nat} {c : Int} (hk : k < os.length) (h0 : os.getD k 0 = 0) : vl (os.set k c) = vl os + Bs ^ k * c.toNat := by
  have := vl_set (os := os) (k := k) (x := c) hk
  rw [h0] at this; simpa using this
theorem getD_set_ne' {os : List Int} {k i : Nat} {x : Int} (h : k ≠ i) : (os.set k x).getD i 0 = os.getD i 0 := by
  simp only [List.getD_eq_getElem?_getD]; rw [List.getElem?_set_ne h]
theorem mul_limb {x y : Int} (hx : 0 ≤ x) (hx1 : x < 1000000000) (hy : 0 ≤ y) (hy1 : y < 1000000000) : 0 ≤ x * y ∧ x * y ≤ 999999998000000001 := by
  refine ⟨Int.mul_nonneg hx hy, ?_⟩
  have : x * y ≤ 999999999 * 999999999 := Int.mul_le_mul (by omega) (by omega) hy (by decide)
  omega
theorem div_lt {s : Int} (h : 0 ≤ s) (h1 : s ≤ 999999999999999999) : 0 ≤ s / 1000000000 ∧ s / 1000000000 < 1000000000 := by
  constructor
  · exact Int.ediv_nonneg h (by decide)
  · have : s / 1000000000 < 1000000000 := Int.ediv_lt_of_lt_mul (by decide) (by omega)
    omega
theorem vl_take_all (zs : List Int) : vl (zs.take zs.length) = vl zs := by rw [List.take_length]
/-- a list of limbs whose value is known is, without leading noughts, its digits -/
theorem vl_take_ge {zs : List Int} {k : Nat} (h : zs.length ≤ k) : vl (zs.take k) = vl zs := by rw [List.take_of_length_le h]
theorem getD_ge {zs : List Int} {k : Nat} (h : zs.length ≤ k) : zs.getD k 0 = 0 := by
  simp [List.getElem?_eq_none h]
theorem vl_take_succ' {a : List Int} {k : Nat} : vl (a.take (k + 1)) = vl (a.take k) + Bs ^ k * (a.getD k 0).toNat := by
  rcases Nat.lt_or_ge k a.length with h | h
  · exact vl_take_succ h
  · rw [List.take_of_length_le (by omega), List.take_of_length_le h, getD_ge h]; simp
end Go.Proofs.YtoeclobdbblohaaDoor
namespace Go.Proofs.YtoeclobdbblohaaDoor
def cmpR : List Int → List Int → Int
  | x :: l, y :: k => if x < y then -1 else if y < x then 1 else cmpR l k
  | _, _ => 0
/-- lists compared by length, then from the end -/
def cmpL (a b : List Int) : Int := if a.length < b.length then -1 else if b.length < a.length then 1 else cmpR a.reverse b.reverse
theorem cmpR_append (p : List Int) (l k : List Int) : cmpR (p ++ l) (p ++ k) = cmpR l k := by
  induction p with
  | nil => rfl
  | cons x p ih => simp [cmpR, ih]
theorem rev_split {l : List Int} {k : Nat} (hk : k < l.length) : l.reverse = (l.drop (k + 1)).reverse ++ l.getD k 0 :: (l.take k).reverse := by
  have e : l.getD k 0 = l[k] := by simp [List.getElem?_eq_getElem hk]
  conv => lhs; rw [← List.take_append_drop k l, List.drop_eq_getElem_cons hk]
  rw [e]; simp
theorem cmpL_lt {a b : List Int} {k : Nat} (hl : a.length = b.length) (hk : k < a.length) (hd : a.drop (k + 1) = b.drop (k + 1)) (h : a.getD k 0 < b.getD k 0) : cmpL a b = -1 := by
  unfold cmpL
  rw [if_neg (by omega), if_neg (by omega), rev_split hk, rev_split (show k < b.length by omega), hd, cmpR_append]
  simp only [cmpR]; rw [if_pos h]
theorem cmpL_gt {a b : List Int} {k : Nat} (hl : a.length = b.length) (hk : k < a.length) (hd : a.drop (k + 1) = b.drop (k + 1)) (h : b.getD k 0 < a.getD k 0) : cmpL a b = 1 := by
  unfold cmpL
  rw [if_neg (by omega), if_neg (by omega), rev_split hk, rev_split (show k < b.length by omega), hd, cmpR_append]
  simp only [cmpR]; rw [if_neg (by omega), if_pos h]
theorem cmpL_self (a : List Int) : cmpL a a = 0 := by
  unfold cmpL; rw [if_neg (by omega), if_neg (by omega)]
  have : ∀ l : List Int, cmpR l l = 0 := fun l => by induction l with
    | nil => rfl
    | cons x l ih => simp [cmpR, ih]
  exact this _
theorem cmpL_short {a b : List Int} (h : a.length < b.length) : cmpL a b = -1 := by unfold cmpL; rw [if_pos h]
theorem cmpL_long {a b : List Int} (h : b.length < a.length) : cmpL a b = 1 := by unfold cmpL; rw [if_neg (by omega), if_pos h]
theorem cmpR_zero : ∀ {a b : List Int}, a.length = b.length → cmpR a b = 0 → a = b
  | [], [], _, _ => rfl
  | [], _ :: _, h, _ => by simp at h
  | _ :: _, [], h, _ => by simp at h
  | x :: l, y :: k, h, e => by
    simp only [cmpR] at e
    split at e
    · cases e
    · split at e
      · cases e
      · have h1 : x = y := by omega
        rw [h1, cmpR_zero (by simpa using h) e]
theorem cmpL_zero {a b : List Int} : cmpL a b = 0 ↔ a = b := by
  constructor
  · intro h
    unfold cmpL at h
    split at h
    · cases h
    · split at h
      · cases h
      · exact List.reverse_inj.1 (cmpR_zero (by simp; omega) h)
  · rintro rfl; exact cmpL_self a
theorem cmpR_sign : ∀ (a b : List Int), cmpR a b = -1 ∨ cmpR a b = 0 ∨ cmpR a b = 1
  | [], _ => by simp [cmpR]
  | _ :: _, [] => by simp [cmpR]
  | x :: l, y :: k => by
    simp only [cmpR]
    split
    · exact .inl rfl
    · split
      · exact .inr (.inr rfl)
      · exact cmpR_sign l k
theorem cmpR_first : ∀ {a b : List Int}, a.length = b.length → cmpR a b = -1 → ∃ p x y l k, a = p ++ x :: l ∧ b = p ++ y :: k ∧ x < y
  | [], [], _, h => by simp [cmpR] at h
  | [], _ :: _, h, _ => by simp at h
  | _ :: _, [], h, _ => by simp at h
  | x :: l, y :: k, hl, h => by
    simp only [cmpR] at h
    split at h
    · exact ⟨[], x, y, l, k, rfl, rfl, by assumption⟩
    · split at h
      · cases h
      · have hxy : x = y := by omega
        obtain ⟨p, x', y', l', k', h1, h2, h3⟩ := cmpR_first (by simpa using hl) h
        exact ⟨x :: p, x', y', l', k', by rw [h1]; rfl, by rw [h2, hxy]; rfl, h3⟩
theorem vl_cmpR {a b : List Int} (ha : Lm a) (hb : Lm b) (hl : a.length = b.length) (h : cmpR a.reverse b.reverse = -1) : vl a < vl b := by
  obtain ⟨p, x, y, l, k, h1, h2, h3⟩ := cmpR_first (by simpa using hl) h
  have e1 : a = l.reverse ++ x :: p.reverse := by have := congrArg List.reverse h1; simpa using this
  have e2 : b = k.reverse ++ y :: p.reverse := by have := congrArg List.reverse h2; simpa using this
  have hlen : l.length = k.length := by
    have := hl; rw [e1, e2] at this; simp at this; omega
  have b1 : vl l.reverse < Bs ^ l.length := by
    have := vl_lt (zs := l.reverse) (fun z hz => ha z (by rw [e1]; exact List.mem_append_left _ hz)); simpa using this
  have bx := ha x (by rw [e1]; simp)
  have bY := hb y (by rw [e2]; simp)
  rw [e1, e2, vl_append, vl_append, List.length_reverse, List.length_reverse, ← hlen]
  simp only [vl]
  have h4 : x.toNat + 1 ≤ y.toNat := by omega
  have h5 : Bs ^ l.length * (x.toNat + Bs * vl p.reverse + 1) ≤ Bs ^ l.length * (y.toNat + Bs * vl p.reverse) := Nat.mul_le_mul_left _ (by omega)
  rw [Nat.mul_add, Nat.mul_one] at h5
  omega
theorem cmpR_swap : ∀ (a b : List Int), cmpR b a = - cmpR a b
  | [], [] => rfl
  | [], _ :: _ => rfl
  | _ :: _, [] => rfl
  | x :: l, y :: k => by
    simp only [cmpR]
    rcases Int.lt_trichotomy x y with h | h | h
    · have h' : ¬ y < x := by omega
      simp [h, h']
    · subst h; simp [cmpR_swap l k]
    · have h' : ¬ x < y := by omega
      simp [h, h']
theorem cmpL_dg (m n : Nat) : cmpL (dg m) (dg n) = cmpN m n := by
  unfold cmpL
  split
  · rw [cmpN_lt (lt_of_len (by assumption))]
  · split
    · rw [cmpN_gt (lt_of_len (by assumption))]
    · have hl : (dg m).length = (dg n).length := by omega
      rcases cmpR_sign (dg m).reverse (dg n).reverse with h | h | h
      · have := vl_cmpR (Lm_dg m) (Lm_dg n) hl h
        rw [vl_dg, vl_dg] at this
        rw [h, cmpN_lt this]
      · have : dg m = dg n := List.reverse_inj.1 (cmpR_zero (by simp [hl]) h)
        rw [h, dg_inj this, cmpN_eq]
      · have h' : cmpR (dg n).reverse (dg m).reverse = -1 := by rw [cmpR_swap, h]
        have := vl_cmpR (Lm_dg n) (Lm_dg m) hl.symm h'
        rw [vl_dg, vl_dg] at this
        rw [h, cmpN_gt this]
/-- natural numbers that the program admits -/
def NOk (zs : List Int) : Prop := Lm zs ∧ zs.length ≤ 50 ∧ zs.getLast? ≠ some 0
instance (zs : List Int) : Decidable (Lm zs) := by unfold Lm; infer_instance
instance (zs : List Int) : Decidable (NOk zs) := by unfold NOk; infer_instance
theorem NOk.dg {zs : List Int} (h : NOk zs) : ∃ m, zs = dg m ∧ (YtoeclobdbblohaaDoor.dg m).length ≤ 50 := ⟨vl zs, (dg_vl h.1 h.2.2).symm, by rw [dg_vl h.1 h.2.2]; exact h.2.1⟩
theorem NOk_dg {m : Nat} (h : (dg m).length ≤ 50) : NOk (dg m) := ⟨Lm_dg m, h, dg_last m⟩
theorem NOk_dg_iff {m : Nat} : NOk (dg m) ↔ (dg m).length ≤ 50 := ⟨fun h => h.2.1, NOk_dg⟩
theorem last_getD {zs : List Int} (h : 0 < zs.length) : zs.getLast? = some 0 ↔ zs.getD (zs.length - 1) 0 = 0 := by
  rw [List.getLast?_eq_getElem?, List.getElem?_eq_getElem (by omega)]
  simp [List.getElem?_eq_getElem (show zs.length - 1 < zs.length by omega)]
theorem lm_succ {zs : List Int} {k : Nat} (h : ∀ i, i < k → 0 ≤ zs.getD i 0 ∧ zs.getD i 0 < 1000000000) (hk : 0 ≤ zs.getD k 0 ∧ zs.getD k 0 < 1000000000) : ∀ i, i < k + 1 → 0 ≤ zs.getD i 0 ∧ zs.getD i 0 < 1000000000 := fun i hi => by
  by_cases e : i = k
  · subst e; exact hk
  · exact h i (by omega)
theorem lm_mem {zs : List Int} (h : ∀ i, i < zs.length → 0 ≤ zs.getD i 0 ∧ zs.getD i 0 < 1000000000) : Lm zs := fun x hx => by
  obtain ⟨i, hi, rfl⟩ := List.getElem_of_mem hx
  have := h i hi
  simpa [List.getElem?_eq_getElem hi] using this
/-- a list of limbs with a lower bound on its value is canonical -/
theorem dg_of {zs : List Int} {v : Nat} (h : Lm zs) (hv : vl zs = v) (hl : zs.length = 0 ∨ Bs ^ (zs.length - 1) ≤ v) : zs = dg v := by
  rw [← hv]
  refine (dg_vl h fun e => ?_).symm
  have hne : 0 < zs.length := by
    cases zs with
    | nil => simp at e
    | cons x l => simp
  have h1 : Bs ^ (zs.length - 1) ≤ v := hl.resolve_left (by omega)
  have h2 := vl_take_succ (a := zs) (k := zs.length - 1) (by omega)
  rw [Nat.sub_add_cancel hne, List.take_length, (last_getD hne).1 e] at h2
  have h3 := vl_lt (h.take (zs.length - 1))
  rw [List.length_take, Nat.min_eq_left (by omega)] at h3
  simp at h2
  omega
theorem le_of_len {m : Nat} (h : 0 < (dg m).length) : Bs ^ ((dg m).length - 1) ≤ m := by
  rcases Nat.lt_or_ge m (Bs ^ ((dg m).length - 1)) with h1 | h1
  · have := dg_len_le h1; omega
  · exact h1
theorem len_add (m n : Nat) : (dg (m + n)).length ≤ max (dg m).length (dg n).length + 1 := by
  apply dg_len_le
  have h1 : m < Bs ^ (max (dg m).length (dg n).length) := lt_of_dg_len (Nat.le_max_left _ _)
  have h2 : n < Bs ^ (max (dg m).length (dg n).length) := lt_of_dg_len (Nat.le_max_right _ _)
  rw [Nat.pow_succ]; simp only [Bs] at *; omega
theorem len_mul (m n : Nat) : (dg (m * n)).length ≤ (dg m).length + (dg n).length := by
  apply dg_len_le
  have h1 : m < Bs ^ (dg m).length := lt_of_dg_len (Nat.le_refl _)
  have h2 : n < Bs ^ (dg n).length := lt_of_dg_len (Nat.le_refl _)
  rw [Nat.pow_add]
  exact Nat.mul_lt_mul_of_lt_of_lt h1 h2
theorem len_le {m n : Nat} (h : m ≤ n) : (dg m).length ≤ (dg n).length := dg_len_le (Nat.lt_of_le_of_lt h (lt_of_dg_len (Nat.le_refl _)))
theorem vl_concat (os : List Int) (x : Int) : vl (os ++ [x]) = vl os + Bs ^ os.length * x.toNat := by
  rw [vl_append]; simp [vl]
end Go.Proofs.YtoeclobdbblohaaDoor
namespace Go.Proofs.YtoeclobdbblohaaDoor
theorem vl_take_set {os : List Int} {k : Nat} {x : Int} (hk : k < os.length) : vl ((os.set k x).take (k + 1)) = vl (os.take k) + Bs ^ k * x.toNat := by
  rw [vl_take_succ (by simpa using hk)]
  have e1 : (os.set k x).getD k 0 = x := by simp [List.getElem?_set, hk]
  rw [e1, List.take_set_of_le (Nat.le_refl _)]
/-- one limb of a difference -/
theorem sub_step {P A B Z c c2 a b x : Nat} (hs : a + Bs * c2 = b + c + x) (h : A + P * c = Z + B) : (A + P * a) + P * Bs * c2 = (Z + P * x) + (B + P * b) := by
  have : P * (a + Bs * c2) = P * (b + c + x) := by rw [hs]
  grind
theorem sub_end {m n z c P : Nat} (h : m + P * c = z + n) (hle : n ≤ m) (hz : z < P) (hc : c ≤ 1) : c = 0 ∧ z = m - n := by
  have h1 : c = 0 := by
    rcases Nat.eq_or_lt_of_le hc with e | e
    · subst e; omega
    · omega
  subst h1
  refine ⟨rfl, ?_⟩
  rw [Nat.mul_zero] at h; omega
theorem zero_set {os : List Int} {q k : Nat} {x : Int} (h : ∀ i, q ≤ i → os.getD i 0 = 0) (hk : k < q + 1) : ∀ i, q + 1 ≤ i → (os.set k x).getD i 0 = 0 := fun i hi => by
  rw [getD_set_ne' (by omega)]; exact h i (by omega)
theorem zero_set' {os : List Int} {q k : Nat} {x : Int} (h : ∀ i, q ≤ i → os.getD i 0 = 0) (hk : k < q) : ∀ i, q ≤ i → (os.set k x).getD i 0 = 0 := fun i hi => by
  rw [getD_set_ne' (by omega)]; exact h i (by omega)
theorem zero_rep (n : Nat) : ∀ i, 0 ≤ i → (List.replicate n (0 : Int)).getD i 0 = 0 := fun i _ => by
  simp only [List.getD_eq_getElem?_getD, List.getElem?_replicate]; split <;> rfl
theorem zero_mono {os : List Int} {q q' : Nat} (h : ∀ i, q ≤ i → os.getD i 0 = 0) (hq : q ≤ q') : ∀ i, q' ≤ i → os.getD i 0 = 0 := fun i hi => h i (by omega)
theorem mul_row {A B P V a : Nat} (h : V = A * B) : V + P * (a * B) = (A + P * a) * B := by
  subst h; grind
theorem getD_set_eq {os : List Int} {k : Nat} {x : Int} (h : k < os.length) : (os.set k x).getD k 0 = x := by
  simp [List.getElem?_set, h]
end Go.Proofs.YtoeclobdbblohaaDoor
namespace Go.Proofs.YtoeclobdbblohaaDoor
theorem add_end {os : List Int} {m n k : Nat} (hlm : Lm os) (hos : os.length = k) (hv : vl os = m + n) (hlast : k ≤ max (dg m).length (dg n).length ∨ ((0 : Nat) = 0 ∧ k = max (dg m).length (dg n).length + 1 ∧ Bs ^ (k - 1) ≤ vl os)) (hk : max (dg m).length (dg n).length ≤ k) : os = dg (m + n) :=
  dg_of hlm hv (by
    rcases hlast with h | h
    · by_cases h0 : k = 0
      · left; omega
      · right
        rw [hos, show k = max (dg m).length (dg n).length by omega]
        rcases Nat.le_total (dg m).length (dg n).length with hh | hh
        · rw [Nat.max_eq_right hh]; exact Nat.le_trans (le_of_len (by omega)) (Nat.le_add_left _ _)
        · rw [Nat.max_eq_left hh]; exact Nat.le_trans (le_of_len (by omega)) (Nat.le_add_right _ _)
    · right; rw [hos, ← hv]; exact h.2.2)
end Go.Proofs.YtoeclobdbblohaaDoor
