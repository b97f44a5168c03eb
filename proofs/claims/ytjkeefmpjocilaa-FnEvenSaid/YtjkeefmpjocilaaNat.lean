/- Plain lemmas on numbers and lists; no program in sight. Conditions: none. -/
set_option linter.unusedVariables false
set_option linter.unusedSimpArgs false
namespace Go.Proofs.Ytjkeefmpjocilaa
/-! ### digits to the base 10^9 -/
abbrev Bs : Nat := 1000000000
def dg (n : Nat) : List Int := if h : n = 0 then [] else ((n % Bs : Nat) : Int) :: dg (n / Bs)
decreasing_by exact Nat.div_lt_self (Nat.pos_of_ne_zero h) (by decide)
def vl : List Int → Nat
  | [] => 0
  | x :: l => x.toNat + Bs * vl l
/-- all limbs in range -/
def Lm (zs : List Int) : Prop := ∀ x ∈ zs, 0 ≤ x ∧ x < 1000000000
theorem dg_zero : dg 0 = [] := by unfold dg; simp
theorem dg_pos {n : Nat} (h : n ≠ 0) : dg n = ((n % Bs : Nat) : Int) :: dg (n / Bs) := by rw [dg]; simp [h]
theorem dg_nil {n : Nat} : dg n = [] ↔ n = 0 := by
  constructor
  · intro h
    by_cases h0 : n = 0
    · exact h0
    · rw [dg_pos h0] at h; cases h
  · rintro rfl; exact dg_zero
theorem vl_dg (n : Nat) : vl (dg n) = n := by
  induction n using Nat.strongRecOn with
  | _ n ih =>
    by_cases h : n = 0
    · subst h; rw [dg_zero]; rfl
    · rw [dg_pos h, vl, ih _ (Nat.div_lt_self (Nat.pos_of_ne_zero h) (by decide)), Int.toNat_natCast]
      exact Nat.mod_add_div n Bs
theorem dg_inj {m n : Nat} (h : dg m = dg n) : m = n := by rw [← vl_dg m, h, vl_dg]
theorem Lm_dg (n : Nat) : Lm (dg n) := by
  induction n using Nat.strongRecOn with
  | _ n ih =>
    by_cases h : n = 0
    · subst h; rw [dg_zero]; intro x hx; cases hx
    · rw [dg_pos h]
      intro x hx
      rcases List.mem_cons.1 hx with rfl | hx
      · have := Nat.mod_lt n (show 0 < Bs by decide); simp only [Bs] at this ⊢; omega
      · exact ih _ (Nat.div_lt_self (Nat.pos_of_ne_zero h) (by decide)) x hx
theorem dg_last (n : Nat) : (dg n).getLast? ≠ some 0 := by
  induction n using Nat.strongRecOn with
  | _ n ih =>
    by_cases h : n = 0
    · subst h; rw [dg_zero]; simp
    · rw [dg_pos h]
      by_cases h2 : n / Bs = 0
      · rw [h2, dg_zero]
        have : n < Bs := by
          rcases Nat.lt_or_ge n Bs with h3 | h3
          · exact h3
          · have := Nat.div_pos h3 (by decide); omega
        simp [Nat.mod_eq_of_lt this]; omega
      · have h3 : dg (n / Bs) ≠ [] := fun e => h2 (dg_nil.1 e)
        rw [List.getLast?_cons_of_ne_nil h3]
        exact ih _ (Nat.div_lt_self (Nat.pos_of_ne_zero h) (by decide))
theorem vl_append (a b : List Int) : vl (a ++ b) = vl a + Bs ^ a.length * vl b := by
  induction a with
  | nil => simp [vl]
  | cons x l ih =>
    simp only [List.cons_append, vl, ih, List.length_cons, Nat.pow_succ, Nat.mul_add, Nat.add_assoc]
    rw [Nat.mul_comm (Bs ^ l.length) Bs, Nat.mul_assoc]
theorem vl_lt {zs : List Int} (h : Lm zs) : vl zs < Bs ^ zs.length := by
  induction zs with
  | nil => simp [vl]
  | cons x l ih =>
    have h1 := ih fun y hy => h y (List.mem_cons_of_mem _ hy)
    have h2 := h x (List.mem_cons_self ..)
    simp only [vl, List.length_cons, Nat.pow_succ]
    have : x.toNat < Bs := by simp only [Bs]; omega
    have h3 : Bs * vl l ≤ Bs * (Bs ^ l.length - 1) := Nat.mul_le_mul_left _ (by omega)
    have h4 : Bs * (Bs ^ l.length - 1) = Bs * Bs ^ l.length - Bs := by rw [Nat.mul_sub, Nat.mul_one]
    have h5 : Bs ≤ Bs * Bs ^ l.length := Nat.le_mul_of_pos_right _ (Nat.pow_pos (by decide))
    rw [Nat.mul_comm (Bs ^ l.length) Bs]
    omega
theorem vl_zero {zs : List Int} (h : Lm zs) (hl : zs.getLast? ≠ some 0) : vl zs = 0 ↔ zs = [] := by
  induction zs with
  | nil => simp [vl]
  | cons x l ih =>
    simp only [reduceCtorEq, iff_false]
    intro e
    simp only [vl] at e
    have h2 := h x (List.mem_cons_self ..)
    have hb : Bs * vl l = 0 := by omega
    have h0 : vl l = 0 := by
      rcases Nat.mul_eq_zero.1 hb with h' | h'
      · exact absurd h' (by decide)
      · exact h'
    cases l with
    | nil => simp at hl; omega
    | cons y m =>
      rw [List.getLast?_cons_cons] at hl
      have := (ih (fun z hz => h z (List.mem_cons_of_mem _ hz)) hl).1 h0
      cases this
/-- canonical lists are digits -/
theorem dg_vl {zs : List Int} (h : Lm zs) (hl : zs.getLast? ≠ some 0) : dg (vl zs) = zs := by
  induction zs with
  | nil => simp [vl, dg_zero]
  | cons x l ih =>
    have h0 : vl (x :: l) ≠ 0 := fun e => by have := (vl_zero h hl).1 e; cases this
    have h2 := h x (List.mem_cons_self ..)
    rw [dg_pos h0]
    have e1 : vl (x :: l) % Bs = x.toNat := by
      simp only [vl]; rw [Nat.add_mul_mod_self_left]; exact Nat.mod_eq_of_lt (by simp only [Bs]; omega)
    have e2 : vl (x :: l) / Bs = vl l := by
      simp only [vl]; rw [Nat.add_mul_div_left _ _ (by decide)]
      rw [Nat.div_eq_of_lt (by simp only [Bs]; omega)]; omega
    rw [e1, e2]
    have e3 : ((x.toNat : Nat) : Int) = x := by omega
    rw [e3]
    congr 1
    cases l with
    | nil => simp [vl, dg_zero]
    | cons y m =>
      rw [List.getLast?_cons_cons] at hl
      exact ih (fun z hz => h z (List.mem_cons_of_mem _ hz)) hl
/-- leading noughts dropped -/
def trimL (zs : List Int) : List Int := dg (vl zs)
theorem Lm.append {a b : List Int} (ha : Lm a) (hb : Lm b) : Lm (a ++ b) := fun x hx => by
  rcases List.mem_append.1 hx with h | h
  · exact ha x h
  · exact hb x h
theorem Lm.take {a : List Int} (ha : Lm a) (k : Nat) : Lm (a.take k) := fun x hx => ha x (List.mem_of_mem_take hx)
theorem Lm.single {x : Int} (h0 : 0 ≤ x) (h1 : x < 1000000000) : Lm [x] := fun y hy => by
  rw [List.mem_singleton.1 hy]; exact ⟨h0, h1⟩
theorem Lm.nil : Lm [] := fun _ h => by cases h
theorem Lm.getD {a : List Int} (ha : Lm a) (k : Nat) : 0 ≤ a.getD k 0 ∧ a.getD k 0 < 1000000000 := by
  rcases Nat.lt_or_ge k a.length with h | h
  · have : a.getD k 0 = a[k] := by simp [List.getElem?_eq_getElem h]
    rw [this]; exact ha _ (List.getElem_mem h)
  · have : a.getD k 0 = 0 := by simp [List.getElem?_eq_none h]
    rw [this]; exact ⟨by decide, by decide⟩
theorem vl_take_succ {a : List Int} {k : Nat} (h : k < a.length) : vl (a.take (k + 1)) = vl (a.take k) + Bs ^ k * (a.getD k 0).toNat := by
  rw [List.take_succ_eq_append_getElem h, vl_append]
  have e : a.getD k 0 = a[k] := by simp [List.getElem?_eq_getElem h]
  rw [e, List.length_take, Nat.min_eq_left (Nat.le_of_lt h)]
  simp [vl]
theorem dg_len_le {n k : Nat} (h : n < Bs ^ k) : (dg n).length ≤ k := by
  induction k generalizing n with
  | zero => have : n = 0 := by simpa using h
            subst this; simp [dg_zero]
  | succ k ih =>
    by_cases h0 : n = 0
    · subst h0; simp [dg_zero]
    · rw [dg_pos h0, List.length_cons]
      have : n / Bs < Bs ^ k := by
        rw [Nat.div_lt_iff_lt_mul (by decide)]; rwa [Nat.pow_succ] at h
      have := ih this
      omega
theorem lt_of_dg_len {n k : Nat} (h : (dg n).length ≤ k) : n < Bs ^ k := by
  have h1 := vl_lt (Lm_dg n)
  rw [vl_dg] at h1
  exact Nat.lt_of_lt_of_le h1 (Nat.pow_le_pow_right (by decide) h)
theorem dg_len_iff {n k : Nat} : (dg n).length ≤ k ↔ n < Bs ^ k := ⟨lt_of_dg_len, dg_len_le⟩
theorem take_succ_eq {zs ys : List Int} {k : Nat} (h : zs.take k = ys.take k) (h1 : k < zs.length) (h2 : k < ys.length) (e : zs.getD k 0 = ys.getD k 0) : zs.take (k + 1) = ys.take (k + 1) := by
  rw [List.take_succ_eq_append_getElem h1, List.take_succ_eq_append_getElem h2, h]
  have e1 : zs.getD k 0 = zs[k] := by simp [List.getElem?_eq_getElem h1]
  have e2 : ys.getD k 0 = ys[k] := by simp [List.getElem?_eq_getElem h2]
  rw [e1, e2] at e; rw [e]
theorem take_set_succ {os zs : List Int} {k : Nat} (h : os.take k = zs.take k) (h1 : k < os.length) (h2 : k < zs.length) : (os.set k (zs.getD k 0)).take (k + 1) = zs.take (k + 1) := by
  rw [List.take_succ_eq_append_getElem (by simpa using h1), List.take_succ_eq_append_getElem h2]
  simp [List.take_set_of_le, h, List.getElem?_eq_getElem h2]
theorem sum_take_succ {zs : List Int} {k : Nat} (h : k < zs.length) : (zs.take (k + 1)).sum = (zs.take k).sum + zs.getD k 0 := by
  rw [List.take_succ_eq_append_getElem h, List.sum_append]; simp [List.getElem?_eq_getElem h]
theorem bd_getD {zs : List Int} (hz : ∀ x ∈ zs, 0 ≤ x ∧ x ≤ 1000000000) {k : Nat} (h : k < zs.length) : 0 ≤ zs.getD k 0 ∧ zs.getD k 0 ≤ 1000000000 := by
  have e : zs.getD k 0 = zs[k] := by simp [List.getElem?_eq_getElem h]
  rw [e]; exact hz _ (List.getElem_mem h)
theorem sum_bd {zs : List Int} (hz : ∀ x ∈ zs, 0 ≤ x ∧ x ≤ 1000000000) (k : Nat) (h : k ≤ zs.length) : 0 ≤ (zs.take k).sum ∧ (zs.take k).sum ≤ k * 1000000000 := by
  induction k with
  | zero => simp
  | succ k ih =>
    have h1 := ih (by omega)
    have h2 := bd_getD hz (k := k) (by omega)
    rw [sum_take_succ (by omega)]
    omega
/-- weights that are valid -/
def WOk (zs : List Int) : Prop := 1 ≤ zs.length ∧ zs.length ≤ 30 ∧ (∀ x ∈ zs, 0 ≤ x ∧ x ≤ 1000000000) ∧ 0 < zs.sum
instance (zs : List Int) : Decidable (WOk zs) := by unfold WOk; infer_instance
theorem all_succ {zs : List Int} {k : Nat} (h : ∀ i, i < k → 0 ≤ zs.getD i 0 ∧ zs.getD i 0 ≤ 1000000000) (hk : 0 ≤ zs.getD k 0 ∧ zs.getD k 0 ≤ 1000000000) : ∀ i, i < k + 1 → 0 ≤ zs.getD i 0 ∧ zs.getD i 0 ≤ 1000000000 := fun i hi => by
  by_cases e : i = k
  · subst e; exact hk
  · exact h i (by omega)
theorem all_mem {zs : List Int} (h : ∀ i, i < zs.length → 0 ≤ zs.getD i 0 ∧ zs.getD i 0 ≤ 1000000000) : ∀ x ∈ zs, 0 ≤ x ∧ x ≤ 1000000000 := fun x hx => by
  obtain ⟨i, hi, rfl⟩ := List.getElem_of_mem hx
  have := h i hi
  simpa [List.getElem?_eq_getElem hi] using this
/-- the name with an index -/
def nameL (n : Int) (ss : List ByteArray) : ByteArray := if n < 0 then ⟨#[]⟩ else if (ss.length : Int) ≤ n then ⟨#[]⟩ else ss.getD n.toNat ByteArray.empty
theorem nameL_out {n : Int} {ss : List ByteArray} (h : n < 0 ∨ (ss.length : Int) ≤ n) : nameL n ss = ⟨#[]⟩ := by
  unfold nameL; split
  · rfl
  · rw [if_pos (by omega)]
theorem nameL_in {n : Int} {ss : List ByteArray} (h : 0 ≤ n) (h1 : n < (ss.length : Int)) : nameL n ss = ss.getD n.toNat ByteArray.empty := by
  unfold nameL; rw [if_neg (by omega), if_neg (by omega)]
theorem ne_of_getD {zs ys : List Int} {k : Nat} (e : zs.getD k 0 ≠ ys.getD k 0) : zs ≠ ys := fun h => e (by rw [h])
def cmpN (m n : Nat) : Int := if m < n then -1 else if m = n then 0 else 1
theorem cmpN_lt {m n : Nat} (h : m < n) : cmpN m n = -1 := by simp [cmpN, h]
theorem cmpN_gt {m n : Nat} (h : n < m) : cmpN m n = 1 := by
  have h1 : ¬ m < n := by omega
  have h2 : ¬ m = n := by omega
  simp [cmpN, h1, h2]
theorem cmpN_eq {m : Nat} : cmpN m m = 0 := by simp [cmpN]
theorem lt_of_len {m n : Nat} (h : (dg m).length < (dg n).length) : m < n := by
  rcases Nat.lt_or_ge m n with h' | h'
  · exact h'
  · have h1 : m < Bs ^ (dg m).length := lt_of_dg_len (Nat.le_refl _)
    have := dg_len_le (n := n) (k := (dg m).length) (by omega)
    omega
/-- the first difference from above decides -/
theorem vl_lt_of {zs ys : List Int} {k : Nat} (hz : Lm zs) (hy : Lm ys) (hl : zs.length = ys.length) (hk : k < zs.length) (hd : zs.drop (k + 1) = ys.drop (k + 1)) (h : zs.getD k 0 < ys.getD k 0) : vl zs < vl ys := by
  have split : ∀ (l : List Int), k < l.length → vl l = vl (l.take k) + Bs ^ k * ((l.getD k 0).toNat + Bs * vl (l.drop (k + 1))) := by
    intro l hkl
    have e : l = l.take (k + 1) ++ l.drop (k + 1) := (List.take_append_drop _ _).symm
    conv => lhs; rw [e]
    rw [vl_append, vl_take_succ hkl, List.length_take, Nat.min_eq_left (by omega), Nat.pow_succ, Nat.mul_add, Nat.mul_assoc, Nat.add_assoc]
  rw [split zs hk, split ys (by omega), hd]
  have h1 := vl_lt (hz.take k)
  rw [List.length_take, Nat.min_eq_left (by omega)] at h1
  have a0 := hz.getD k
  have b0 := hy.getD k
  have h2 : (zs.getD k 0).toNat + 1 ≤ (ys.getD k 0).toNat := by omega
  have h3 : Bs ^ k * ((zs.getD k 0).toNat + Bs * vl (ys.drop (k + 1)) + 1) ≤ Bs ^ k * ((ys.getD k 0).toNat + Bs * vl (ys.drop (k + 1))) := Nat.mul_le_mul_left _ (by omega)
  rw [Nat.mul_add, Nat.mul_one] at h3
  omega
theorem drop_succ_eq {zs ys : List Int} {k : Nat} (h1 : k < zs.length) (h2 : k < ys.length) (hd : zs.drop (k + 1) = ys.drop (k + 1)) (e : zs.getD k 0 = ys.getD k 0) : zs.drop k = ys.drop k := by
  have e1 : zs.getD k 0 = zs[k] := by simp [List.getElem?_eq_getElem h1]
  have e2 : ys.getD k 0 = ys[k] := by simp [List.getElem?_eq_getElem h2]
  rw [List.drop_eq_getElem_cons h1, List.drop_eq_getElem_cons h2, hd, ← e1, ← e2, e]
end Go.Proofs.Ytjkeefmpjocilaa
