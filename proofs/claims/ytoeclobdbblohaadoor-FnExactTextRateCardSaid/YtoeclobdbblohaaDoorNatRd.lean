/- Plain lemmas on numbers and lists; no program in sight. Conditions: none. -/
import Derived.Test.YtoeclobdbblohaaDoorNatZ
import Derived.Test.YtoeclobdbblohaaDoorSxT
set_option linter.unusedVariables false
set_option linter.unusedSimpArgs false
namespace Go.Proofs.YtoeclobdbblohaaDoor
open Go Go.RowKit
/-! ### texts that are read -/
instance (l : List UInt8) : Decidable (Dgs l) := by unfold Dgs; infer_instance
theorem sz_list (s : ByteArray) : s.data.toList.length = s.size := by rw [Array.length_toList]; rfl
theorem sz_ne (s : ByteArray) : decide (s ≠ ⟨#[]⟩) = decide (0 < s.size) := by
  apply decide_eq_decide.2
  constructor
  · intro h
    rcases Nat.eq_zero_or_pos s.size with e | e
    · exact absurd (ba_ext (by rw [List.eq_nil_of_length_eq_zero (show s.data.toList.length = 0 by rw [sz_list]; exact e)])) h
    · exact e
  · intro h e; rw [e] at h; exact absurd h (by decide)
theorem strB_list {s : ByteArray} {j : Nat} (h : j < s.size) : strB s j = ((s.data.toList.getD j 0).toNat : Int) := by
  unfold strB
  rw [getElem?_pos s j h]
  have h2 : j < s.data.toList.length := by rw [sz_list]; exact h
  rw [List.getD_eq_getElem?_getD, List.getElem?_eq_getElem h2]
  rfl
theorem dgs_at {s : ByteArray} {j : Nat} (h : Dgs s.data.toList) (hj : j < s.size) : 48 ≤ strB s j ∧ strB s j ≤ 57 := by
  have h2 : j < s.data.toList.length := by rw [sz_list]; exact hj
  rw [strB_list hj, List.getD_eq_getElem?_getD, List.getElem?_eq_getElem h2]
  have := h _ (List.getElem_mem h2)
  simp only [Option.getD_some]; omega
theorem dgs_all {s : ByteArray} (h : ∀ j, j < s.size → 48 ≤ strB s j ∧ strB s j ≤ 57) : Dgs s.data.toList := fun c hc => by
  obtain ⟨j, hj, rfl⟩ := List.getElem_of_mem hc
  have h1 := h j (by rw [← sz_list]; exact hj)
  rw [strB_list (by rw [← sz_list]; exact hj), List.getD_eq_getElem?_getD, List.getElem?_eq_getElem hj] at h1
  simp only [Option.getD_some] at h1; omega
/-- whether a text is of digits -/
def dgK (s : ByteArray) : Bool := decide (Dgs s.data.toList ∧ 0 < s.size)
theorem dgK_no {s : ByteArray} {j : Nat} (hj : j < s.size) (h : ¬ (48 ≤ strB s j ∧ strB s j ≤ 57)) : dgK s = false := by
  unfold dgK; rw [decide_eq_false_iff_not]; exact fun hh => h (dgs_at hh.1 hj)
theorem dgK_end {s : ByteArray} (h : ∀ j, j < s.size → 48 ≤ strB s j ∧ strB s j ≤ 57) : dgK s = decide (0 < s.size) := by
  unfold dgK; simp [dgs_all h]
theorem dgK_yes {s : ByteArray} (h : dgK s = true) : Dgs s.data.toList ∧ 0 < s.size := of_decide_eq_true h
/-- whether a text is a natural number's -/
def tnK (s : ByteArray) : Bool := decide (dgK s = true ∧ s.size ≤ 450 ∧ (1 < s.size → strB s 0 ≠ 48))
def tnV (s : ByteArray) : Nat := if tnK s = true then dval s.data.toList else 0
theorem tnV_ok {s : ByteArray} (h : tnK s = true) : tnV s = dval s.data.toList := by unfold tnV; rw [if_pos h]
theorem tnV_no {s : ByteArray} (h : tnK s = false) : tnV s = 0 := by unfold tnV; rw [if_neg (by rw [h]; decide)]
theorem tnK_no {s : ByteArray} (h : ¬ (dgK s = true ∧ s.size ≤ 450 ∧ (1 < s.size → strB s 0 ≠ 48))) : tnK s = false := by
  unfold tnK; exact decide_eq_false h
theorem tnK_ok {s : ByteArray} (h1 : dgK s = true) (h2 : s.size ≤ 450) (h3 : 1 < s.size → strB s 0 ≠ 48) : tnK s = true := decide_eq_true ⟨h1, h2, h3⟩
theorem dval9 {s : ByteArray} (hD : Dgs s.data.toList) (f j : Nat) (hj : j ≤ 9) : dval ((s.data.toList.drop f).take j) < 1000000000 := by
  have h1 := dval_lt (l := (s.data.toList.drop f).take j) (fun c hc => hD c (List.mem_of_mem_drop (List.mem_of_mem_take hc)))
  have h2 : ((s.data.toList.drop f).take j).length ≤ 9 := by rw [List.length_take]; omega
  exact Nat.lt_of_lt_of_le h1 (show _ ≤ 10 ^ 9 from Nat.pow_le_pow_right (by decide) h2)
theorem dval_byte {s : ByteArray} (hD : Dgs s.data.toList) {f j : Nat} (h : f + j < s.size) : ((dval ((s.data.toList.drop f).take (j + 1)) : Nat) : Int) = (dval ((s.data.toList.drop f).take j) : Nat) * 10 + strB s (f + j) - 48 := by
  have h1 := dval_step (l := s.data.toList) (f := f) (j := j) (by rw [sz_list]; exact h)
  have h2 := strB_list (s := s) (j := f + j) h
  have h3 := dgs_at hD h
  omega
theorem limbs_next {s : ByteArray} {os : List Int} {k f j : Nat} (hos : os.length = k) (hf : f = s.size - 9 * k - 9) (hj : f + j = s.size - 9 * k) (h0 : 9 * k < s.size) (hv : vl os + Bs ^ k * dval (s.data.toList.take (s.size - 9 * k)) = dval s.data.toList) :
    vl (os ++ [((dval ((s.data.toList.drop f).take j) : Nat) : Int)]) + Bs ^ (k + 1) * dval (s.data.toList.take (s.size - 9 * (k + 1))) = dval s.data.toList := by
  have h := limbs_step (l := s.data.toList) (os := os) (e := s.size - 9 * k) (f := f) (by rw [sz_list]; omega) hf (by omega) (by rw [hos]; exact hv)
  rw [show s.size - 9 * k - f = j by omega, hos] at h
  rw [show s.size - 9 * (k + 1) = f by omega]
  exact h
theorem limbs_end {s : ByteArray} {os : List Int} {k : Nat} (h0 : s.size ≤ 9 * k) (hv : vl os + Bs ^ k * dval (s.data.toList.take (s.size - 9 * k)) = dval s.data.toList) : vl os = dval s.data.toList := by
  rw [show s.size - 9 * k = 0 by omega, List.take_zero, show dval [] = 0 from rfl] at hv
  omega
def bl (l : List UInt8) : ByteArray := ⟨l.toArray⟩
@[simp] theorem bl_list (l : List UInt8) : (bl l).data.toList = l := rfl
theorem bl_size (l : List UInt8) : (bl l).size = l.length := by rw [← sz_list, bl_list]
theorem bl_of (s : ByteArray) : bl s.data.toList = s := ba_ext rfl
theorem strB_head {l : List UInt8} {c : UInt8} (h : l.head? = some c) : strB (bl l) 0 = (c.toNat : Int) := by
  obtain ⟨l', rfl⟩ : ∃ l', l = c :: l' := by cases l with
    | nil => simp at h
    | cons a l' => simp at h; exact ⟨l', by rw [h]⟩
  rw [strB_list (by rw [bl_size]; simp)]; rfl
theorem tn_of {l : List UInt8} (hd : Dgs l) (h0 : l ≠ []) (hl : l.length ≤ 450) : tnK (bl (strip l)) = true ∧ tnV (bl (strip l)) = dval l := by
  have h1 := strip_head h0
  have h2 := strip_len l
  have hk : tnK (bl (strip l)) = true := by
    unfold tnK dgK
    refine decide_eq_true ⟨decide_eq_true ⟨strip_dgs hd, ?_⟩, by rw [bl_size]; omega, fun h => ?_⟩
    · rw [bl_size]; exact List.length_pos_iff.2 h1.1
    · rw [bl_size] at h
      obtain ⟨c, l', e⟩ := List.exists_cons_of_ne_nil h1.1
      have h3 := h1.2 h
      rw [e] at h3
      rw [e, strB_head (c := c) rfl]
      intro h4
      exact h3 (by rw [show c = 48 from UInt8.toNat_inj.1 (by rw [show (48 : UInt8).toNat = 48 from rfl]; omega)]; rfl)
  exact ⟨hk, by rw [tnV_ok hk, bl_list, strip_dval]⟩
theorem tn_nil : tnK (bl (strip [])) = false := by decide
/-- the last point's place from the end -/
def ptAt (s : ByteArray) : Nat → Int
  | 0 => 0
  | i + 1 => if strB s i = 46 then (s.size : Int) - 1 - (i : Int) else ptAt s i
def dgAt (s : ByteArray) : Nat → ByteArray
  | 0 => ⟨#[]⟩
  | i + 1 => if strB s i = 46 ∨ strB s i = 45 then dgAt s i else dgAt s i ++ s.extract i (i + 1)
theorem ptAt_from {s : ByteArray} {q : Nat} : ∀ d, (∀ j, q ≤ j → j < q + d → strB s j ≠ 46) → ptAt s (q + d) = ptAt s q
  | 0, _ => rfl
  | d + 1, h => by
    show ptAt s (q + d + 1) = _
    rw [ptAt, if_neg (h (q + d) (by omega) (by omega))]
    exact ptAt_from d (fun j h1 h2 => h j h1 (by omega))
theorem strB_mem {s : ByteArray} {j : Nat} {c : UInt8} (hj : j < s.size) (h : strB s j = (c.toNat : Int)) : s.data.toList.getD j 0 = c := by
  rw [strB_list hj] at h
  exact UInt8.toNat_inj.1 (by omega)
theorem ptAt_no {s : ByteArray} (h : (46 : UInt8) ∉ s.data.toList) : ptAt s s.size = 0 := by
  have := ptAt_from (s := s) (q := 0) s.size (fun j _ hj h46 => by
    have hj' : j < s.size := by omega
    have e := strB_mem (c := 46) hj' h46
    have hl : j < s.data.toList.length := by rw [sz_list]; exact hj'
    rw [List.getD_eq_getElem?_getD, List.getElem?_eq_getElem hl, Option.getD_some] at e
    exact h (e ▸ List.getElem_mem hl))
  rw [Nat.zero_add] at this
  exact this
theorem ptAt_app {s : ByteArray} {a b : List UInt8} (h : s.data.toList = a ++ 46 :: b) (hb : (46 : UInt8) ∉ b) : ptAt s s.size = (b.length : Int) := by
  have hs : s.size = a.length + 1 + b.length := by rw [← sz_list, h]; simp; omega
  have := ptAt_from (s := s) (q := a.length + 1) b.length (fun j h1 hj h46 => by
    have e := strB_mem (c := 46) (by omega) h46
    rw [h, List.getD_eq_getElem?_getD, List.getElem?_append_right (by omega)] at e
    obtain ⟨k, rfl⟩ : ∃ k, j = a.length + 1 + k := ⟨j - a.length - 1, by omega⟩
    rw [show a.length + 1 + k - a.length = k + 1 by omega, List.getElem?_cons_succ, List.getElem?_eq_getElem (by omega), Option.getD_some] at e
    exact hb (e ▸ List.getElem_mem _))
  rw [hs, this, ptAt]
  have e : strB s a.length = 46 := by
    rw [strB_list (by omega), h]; simp
  rw [if_pos e]; omega
theorem dgAt_list {s : ByteArray} : ∀ {i : Nat}, i ≤ s.size → (dgAt s i).data.toList = filt (s.data.toList.take i)
  | 0, _ => by simp [dgAt, filt]
  | i + 1, h => by
    have hl : i < s.data.toList.length := by rw [sz_list]; omega
    have e1 : s.data.toList.take (i + 1) = s.data.toList.take i ++ [s.data.toList.getD i 0] := by
      rw [List.take_succ_eq_append_getElem hl]; simp [List.getElem?_eq_getElem hl]
    have ih := dgAt_list (s := s) (i := i) (by omega)
    have hB := strB_list (s := s) (j := i) (by omega)
    rw [e1, filt_append, ← ih, dgAt]
    generalize hc : s.data.toList.getD i 0 = c at *
    split
    · rename_i h46
      have : filt [c] = [] := by
        rcases h46 with h46 | h46
        · rw [show c = 46 from UInt8.toNat_inj.1 (by rw [show (46 : UInt8).toNat = 46 from rfl]; omega)]; rfl
        · rw [show c = 45 from UInt8.toNat_inj.1 (by rw [show (45 : UInt8).toNat = 45 from rfl]; omega)]; rfl
      rw [this, List.append_nil]
    · rename_i h46
      have e2 : filt [c] = [c] := by
        unfold filt
        rw [List.filter_eq_self]
        intro x hx
        simp only [List.mem_cons, List.not_mem_nil, or_false] at hx
        subst hx
        have n1 : x ≠ 46 := fun e => h46 (.inl (by rw [hB, e]; rfl))
        have n2 : x ≠ 45 := fun e => h46 (.inr (by rw [hB, e]; rfl))
        simp [n1, n2]
      have e3 : (s.extract i (i + 1)).data.toList = [c] := by
        simp only [ByteArray.data_extract, Array.toList_extract]
        rw [List.extract_eq_take_drop, show i + 1 - i = 1 by omega, ← hc, List.take_one]
        simp [List.getElem?_eq_getElem hl]
      rw [e2, ByteArray.data_append, Array.toList_append, e3]
theorem dgAt_size {s : ByteArray} : ∀ i : Nat, (dgAt s i).size ≤ i
  | 0 => Nat.le_refl _
  | i + 1 => by
    have ih := dgAt_size (s := s) i
    rw [dgAt]; split
    · omega
    · rw [ByteArray.size_append, ByteArray.size_extract]; omega
/-- whether a text begins with a minus -/
def sgK (s : ByteArray) : Bool := decide (0 < s.size ∧ strB s 0 = 45)
/-- its digits without leading noughts -/
def spT (s : ByteArray) : ByteArray := bl (strip (filt s.data.toList))
theorem filt_nil_of {s : ByteArray} (h : s.size = 0) : spT s = bl (strip []) := by
  have : s.data.toList = [] := List.eq_nil_of_length_eq_zero (by rw [sz_list]; exact h)
  unfold spT; rw [this]; rfl
theorem dec_sgK {n : Bool} {z : List Int} {p : Int} (h : DOk n z p) : sgK (decT n z p) = n := by
  have d := decT_digits h
  have l := decT_list h
  have hno := dgs_no d.1
  have hT : (padT (natT z) (p + 1)).data.toList.length = (padT (natT z) (p + 1)).size := sz_list _
  have p0 := h.2.2.1
  have key : ∃ c l', (if 0 < p then (padT (natT z) (p + 1)).data.toList.take ((padT (natT z) (p + 1)).size - p.toNat) ++ 46 :: (padT (natT z) (p + 1)).data.toList.drop ((padT (natT z) (p + 1)).size - p.toNat) else (padT (natT z) (p + 1)).data.toList) = c :: l' ∧ c ≠ 45 := by
    have d4 := d.2.2.2
    generalize (padT (natT z) (p + 1)).data.toList = T at *
    generalize (padT (natT z) (p + 1)).size = L at *
    have hT0 : T ≠ [] := by intro e; rw [e] at hT; simp at hT; omega
    obtain ⟨c, T', rfl⟩ := List.exists_cons_of_ne_nil hT0
    have hc : c ≠ 45 := fun e => hno.2 (e ▸ List.mem_cons_self ..)
    split
    · rw [show L - p.toNat = (L - p.toNat - 1) + 1 by omega]
      exact ⟨c, _, by rw [List.take_succ_cons, List.cons_append], hc⟩
    · exact ⟨c, _, rfl, hc⟩
  obtain ⟨c, l', e, hc⟩ := key
  rw [e] at l
  unfold sgK
  cases n
  · simp only [Bool.false_eq_true, if_false, List.nil_append] at l
    rw [decide_eq_false_iff_not]
    rintro ⟨h1, h2⟩
    rw [strB_list h1, l] at h2
    exact hc (UInt8.toNat_inj.1 (by
      rw [show (45 : UInt8).toNat = 45 from rfl]
      have h3 : ((c.toNat : Nat) : Int) = 45 := h2
      omega))
  · simp only [if_true] at l
    have hs : 0 < (decT true z p).size := by rw [← sz_list, l]; simp
    exact decide_eq_true ⟨hs, by rw [strB_list hs, l]; rfl⟩
theorem dec_tn {n : Bool} {z : List Int} {p : Int} (h : DOk n z p) : (padT (natT z) (p + 1)).data.toList ≠ [] ∧ (padT (natT z) (p + 1)).data.toList.length ≤ 56 := by
  have d := decT_digits h
  have p0 := h.2.2
  have hs := natT_size h.1.1.1
  have hps := padT_size (s := natT z) (n := p + 1) (by omega)
  have h6 := h.2.1
  have hT := sz_list (padT (natT z) (p + 1))
  refine ⟨fun e => ?_, by omega⟩
  rw [e] at hT; simp at hT; omega
/-- what the reference reads out of a decimal's text -/
theorem spec_read {s : ByteArray} {n : Bool} {z : List Int} {p : Int} (h : DOk n z p) (e : decT n z p = s) : tnK (spT s) = true ∧ dg (tnV (spT s)) = z ∧ ptAt s s.size = p ∧ sgK s = n := by
  subst e
  have d := decT_digits h
  have t := dec_tn h
  have l := decT_list h
  have hno := dgs_no d.1
  have tn := tn_of d.1 t.1 (by omega)
  have p0 := h.2.2.1
  have hT := sz_list (padT (natT z) (p + 1))
  refine ⟨by unfold spT; rw [d.2.1]; exact tn.1, by unfold spT; rw [d.2.1, tn.2, d.2.2.1]; exact dg_vl h.1.1.1 h.1.1.2.2, ?_, dec_sgK h⟩
  by_cases hp : 0 < p
  · rw [if_pos hp, ← List.append_assoc] at l
    rw [ptAt_app l (fun hc => hno.1 (List.mem_of_mem_drop hc)), List.length_drop]
    have d4 := d.2.2.2
    omega
  · rw [if_neg hp] at l
    rw [ptAt_no (by
      rw [l]
      intro hc
      rcases List.mem_append.1 hc with hc | hc
      · split at hc <;> simp at hc
      · exact hno.1 hc)]
    omega
/-- the decimal that a text is of, if any -/
def IsD (s : ByteArray) (q : Bool × List Int × Int) : Prop := DOk q.1 q.2.1 q.2.2 ∧ decT q.1 q.2.1 q.2.2 = s
open Classical in
noncomputable def rdD (s : ByteArray) : Bool × List Int × Int × Bool := if h : ∃ q, IsD s q then ((Classical.choose h).1, (Classical.choose h).2.1, (Classical.choose h).2.2, true) else (false, [], 0, false)
theorem rdD_yes {s : ByteArray} {n : Bool} {z : List Int} {p : Int} (h : DOk n z p) (e : decT n z p = s) : rdD s = (n, z, p, true) := by
  have hh : ∃ q, IsD s q := ⟨(n, z, p), h, e⟩
  unfold rdD
  rw [dif_pos hh]
  have c := Classical.choose_spec hh
  obtain ⟨e1, e2, e3⟩ := decT_inj c.1 h (c.2.trans e.symm)
  rw [e1, e2, e3]
theorem rdD_no {s : ByteArray} (h : ∀ n z p, DOk n z p → decT n z p ≠ s) : rdD s = (false, [], 0, false) := by
  unfold rdD
  rw [dif_neg]
  rintro ⟨q, h1, h2⟩
  exact h _ _ _ h1 h2
theorem rdD_len (s : ByteArray) : (rdD s).2.1.length ≤ 6 := by
  unfold rdD; split
  · rename_i hh; exact (Classical.choose_spec hh).1.2.1
  · simp
theorem rdD_spec_no {s : ByteArray} (h : ¬ (tnK (spT s) = true ∧ DOk (sgK s) (dg (tnV (spT s))) (ptAt s s.size) ∧ decT (sgK s) (dg (tnV (spT s))) (ptAt s s.size) = s)) : rdD s = (false, [], 0, false) :=
  rdD_no fun n z p h1 h2 => by
    obtain ⟨a, b, c, d⟩ := spec_read h1 h2
    exact h ⟨a, by rw [b, c, d]; exact h1, by rw [b, c, d]; exact h2⟩
/-- a decimal that is told by its parts, if it is right -/
def decS (n : Bool) (z : List Int) (p : Int) : Bool × List Int × Int × Bool := if DOk n z p then (n, z, p, true) else (false, [], 0, false)
theorem decS_ok {n : Bool} {z : List Int} {p : Int} (h : DOk n z p) : decS n z p = (n, z, p, true) := by unfold decS; rw [if_pos h]
theorem decS_no {n : Bool} {z : List Int} {p : Int} (h : ¬ DOk n z p) : decS n z p = (false, [], 0, false) := by unfold decS; rw [if_neg h]
theorem decS_len (n : Bool) (z : List Int) (p : Int) : (decS n z p).2.1.length ≤ 6 := by
  unfold decS; split
  · rename_i h; exact h.2.1
  · simp
theorem pow_bs9 {m k : Nat} (h : m ≤ 9 * k) : 10 ^ m ≤ Bs ^ k := by
  have e : Bs ^ k = 10 ^ (9 * k) := by rw [Nat.pow_mul]
  rw [e]
  exact Nat.pow_le_pow_right (by decide) h
theorem tnV_len (s : ByteArray) : (dg (tnV s)).length ≤ 50 := by
  apply dg_len_le
  unfold tnV
  split
  · rename_i h
    have h0 : dgK s = true ∧ s.size ≤ 450 ∧ (1 < s.size → strB s 0 ≠ 48) := of_decide_eq_true h
    have h1 := dval_lt (dgK_yes h0.1).1
    rw [sz_list] at h1
    refine Nat.lt_of_lt_of_le h1 ?_
    exact pow_bs9 (by omega)
  · exact Nat.pow_pos (by decide)
theorem rdD_dec {s : ByteArray} {n : Bool} {z : List Int} {p : Int} (h1 : (decS n z p).2.2.2 = true) (h2 : decT (decS n z p).1 (decS n z p).2.1 (decS n z p).2.2.1 = s) : rdD s = decS n z p := by
  by_cases h : DOk n z p
  · rw [decS_ok h] at h2 ⊢; exact rdD_yes h h2
  · rw [decS_no h] at h1; cases h1
theorem rdD_bad {s : ByteArray} {n : Bool} {c : Int} (hn : sgK s = n) (hc : ptAt s s.size = c) (h : ¬ (tnK (spT s) = true ∧ (decS n (dg (tnV (spT s))) c).2.2.2 = true ∧ decT (decS n (dg (tnV (spT s))) c).1 (decS n (dg (tnV (spT s))) c).2.1 (decS n (dg (tnV (spT s))) c).2.2.1 = s)) : rdD s = (false, [], 0, false) := by
  subst hn; subst hc
  refine rdD_spec_no fun hh => h ⟨hh.1, ?_⟩
  rw [decS_ok hh.2.1]; exact ⟨rfl, hh.2.2⟩
theorem dgAt_skip {s : ByteArray} {k : Nat} (h : strB s k = 46 ∨ strB s k = 45) : dgAt s (k + 1) = dgAt s k := by rw [dgAt, if_pos h]
theorem dgAt_more {s : ByteArray} {k : Nat} (h : strB s k ≠ 46) (h2 : strB s k ≠ 45) : dgAt s (k + 1) = dgAt s k ++ s.extract k (k + 1) := by rw [dgAt, if_neg (by omega)]
theorem ptAt_yes {s : ByteArray} {k : Nat} (h : strB s k = 46) : ptAt s (k + 1) = (s.size : Int) - 1 - (k : Int) := by rw [ptAt, if_pos h]
theorem ptAt_skip {s : ByteArray} {k : Nat} (h : strB s k ≠ 46) : ptAt s (k + 1) = ptAt s k := by rw [ptAt, if_neg h]
theorem strip_cons {t : ByteArray} (h : 1 < t.size) : ∃ a b l, t.data.toList = a :: b :: l ∧ strB t 0 = (a.toNat : Int) := by
  have hl := sz_list t
  match e : t.data.toList, hl with
  | [], hl => simp at hl; omega
  | [a], hl => simp at hl; omega
  | a :: b :: l, _ => exact ⟨a, b, l, rfl, by rw [strB_list (by omega), e]; rfl⟩
theorem strip_step {t : ByteArray} (h : 1 < t.size) (h0 : strB t 0 = 48) : strip (t.extract 1 t.size).data.toList = strip t.data.toList := by
  obtain ⟨a, b, l, e, ha⟩ := strip_cons h
  have ea : a = 48 := UInt8.toNat_inj.1 (by rw [show (48 : UInt8).toNat = 48 from rfl]; omega)
  have ht : (t.extract 1 t.size).data.toList = b :: l := by
    simp only [ByteArray.data_extract, Array.toList_extract]
    rw [e, List.extract_eq_take_drop, ← sz_list, e]
    simp
  rw [ht, e, strip, if_pos ea]
theorem strip_done {s t : ByteArray} (hst : strip t.data.toList = strip (filt s.data.toList)) (h : ¬ (1 < t.size) ∨ strB t 0 ≠ 48) : t = spT s := by
  have hs : strip t.data.toList = t.data.toList := by
    by_cases h1 : 1 < t.size
    · obtain ⟨a, b, l, e, ha⟩ := strip_cons h1
      rcases h with h | h
      · exact absurd h1 h
      · rw [e, strip, if_neg (fun ea => h (by rw [ha, ea]; rfl))]
    · have hl := sz_list t
      match e : t.data.toList, hl with
      | [], _ => rfl
      | [a], _ => rfl
      | a :: b :: l, hl => simp at hl; omega
  unfold spT
  rw [← hst, hs, bl_of]
theorem filt_all {s : ByteArray} : (dgAt s s.size).data.toList = filt s.data.toList := by
  rw [dgAt_list (Nat.le_refl _), ← sz_list, List.take_length]
end Go.Proofs.YtoeclobdbblohaaDoor
