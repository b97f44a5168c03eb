/- Plain lemmas on numbers and lists; no program in sight. Conditions: none. -/
import Derived.Test.YtoeclobdbblohaaDoorNatX
set_option linter.unusedVariables false
set_option linter.unusedSimpArgs false
namespace Go.Proofs.YtoeclobdbblohaaDoor
open Go Go.RowKit
/-! ### numbers read from their digits (for the texts that are read) -/
/-- the number that a row of digits stands for -/
def dval (l : List UInt8) : Nat := l.foldl (fun a c => 10 * a + (c.toNat - 48)) 0
theorem dval_from (l : List UInt8) : ∀ a, l.foldl (fun a (c : UInt8) => 10 * a + (c.toNat - 48)) a = a * 10 ^ l.length + dval l := by
  induction l with
  | nil => intro a; simp [dval]
  | cons c l ih =>
    intro a
    unfold dval
    simp only [List.foldl_cons, List.length_cons]
    rw [ih, ih (10 * 0 + (c.toNat - 48))]
    rw [Nat.pow_succ, Nat.add_mul, show (10 * 0 + (c.toNat - 48)) = c.toNat - 48 by omega, Nat.add_assoc, Nat.mul_comm 10 a, Nat.mul_assoc, Nat.mul_comm 10]
theorem dval_append (a b : List UInt8) : dval (a ++ b) = dval a * 10 ^ b.length + dval b := by
  conv => lhs; unfold dval
  rw [List.foldl_append, dval_from]; rfl
theorem dval_one {d : Nat} (h : d < 10) : dval [UInt8.ofNat (48 + d)] = d := by
  have : ∀ d : Fin 10, dval [UInt8.ofNat (48 + d.val)] = d.val := by decide
  exact this ⟨d, h⟩
theorem dval_dec : ∀ n : Nat, dval (Lib.decDigits n) = n := by
  intro n
  induction n using Nat.strongRecOn with
  | ind n ih =>
    by_cases h : n < 10
    · rw [Lib.decDigits_one h, dval_one h]
    · rw [Lib.decDigits, dif_neg h, dval_append, ih (n / 10) (by omega), dval_one (by omega)]
      simp only [List.length_cons, List.length_nil, Nat.zero_add, Nat.pow_one]
      omega
/-- a row of digits -/
def Dgs (l : List UInt8) : Prop := ∀ c ∈ l, 48 ≤ c.toNat ∧ c.toNat ≤ 57
theorem Dgs.append {a b : List UInt8} (ha : Dgs a) (hb : Dgs b) : Dgs (a ++ b) := fun c hc => by
  rcases List.mem_append.1 hc with h | h
  · exact ha c h
  · exact hb c h
theorem dgs_one {d : Nat} (h : d < 10) : Dgs [UInt8.ofNat (48 + d)] := by
  have : ∀ d : Fin 10, 48 ≤ (UInt8.ofNat (48 + d.val)).toNat ∧ (UInt8.ofNat (48 + d.val)).toNat ≤ 57 := by decide
  intro c hc
  simp only [List.mem_cons, List.not_mem_nil, or_false] at hc
  subst hc; exact this ⟨d, h⟩
theorem dgs_dec : ∀ n : Nat, Dgs (Lib.decDigits n) := by
  intro n
  induction n using Nat.strongRecOn with
  | ind n ih =>
    by_cases h : n < 10
    · rw [Lib.decDigits_one h]; exact dgs_one h
    · rw [Lib.decDigits, dif_neg h]; exact (ih (n / 10) (by omega)).append (dgs_one (by omega))
theorem repeat_mem : ∀ (k : Nat) (c : UInt8), c ∈ Lib.repeatL [48] k → c = 48
  | 0, _, h => by simp [Lib.repeatL] at h
  | k + 1, c, h => by
    simp only [Lib.repeatL, List.mem_append, List.mem_cons, List.not_mem_nil, or_false] at h
    rcases h with h | h
    · exact h
    · exact repeat_mem k c h
theorem dgs_zer (k : Nat) : Dgs (zer k).data.toList := fun c hc => by
  have := repeat_mem k c (by simpa [zer] using hc)
  subst this; decide
theorem dval_repeat : ∀ k : Nat, dval (Lib.repeatL [48] k) = 0
  | 0 => rfl
  | k + 1 => by
    show dval ([48] ++ Lib.repeatL [48] k) = 0
    rw [dval_append, dval_repeat k]
    simp [dval]
theorem dval_zer (k : Nat) : dval (zer k).data.toList = 0 := by
  show dval (Lib.repeatL [48] k).toArray.toList = 0
  exact dval_repeat k
theorem itx_list {n : Int} (h : 0 ≤ n) : (itx n).data.toList = Lib.decDigits n.toNat := by
  show (Lib.itoa n).toArray.toList = _
  unfold Lib.itoa; rw [if_neg (by omega)]
theorem pad_list {s : ByteArray} {n : Int} : ∃ k, (padT s n).data.toList = (zer k).data.toList ++ s.data.toList := by
  unfold padT; split
  · exact ⟨0, by simp [zer, Lib.repeatL]⟩
  · exact ⟨(n - (s.size : Int)).toNat, by rw [ByteArray.data_append, Array.toList_append]⟩
theorem pad_dgs {s : ByteArray} {n : Int} (h : Dgs s.data.toList) : Dgs (padT s n).data.toList := by
  obtain ⟨k, e⟩ := pad_list (s := s) (n := n)
  rw [e]; exact (dgs_zer k).append h
theorem pad_dval {s : ByteArray} {n : Int} : dval (padT s n).data.toList = dval s.data.toList := by
  obtain ⟨k, e⟩ := pad_list (s := s) (n := n)
  rw [e, dval_append, dval_zer]; omega
/-- one limb, padded to nine digits -/
theorem limb_pad {n : Int} (h0 : 0 ≤ n) (h1 : n < 1000000000) : Dgs (padT (itx n) 9).data.toList ∧ dval (padT (itx n) 9).data.toList = n.toNat ∧ (padT (itx n) 9).data.toList.length = 9 := by
  have hs := itx_size h0 h1
  have hp := padT_size (s := itx n) (n := 9) (by decide)
  refine ⟨pad_dgs (by rw [itx_list h0]; exact dgs_dec _), by rw [pad_dval, itx_list h0, dval_dec], ?_⟩
  have : (padT (itx n) 9).data.toList.length = (padT (itx n) 9).size := by rw [Array.length_toList]; rfl
  rw [this]; omega
theorem natGo_read {z : List Int} (hz : Lm z) : ∀ (i : Nat) (t : ByteArray), Dgs t.data.toList → i ≤ z.length →
    Dgs (natGo z i t).data.toList ∧ dval (natGo z i t).data.toList = dval t.data.toList * Bs ^ i + vl (z.take i)
  | 0, t, ht, _ => ⟨ht, by simp [natGo, vl]⟩
  | i + 1, t, ht, hi => by
    have hb := hz.getD i
    have hl := limb_pad hb.1 hb.2
    have ih := natGo_read hz i (t ++ padT (itx (z.getD i 0)) 9) (by simpa using ht.append hl.1) (by omega)
    refine ⟨ih.1, ?_⟩
    show dval (natGo z i (t ++ padT (itx (z.getD i 0)) 9)).data.toList = _
    rw [ih.2]
    have e1 : (t ++ padT (itx (z.getD i 0)) 9).data.toList = t.data.toList ++ (padT (itx (z.getD i 0)) 9).data.toList := by simp
    rw [e1, dval_append, hl.2.1, hl.2.2]
    have e2 : vl (z.take (i + 1)) = vl (z.take i) + Bs ^ i * (z.getD i 0).toNat := by
      have : z.take (i + 1) = z.take i ++ [z.getD i 0] := by
        rw [List.take_succ_eq_append_getElem (by omega)]; simp [List.getElem?_eq_getElem (show i < z.length by omega)]
      rw [this, vl_concat, List.length_take, Nat.min_eq_left (by omega)]
    rw [e2, Nat.add_mul, show (10 : Nat) ^ 9 = Bs from rfl, Nat.mul_assoc, show Bs * Bs ^ i = Bs ^ (i + 1) by rw [Nat.pow_succ, Nat.mul_comm], Nat.mul_comm (z.getD i 0).toNat, Nat.add_assoc, Nat.add_comm (Bs ^ i * _)]
/-- a number's text is digits, and stands for it -/
theorem natT_read {z : List Int} (hz : Lm z) : Dgs (natT z).data.toList ∧ dval (natT z).data.toList = vl z := by
  unfold natT; split
  · rename_i h
    have : z = [] := List.eq_nil_of_length_eq_zero h
    subst this
    exact ⟨by intro c hc; simp at hc; subst hc; decide, by decide⟩
  · have hb := hz.getD (z.length - 1)
    have h := natGo_read hz (z.length - 1) (itx (z.getD (z.length - 1) 0)) (by rw [itx_list hb.1]; exact dgs_dec _) (by omega)
    refine ⟨h.1, ?_⟩
    rw [h.2, itx_list hb.1, dval_dec]
    have e2 : vl z = vl (z.take (z.length - 1)) + Bs ^ (z.length - 1) * (z.getD (z.length - 1) 0).toNat := by
      have : z = z.take (z.length - 1) ++ [z.getD (z.length - 1) 0] := by
        have h1 := List.take_succ_eq_append_getElem (l := z) (i := z.length - 1) (by omega)
        rw [show z.length - 1 + 1 = z.length by omega, List.take_length] at h1
        conv => lhs; rw [h1]
        simp [List.getElem?_eq_getElem (show z.length - 1 < z.length by omega)]
      conv => lhs; rw [this]
      rw [vl_concat, List.length_take, Nat.min_eq_left (by omega)]
    rw [e2, Nat.mul_comm, Nat.add_comm]
/-- leading noughts left out, but for a last one -/
def strip : List UInt8 → List UInt8
  | a :: b :: l => if a = 48 then strip (b :: l) else a :: b :: l
  | l => l
theorem strip_dval : ∀ l : List UInt8, dval (strip l) = dval l
  | [] => rfl
  | [a] => rfl
  | a :: b :: l => by
    unfold strip; split
    · rename_i h
      subst h
      rw [strip_dval (b :: l)]
      show _ = dval ([48] ++ (b :: l))
      rw [dval_append]; simp [dval]
    · rfl
theorem strip_dgs : ∀ {l : List UInt8}, Dgs l → Dgs (strip l)
  | [], h => h
  | [a], h => h
  | a :: b :: l, h => by
    unfold strip; split
    · exact strip_dgs (fun c hc => h c (List.mem_cons_of_mem _ hc))
    · exact h
theorem strip_head : ∀ {l : List UInt8}, l ≠ [] → strip l ≠ [] ∧ (1 < (strip l).length → (strip l).head? ≠ some 48)
  | [], h => absurd rfl h
  | [a], _ => ⟨by simp [strip], fun h => by simp [strip] at h⟩
  | a :: b :: l, _ => by
    unfold strip; split
    · exact strip_head (by simp)
    · rename_i h; exact ⟨by simp, fun _ => by simpa using h⟩
theorem strip_len : ∀ l : List UInt8, (strip l).length ≤ l.length
  | [] => Nat.le_refl _
  | [a] => Nat.le_refl _
  | a :: b :: l => by
    unfold strip; split
    · exact Nat.le_trans (strip_len (b :: l)) (by simp)
    · exact Nat.le_refl _
/-- what is neither point nor minus -/
def filt (l : List UInt8) : List UInt8 := l.filter fun c => decide (c ≠ 46) && decide (c ≠ 45)
theorem filt_dgs {l : List UInt8} (h : Dgs l) : filt l = l := by
  unfold filt
  rw [List.filter_eq_self]
  intro c hc
  have := h c hc
  have h1 : c ≠ 46 := fun e => by subst e; simp at this
  have h2 : c ≠ 45 := fun e => by subst e; simp at this
  simp [h1, h2]
theorem filt_append (a b : List UInt8) : filt (a ++ b) = filt a ++ filt b := by simp [filt]
/-- the digits of a decimal's text -/
theorem decT_digits {n : Bool} {z : List Int} {p : Int} (h : DOk n z p) : Dgs (padT (natT z) (p + 1)).data.toList ∧ filt (decT n z p).data.toList = (padT (natT z) (p + 1)).data.toList ∧ dval (padT (natT z) (p + 1)).data.toList = vl z ∧ p + 1 ≤ ((padT (natT z) (p + 1)).size : Int) := by
  have hz := h.1.1.1
  have hr := natT_read hz
  have hd := pad_dgs (n := p + 1) hr.1
  have hs := padT_size (s := natT z) (n := p + 1) (by have := h.2.2.2; omega)
  refine ⟨hd, ?_, by rw [pad_dval]; exact hr.2, by omega⟩
  have key : filt (ptT (padT (natT z) (p + 1)) p).data.toList = (padT (natT z) (p + 1)).data.toList := by
    generalize hT : padT (natT z) (p + 1) = T at *
    unfold ptT; split
    · rename_i hp
      have e : (T.extract 0 (T.size - p.toNat) ++ ⟨#[46]⟩ ++ T.extract (T.size - p.toNat) T.size).data.toList = T.data.toList.take (T.size - p.toNat) ++ [46] ++ T.data.toList.drop (T.size - p.toNat) := by
        simp only [ByteArray.data_append, Array.toList_append, ByteArray.data_extract, Array.toList_extract]
        have hl : T.data.toList.length = T.size := by rw [Array.length_toList]; rfl
        rw [List.extract_eq_take_drop, List.extract_eq_take_drop, List.drop_zero, Nat.sub_zero, List.take_of_length_le (l := List.drop _ _) (by rw [List.length_drop]; omega)]
      rw [e, filt_append, filt_append, filt_dgs (fun c hc => hd c (List.mem_of_mem_take hc)), filt_dgs (fun c hc => hd c (List.mem_of_mem_drop hc))]
      show _ ++ [] ++ _ = _
      rw [List.append_nil, List.take_append_drop]
    · exact filt_dgs hd
  unfold decT; rw [if_pos h]
  unfold sgT; split
  · have e : ((⟨#[45]⟩ : ByteArray) ++ ptT (padT (natT z) (p + 1)) p).data.toList = [45] ++ (ptT (padT (natT z) (p + 1)) p).data.toList := by simp
    rw [e, filt_append, key]; rfl
  · exact key
theorem dval_cons (c : UInt8) (l : List UInt8) : dval (c :: l) = (c.toNat - 48) * 10 ^ l.length + dval l := by
  show dval ([c] ++ l) = _
  rw [dval_append]; simp [dval]
theorem dval_lt : ∀ {l : List UInt8}, Dgs l → dval l < 10 ^ l.length
  | [], _ => by simp [dval]
  | c :: l, h => by
    have h1 := dval_lt (fun x hx => h x (List.mem_cons_of_mem _ hx))
    have h2 := h c (List.mem_cons_self ..)
    rw [dval_cons, List.length_cons, Nat.pow_succ]
    have : (c.toNat - 48) * 10 ^ l.length ≤ 9 * 10 ^ l.length := Nat.mul_le_mul_right _ (by omega)
    omega
/-- one byte more -/
theorem dval_step {l : List UInt8} {f j : Nat} (h : f + j < l.length) : dval ((l.drop f).take (j + 1)) = dval ((l.drop f).take j) * 10 + ((l.getD (f + j) 0).toNat - 48) := by
  have h1 : (l.drop f).take (j + 1) = (l.drop f).take j ++ [l.getD (f + j) 0] := by
    rw [List.take_succ_eq_append_getElem (by rw [List.length_drop]; omega)]
    simp [List.getElem?_eq_getElem h]
  rw [h1, dval_append]
  simp [dval]
/-- nine digits at once, from the end -/
theorem limbs_step {l : List UInt8} {os : List Int} {e f : Nat} (he : e ≤ l.length) (hf : f = e - 9) (h0 : 0 < e) (h : vl os + Bs ^ os.length * dval (l.take e) = dval l) :
    vl (os ++ [((dval ((l.drop f).take (e - f)) : Nat) : Int)]) + Bs ^ (os.length + 1) * dval (l.take f) = dval l := by
  rw [vl_concat, Int.toNat_natCast, ← h]
  have h1 : l.take e = l.take f ++ (l.drop f).take (e - f) := by
    rw [← List.take_append_drop f (l.take e), List.take_take, Nat.min_eq_left (by omega), List.drop_take]
  have h2 : ((l.drop f).take (e - f)).length = e - f := by rw [List.length_take, List.length_drop]; omega
  have h3 : dval (l.take e) = dval (l.take f) * 10 ^ (e - f) + dval ((l.drop f).take (e - f)) := by rw [h1, dval_append, h2]
  rw [h3]
  by_cases h9 : 9 ≤ e
  · rw [show e - f = 9 by omega, show (10 : Nat) ^ 9 = Bs from rfl, Nat.pow_succ, Nat.mul_add]
    rw [Nat.mul_assoc, Nat.mul_comm Bs (dval (l.take f))]
    omega
  · have : f = 0 := by omega
    subst this
    simp [dval]
/-- the text of a decimal, byte by byte -/
theorem decT_list {n : Bool} {z : List Int} {p : Int} (h : DOk n z p) : (decT n z p).data.toList =
    (if n = true then [45] else []) ++ (if 0 < p then (padT (natT z) (p + 1)).data.toList.take ((padT (natT z) (p + 1)).size - p.toNat) ++ 46 :: (padT (natT z) (p + 1)).data.toList.drop ((padT (natT z) (p + 1)).size - p.toNat) else (padT (natT z) (p + 1)).data.toList) := by
  have key : (ptT (padT (natT z) (p + 1)) p).data.toList = (if 0 < p then (padT (natT z) (p + 1)).data.toList.take ((padT (natT z) (p + 1)).size - p.toNat) ++ 46 :: (padT (natT z) (p + 1)).data.toList.drop ((padT (natT z) (p + 1)).size - p.toNat) else (padT (natT z) (p + 1)).data.toList) := by
    generalize padT (natT z) (p + 1) = T
    unfold ptT; split
    · simp only [ByteArray.data_append, Array.toList_append, ByteArray.data_extract, Array.toList_extract]
      have hl : T.data.toList.length = T.size := by rw [Array.length_toList]; rfl
      rw [List.extract_eq_take_drop, List.extract_eq_take_drop, List.drop_zero, Nat.sub_zero, List.take_of_length_le (l := List.drop _ _) (by rw [List.length_drop]; omega)]
      simp
    · rfl
  unfold decT; rw [if_pos h]
  unfold sgT; split
  · rename_i hn
    simp only [ByteArray.data_append, Array.toList_append, key]
  · rw [key]; rfl
theorem dgs_no {l : List UInt8} (h : Dgs l) : 46 ∉ l ∧ 45 ∉ l := by
  constructor
  · intro hc; have := h 46 hc; simp at this
  · intro hc; have := h 45 hc; simp at this
theorem idx_point {a b : List UInt8} (h : (46 : UInt8) ∉ a) : (a ++ 46 :: b).idxOf 46 = a.length := by
  rw [List.idxOf_append, if_neg h]; simp
/-- a text is of one decimal at most -/
theorem decT_inj {n n' : Bool} {z z' : List Int} {p p' : Int} (h : DOk n z p) (h' : DOk n' z' p') (e : decT n z p = decT n' z' p') : n = n' ∧ z = z' ∧ p = p' := by
  have d := decT_digits h
  have d' := decT_digits h'
  have hT : (padT (natT z) (p + 1)).data.toList = (padT (natT z') (p' + 1)).data.toList := by rw [← d.2.1, ← d'.2.1, e]
  have hz : z = z' := by
    have : vl z = vl z' := by rw [← d.2.2.1, ← d'.2.2.1, hT]
    rw [← dg_vl h.1.1.1 h.1.1.2.2, ← dg_vl h'.1.1.1 h'.1.1.2.2, this]
  have hl : (padT (natT z) (p + 1)).data.toList.length = (padT (natT z) (p + 1)).size := by rw [Array.length_toList]; rfl
  have hl' : (padT (natT z') (p' + 1)).data.toList.length = (padT (natT z') (p' + 1)).size := by rw [Array.length_toList]; rfl
  have hs : (padT (natT z) (p + 1)).size = (padT (natT z') (p' + 1)).size := by rw [← hl, ← hl', hT]
  have l1 := decT_list h
  have l2 := decT_list h'
  rw [e] at l1
  rw [l1, hT, hs] at l2
  have g1 := d.2.2.2
  have g2 := d'.2.2.2
  rw [hs] at g1
  have p0 := h.2.2.1
  have p0' := h'.2.2.1
  generalize hTT : (padT (natT z') (p' + 1)).data.toList = T at *
  generalize (padT (natT z') (p' + 1)).size = L at *
  have hD := d'.1
  have hlen := congrArg List.length l2
  have hn : n = n' := by
    have hh := congrArg List.head? l2
    have first : ∀ q : Int, 0 ≤ q → q + 1 ≤ (L : Int) → ∃ c, (if 0 < q then T.take (L - q.toNat) ++ 46 :: T.drop (L - q.toNat) else T).head? = some c ∧ c ≠ 45 := by
      intro q hq hq2
      have hT0 : T ≠ [] := by intro e0; rw [e0] at hl'; simp at hl'; omega
      obtain ⟨c, T', rfl⟩ := List.exists_cons_of_ne_nil hT0
      refine ⟨c, ?_, fun e0 => (dgs_no hD).2 (e0 ▸ List.mem_cons_self ..)⟩
      split
      · rw [show L - q.toNat = (L - q.toNat - 1) + 1 by omega]; simp
      · rfl
    obtain ⟨c1, f1, f2⟩ := first p p0 g1
    obtain ⟨c2, f3, f4⟩ := first p' p0' g2
    cases n <;> cases n'
    · rfl
    · simp only [Bool.false_eq_true, if_false, if_true, List.nil_append, List.cons_append, List.head?_cons] at hh
      rw [f1] at hh; exact absurd (Option.some.inj hh) f2
    · simp only [Bool.false_eq_true, if_false, if_true, List.nil_append, List.cons_append, List.head?_cons] at hh
      rw [f3] at hh; exact absurd (Option.some.inj hh).symm f4
    · rfl
  subst hn
  refine ⟨rfl, hz, ?_⟩
  have l3 := List.append_cancel_left l2
  by_cases q0 : 0 < p
  · by_cases q1 : 0 < p'
    · rw [if_pos q0, if_pos q1] at l3
      have i1 := congrArg (List.idxOf 46) l3
      rw [idx_point (fun hc => (dgs_no hD).1 (List.mem_of_mem_take hc)), idx_point (fun hc => (dgs_no hD).1 (List.mem_of_mem_take hc)), List.length_take, List.length_take, hl'] at i1
      omega
    · rw [if_pos q0, if_neg q1] at l3
      have := congrArg List.length l3
      simp only [List.length_append, List.length_cons, List.length_take, List.length_drop] at this
      omega
  · by_cases q1 : 0 < p'
    · rw [if_neg q0, if_pos q1] at l3
      have := congrArg List.length l3
      simp only [List.length_append, List.length_cons, List.length_take, List.length_drop] at this
      omega
    · omega
end Go.Proofs.YtoeclobdbblohaaDoor
