/- Plain lemmas on numbers and lists; no program in sight. Conditions: none. -/
import Derived.Test.YtoeclobdbblohaaGreatDoorNatI
import Derived.Test.YtoeclobdbblohaaGreatDoorSxB
import Derived.Lib.ItoaNum
import Derived.Lib.Repeat
import Derived.Test.YtoeclobdbblohaaGreatDoorSxW
import Derived.Lib.ConvBytes
import Derived.Lib.Join
import Derived.Lib.Bytealg
set_option linter.unusedVariables false
set_option linter.unusedSimpArgs false
namespace Go.Proofs.YtoeclobdbblohaaGreatDoor
open Go Go.RowKit
/-! ### texts of numbers -/
def itx (n : Int) : ByteArray := ⟨(Lib.itoa n).toArray⟩
def zer (k : Nat) : ByteArray := ⟨(Lib.repeatL [48] k).toArray⟩
def padT (s : ByteArray) (n : Int) : ByteArray := if n ≤ (s.size : Int) ∨ 2000 < n then s else zer (n - (s.size : Int)).toNat ++ s
def natGo (z : List Int) : Nat → ByteArray → ByteArray
  | 0, t => t
  | i + 1, t => natGo z i (t ++ padT (itx (z.getD i 0)) 9)
def natT (z : List Int) : ByteArray := if z.length = 0 then ⟨#[48]⟩ else natGo z (z.length - 1) (itx (z.getD (z.length - 1) 0))
def ptT (t : ByteArray) (p : Int) : ByteArray := if 0 < p then t.extract 0 (t.size - p.toNat) ++ ⟨#[46]⟩ ++ t.extract (t.size - p.toNat) t.size else t
def sgT (n : Bool) (t : ByteArray) : ByteArray := if n = true then ⟨#[45]⟩ ++ t else t
def decT (n : Bool) (z : List Int) (p : Int) : ByteArray := if DOk n z p then sgT n (ptT (padT (natT z) (p + 1)) p) else ⟨#[]⟩
theorem decT_no {n : Bool} {z : List Int} {p : Int} (h : ¬ DOk n z p) : decT n z p = ⟨#[]⟩ := by unfold decT; rw [if_neg h]
theorem ba_ext {a b : ByteArray} (h : a.data.toList = b.data.toList) : a = b := by
  cases a; cases b
  simp only [ByteArray.mk.injEq]
  exact Array.ext' h
theorem zer_zero (s : ByteArray) : zer 0 ++ s = s := ba_ext (by simp [zer, Lib.repeatL])
theorem zer_succ (j : Nat) (s : ByteArray) : (⟨#[48]⟩ : ByteArray) ++ (zer j ++ s) = zer (j + 1) ++ s := ba_ext (by simp [zer, Lib.repeatL])
theorem zer_size (k : Nat) : (zer k).size = k := by
  show (Lib.repeatL [48] k).toArray.size = k
  rw [List.size_toArray, Lib.repeatL_length]; simp
theorem padT_no {s : ByteArray} {n : Int} (h : n ≤ (s.size : Int) ∨ 2000 < n) : padT s n = s := by unfold padT; rw [if_pos h]
theorem padT_yes {s : ByteArray} {n : Int} (h : ¬ (n ≤ (s.size : Int) ∨ 2000 < n)) : padT s n = zer (n - (s.size : Int)).toNat ++ s := by unfold padT; rw [if_neg h]
theorem padT_size {s : ByteArray} {n : Int} (h : n ≤ 2000) : ((padT s n).size : Int) = max n (s.size : Int) := by
  unfold padT; split
  · omega
  · rw [ByteArray.size_append, zer_size]; omega
theorem itx_size {n : Int} (h0 : 0 ≤ n) (h1 : n < 1000000000) : 1 ≤ (itx n).size ∧ (itx n).size ≤ 9 := by
  have e : (itx n).size = Lib.nDigits n.toNat := by
    show (Lib.itoa n).toArray.size = _
    rw [List.size_toArray]; unfold Lib.itoa; rw [if_neg (by omega), Lib.decDigits_length]
  rw [e]
  refine ⟨Lib.nDigits_pos _, ?_⟩
  have h := Lib.lt_pow_nDigits n.toNat
  rcases Nat.lt_or_ge (Lib.nDigits n.toNat) 10 with h2 | h2
  · omega
  · exfalso
    have key : ∀ k u : Nat, u < 10 ^ (k + 1) → Lib.nDigits u ≤ k + 1 := by
      intro k
      induction k with
      | zero => intro u hu; rw [Lib.nDigits_small (by omega)]; exact Nat.le_refl _
      | succ k ih =>
        intro u hu
        by_cases hs : u < 10
        · rw [Lib.nDigits_small hs]; omega
        · rw [Lib.nDigits_big hs]
          have := ih (u / 10) (by rw [Nat.div_lt_iff_lt_mul (by decide)]; rw [Nat.pow_succ] at hu; exact hu)
          omega
    have := key 8 n.toNat (by omega)
    omega
theorem natGo_step {z : List Int} {k : Nat} {t : ByteArray} (hk : 0 < k) : natGo z k t = natGo z (k - 1) (t ++ padT (itx (z.getD (k - 1) 0)) 9) := by
  cases k with
  | zero => omega
  | succ k => rfl
theorem natGo_size {z : List Int} (hz : Lm z) : ∀ (i : Nat) (t : ByteArray), (natGo z i t).size = t.size + 9 * i
  | 0, t => rfl
  | i + 1, t => by
    show (natGo z i _).size = _
    have hb := hz.getD i
    have h1 := itx_size hb.1 hb.2
    have h2 := padT_size (s := itx (z.getD i 0)) (n := 9) (by decide)
    rw [natGo_size hz i, ByteArray.size_append]
    omega
theorem natT_size {z : List Int} (hz : Lm z) : 1 ≤ (natT z).size ∧ (natT z).size ≤ 9 * z.length + 1 := by
  unfold natT; split
  · exact ⟨Nat.le_refl _, Nat.le_add_left _ _⟩
  · have hb := hz.getD (z.length - 1)
    have h1 := itx_size hb.1 hb.2
    rw [natGo_size hz]; omega
theorem itx_step {n m : Int} {s : ByteArray} (hm : 9 < m) (h : Lib.decDigits n.toNat = Lib.decDigits m.toNat ++ s.data.toList) :
    Lib.decDigits n.toNat = Lib.decDigits (m / 10).toNat ++ (byteS (48 + m % 10) ++ s).data.toList := by
  have e1 : Lib.decDigits m.toNat = Lib.decDigits (m.toNat / 10) ++ [UInt8.ofNat (48 + m.toNat % 10)] := by
    conv => lhs; rw [Lib.decDigits, dif_neg (by omega)]
  have e2 : (m / 10).toNat = m.toNat / 10 := by omega
  have e3 : (48 + m % 10).toNat = 48 + m.toNat % 10 := by omega
  rw [h, e1, e2]
  simp [byteS, e3]
theorem itx_end {n m : Int} {s : ByteArray} (hn : 0 ≤ n) (hm : 0 ≤ m ∧ m ≤ 9) (h : Lib.decDigits n.toNat = Lib.decDigits m.toNat ++ s.data.toList) : byteS (48 + m) ++ s = itx n := by
  apply ba_ext
  have e3 : (48 + m).toNat = 48 + m.toNat := by omega
  show _ = (Lib.itoa n)
  unfold Lib.itoa
  rw [if_neg (by omega), h, Lib.decDigits_one (by omega)]
  simp [byteS, e3]
theorem known_size {c : ByteArray} (h : Known c) : c.size ≤ 3 := by
  unfold Known at h
  obtain ⟨x, hx⟩ := Option.isSome_iff_exists.1 h
  have hm := List.mem_of_find?_eq_some hx
  have hp := List.find?_some hx
  have hp' : x.code = c := by simpa using hp
  subst hp'
  exact (show ∀ x ∈ tabI, x.code.size ≤ 3 by decide) x hm
def monT (c : ByteArray) (n : Bool) (z : List Int) : ByteArray := if MOk c n z then c ++ ⟨#[32]⟩ ++ decT n z (curOf c).places else ⟨#[]⟩
theorem monT_no {c : ByteArray} {n : Bool} {z : List Int} (h : ¬ MOk c n z) : monT c n z = ⟨#[]⟩ := by unfold monT; rw [if_neg h]
theorem monT_ok {c : ByteArray} {n : Bool} {z : List Int} (h : MOk c n z) : monT c n z = c ++ ⟨#[32]⟩ ++ decT n z (curOf c).places := by unfold monT; rw [if_pos h]
def ratT (f t : ByteArray) (n : Bool) (z : List Int) (p : Int) : ByteArray := if RateP f t n z p then f ++ ⟨#[32]⟩ ++ t ++ ⟨#[32]⟩ ++ decT n z p else ⟨#[]⟩
theorem ratT_no {f t : ByteArray} {n : Bool} {z : List Int} {p : Int} (h : ¬ RateP f t n z p) : ratT f t n z p = ⟨#[]⟩ := by unfold ratT; rw [if_neg h]
theorem ratT_ok {f t : ByteArray} {n : Bool} {z : List Int} {p : Int} (h : RateP f t n z p) : ratT f t n z p = f ++ ⟨#[32]⟩ ++ t ++ ⟨#[32]⟩ ++ decT n z p := by unfold ratT; rw [if_pos h]
end Go.Proofs.YtoeclobdbblohaaGreatDoor

namespace Go.Proofs.YtoeclobdbblohaaGreatDoor
open Go Go.RowKit
def dval (l : List UInt8) : Nat := l.foldl (fun a c => 10 * a + (c.toNat - 48)) 0
theorem dval_from (l : List UInt8) : ∀ a, l.foldl (fun a (c : UInt8) => 10 * a + (c.toNat - 48)) a = a * 10 ^ l.length + dval l := by
  induction l with
  | nil => intro a; simp [dval]
  | cons c l ih =>
    intro a
    unfold dval
    simp only [List.foldl_cons, List.length_cons]
    rw [ih, ih (10 * 0 + (c.toNat - 48))]
    rw [Nat.pow_succ, Nat.add_mul, show (10 * 0 + (c.toNat - 48)) = c.toNat - 48 by omega, Nat.add_assoc, Nat.mul_comm 10 a, Nat.mul_assoc, Nat.mul_comm 10]
theorem dval_append (a b : List UInt8) : dval (a ++ b) = dval a * 10 ^ b.length + dval b := by
  conv => lhs; unfold dval
  rw [List.foldl_append, dval_from]; rfl
theorem dval_one {d : Nat} (h : d < 10) : dval [UInt8.ofNat (48 + d)] = d := by
  have : ∀ d : Fin 10, dval [UInt8.ofNat (48 + d.val)] = d.val := by decide
  exact this ⟨d, h⟩
theorem dval_dec : ∀ n : Nat, dval (Lib.decDigits n) = n := by
  intro n
  induction n using Nat.strongRecOn with
  | ind n ih =>
    by_cases h : n < 10
    · rw [Lib.decDigits_one h, dval_one h]
    · rw [Lib.decDigits, dif_neg h, dval_append, ih (n / 10) (by omega), dval_one (by omega)]
      simp only [List.length_cons, List.length_nil, Nat.zero_add, Nat.pow_one]
      omega
def Dgs (l : List UInt8) : Prop := ∀ c ∈ l, 48 ≤ c.toNat ∧ c.toNat ≤ 57
theorem Dgs.append {a b : List UInt8} (ha : Dgs a) (hb : Dgs b) : Dgs (a ++ b) := fun c hc => by
  rcases List.mem_append.1 hc with h | h
  · exact ha c h
  · exact hb c h
theorem dgs_one {d : Nat} (h : d < 10) : Dgs [UInt8.ofNat (48 + d)] := by
  have : ∀ d : Fin 10, 48 ≤ (UInt8.ofNat (48 + d.val)).toNat ∧ (UInt8.ofNat (48 + d.val)).toNat ≤ 57 := by decide
  intro c hc
  simp only [List.mem_cons, List.not_mem_nil, or_false] at hc
  subst hc; exact this ⟨d, h⟩
theorem dgs_dec : ∀ n : Nat, Dgs (Lib.decDigits n) := by
  intro n
  induction n using Nat.strongRecOn with
  | ind n ih =>
    by_cases h : n < 10
    · rw [Lib.decDigits_one h]; exact dgs_one h
    · rw [Lib.decDigits, dif_neg h]; exact (ih (n / 10) (by omega)).append (dgs_one (by omega))
theorem repeat_mem : ∀ (k : Nat) (c : UInt8), c ∈ Lib.repeatL [48] k → c = 48
  | 0, _, h => by simp [Lib.repeatL] at h
  | k + 1, c, h => by
    simp only [Lib.repeatL, List.mem_append, List.mem_cons, List.not_mem_nil, or_false] at h
    rcases h with h | h
    · exact h
    · exact repeat_mem k c h
theorem dgs_zer (k : Nat) : Dgs (zer k).data.toList := fun c hc => by
  have := repeat_mem k c (by simpa [zer] using hc)
  subst this; decide
theorem dval_repeat : ∀ k : Nat, dval (Lib.repeatL [48] k) = 0
  | 0 => rfl
  | k + 1 => by
    show dval ([48] ++ Lib.repeatL [48] k) = 0
    rw [dval_append, dval_repeat k]
    simp [dval]
theorem dval_zer (k : Nat) : dval (zer k).data.toList = 0 := by
  show dval (Lib.repeatL [48] k).toArray.toList = 0
  exact dval_repeat k
theorem itx_list {n : Int} (h : 0 ≤ n) : (itx n).data.toList = Lib.decDigits n.toNat := by
  show (Lib.itoa n).toArray.toList = _
  unfold Lib.itoa; rw [if_neg (by omega)]
theorem pad_list {s : ByteArray} {n : Int} : ∃ k, (padT s n).data.toList = (zer k).data.toList ++ s.data.toList := by
  unfold padT; split
  · exact ⟨0, by simp [zer, Lib.repeatL]⟩
  · exact ⟨(n - (s.size : Int)).toNat, by rw [ByteArray.data_append, Array.toList_append]⟩
theorem pad_dgs {s : ByteArray} {n : Int} (h : Dgs s.data.toList) : Dgs (padT s n).data.toList := by
  obtain ⟨k, e⟩ := pad_list (s := s) (n := n)
  rw [e]; exact (dgs_zer k).append h
theorem pad_dval {s : ByteArray} {n : Int} : dval (padT s n).data.toList = dval s.data.toList := by
  obtain ⟨k, e⟩ := pad_list (s := s) (n := n)
  rw [e, dval_append, dval_zer]; omega
theorem limb_pad {n : Int} (h0 : 0 ≤ n) (h1 : n < 1000000000) : Dgs (padT (itx n) 9).data.toList ∧ dval (padT (itx n) 9).data.toList = n.toNat ∧ (padT (itx n) 9).data.toList.length = 9 := by
  have hs := itx_size h0 h1
  have hp := padT_size (s := itx n) (n := 9) (by decide)
  refine ⟨pad_dgs (by rw [itx_list h0]; exact dgs_dec _), by rw [pad_dval, itx_list h0, dval_dec], ?_⟩
  have : (padT (itx n) 9).data.toList.length = (padT (itx n) 9).size := by rw [Array.length_toList]; rfl
  rw [this]; omega
theorem natGo_read {z : List Int} (hz : Lm z) : ∀ (i : Nat) (t : ByteArray), Dgs t.data.toList → i ≤ z.length →
    Dgs (natGo z i t).data.toList ∧ dval (natGo z i t).data.toList = dval t.data.toList * Bs ^ i + vl (z.take i)
  | 0, t, ht, _ => ⟨ht, by simp [natGo, vl]⟩
  | i + 1, t, ht, hi => by
    have hb := hz.getD i
    have hl := limb_pad hb.1 hb.2
    have ih := natGo_read hz i (t ++ padT (itx (z.getD i 0)) 9) (by simpa using ht.append hl.1) (by omega)
    refine ⟨ih.1, ?_⟩
    show dval (natGo z i (t ++ padT (itx (z.getD i 0)) 9)).data.toList = _
    rw [ih.2]
    have e1 : (t ++ padT (itx (z.getD i 0)) 9).data.toList = t.data.toList ++ (padT (itx (z.getD i 0)) 9).data.toList := by simp
    rw [e1, dval_append, hl.2.1, hl.2.2]
    have e2 : vl (z.take (i + 1)) = vl (z.take i) + Bs ^ i * (z.getD i 0).toNat := by
      have : z.take (i + 1) = z.take i ++ [z.getD i 0] := by
        rw [List.take_succ_eq_append_getElem (by omega)]; simp [List.getElem?_eq_getElem (show i < z.length by omega)]
      rw [this, vl_concat, List.length_take, Nat.min_eq_left (by omega)]
    rw [e2, Nat.add_mul, show (10 : Nat) ^ 9 = Bs from rfl, Nat.mul_assoc, show Bs * Bs ^ i = Bs ^ (i + 1) by rw [Nat.pow_succ, Nat.mul_comm], Nat.mul_comm (z.getD i 0).toNat, Nat.add_assoc, Nat.add_comm (Bs ^ i * _)]
theorem natT_read {z : List Int} (hz : Lm z) : Dgs (natT z).data.toList ∧ dval (natT z).data.toList = vl z := by
  unfold natT; split
  · rename_i h
    have : z = [] := List.eq_nil_of_length_eq_zero h
    subst this
    exact ⟨by intro c hc; simp at hc; subst hc; decide, by decide⟩
  · have hb := hz.getD (z.length - 1)
    have h := natGo_read hz (z.length - 1) (itx (z.getD (z.length - 1) 0)) (by rw [itx_list hb.1]; exact dgs_dec _) (by omega)
    refine ⟨h.1, ?_⟩
    rw [h.2, itx_list hb.1, dval_dec]
    have e2 : vl z = vl (z.take (z.length - 1)) + Bs ^ (z.length - 1) * (z.getD (z.length - 1) 0).toNat := by
      have : z = z.take (z.length - 1) ++ [z.getD (z.length - 1) 0] := by
        have h1 := List.take_succ_eq_append_getElem (l := z) (i := z.length - 1) (by omega)
        rw [show z.length - 1 + 1 = z.length by omega, List.take_length] at h1
        conv => lhs; rw [h1]
        simp [List.getElem?_eq_getElem (show z.length - 1 < z.length by omega)]
      conv => lhs; rw [this]
      rw [vl_concat, List.length_take, Nat.min_eq_left (by omega)]
    rw [e2, Nat.mul_comm, Nat.add_comm]
def strip : List UInt8 → List UInt8
  | a :: b :: l => if a = 48 then strip (b :: l) else a :: b :: l
  | l => l
theorem strip_dval : ∀ l : List UInt8, dval (strip l) = dval l
  | [] => rfl
  | [a] => rfl
  | a :: b :: l => by
    unfold strip; split
    · rename_i h
      subst h
      rw [strip_dval (b :: l)]
      show _ = dval ([48] ++ (b :: l))
      rw [dval_append]; simp [dval]
    · rfl
theorem strip_dgs : ∀ {l : List UInt8}, Dgs l → Dgs (strip l)
  | [], h => h
  | [a], h => h
  | a :: b :: l, h => by
    unfold strip; split
    · exact strip_dgs (fun c hc => h c (List.mem_cons_of_mem _ hc))
    · exact h
theorem strip_head : ∀ {l : List UInt8}, l ≠ [] → strip l ≠ [] ∧ (1 < (strip l).length → (strip l).head? ≠ some 48)
  | [], h => absurd rfl h
  | [a], _ => ⟨by simp [strip], fun h => by simp [strip] at h⟩
  | a :: b :: l, _ => by
    unfold strip; split
    · exact strip_head (by simp)
    · rename_i h; exact ⟨by simp, fun _ => by simpa using h⟩
theorem strip_len : ∀ l : List UInt8, (strip l).length ≤ l.length
  | [] => Nat.le_refl _
  | [a] => Nat.le_refl _
  | a :: b :: l => by
    unfold strip; split
    · exact Nat.le_trans (strip_len (b :: l)) (by simp)
    · exact Nat.le_refl _
def filt (l : List UInt8) : List UInt8 := l.filter fun c => decide (c ≠ 46) && decide (c ≠ 45)
theorem filt_dgs {l : List UInt8} (h : Dgs l) : filt l = l := by
  unfold filt
  rw [List.filter_eq_self]
  intro c hc
  have := h c hc
  have h1 : c ≠ 46 := fun e => by subst e; simp at this
  have h2 : c ≠ 45 := fun e => by subst e; simp at this
  simp [h1, h2]
theorem filt_append (a b : List UInt8) : filt (a ++ b) = filt a ++ filt b := by simp [filt]
theorem decT_digits {n : Bool} {z : List Int} {p : Int} (h : DOk n z p) : Dgs (padT (natT z) (p + 1)).data.toList ∧ filt (decT n z p).data.toList = (padT (natT z) (p + 1)).data.toList ∧ dval (padT (natT z) (p + 1)).data.toList = vl z ∧ p + 1 ≤ ((padT (natT z) (p + 1)).size : Int) := by
  have hz := h.1.1.1
  have hr := natT_read hz
  have hd := pad_dgs (n := p + 1) hr.1
  have hs := padT_size (s := natT z) (n := p + 1) (by have := h.2.2.2; omega)
  refine ⟨hd, ?_, by rw [pad_dval]; exact hr.2, by omega⟩
  have key : filt (ptT (padT (natT z) (p + 1)) p).data.toList = (padT (natT z) (p + 1)).data.toList := by
    generalize hT : padT (natT z) (p + 1) = T at *
    unfold ptT; split
    · rename_i hp
      have e : (T.extract 0 (T.size - p.toNat) ++ ⟨#[46]⟩ ++ T.extract (T.size - p.toNat) T.size).data.toList = T.data.toList.take (T.size - p.toNat) ++ [46] ++ T.data.toList.drop (T.size - p.toNat) := by
        simp only [ByteArray.data_append, Array.toList_append, ByteArray.data_extract, Array.toList_extract]
        have hl : T.data.toList.length = T.size := by rw [Array.length_toList]; rfl
        rw [List.extract_eq_take_drop, List.extract_eq_take_drop, List.drop_zero, Nat.sub_zero, List.take_of_length_le (l := List.drop _ _) (by rw [List.length_drop]; omega)]
      rw [e, filt_append, filt_append, filt_dgs (fun c hc => hd c (List.mem_of_mem_take hc)), filt_dgs (fun c hc => hd c (List.mem_of_mem_drop hc))]
      show _ ++ [] ++ _ = _
      rw [List.append_nil, List.take_append_drop]
    · exact filt_dgs hd
  unfold decT; rw [if_pos h]
  unfold sgT; split
  · have e : ((⟨#[45]⟩ : ByteArray) ++ ptT (padT (natT z) (p + 1)) p).data.toList = [45] ++ (ptT (padT (natT z) (p + 1)) p).data.toList := by simp
    rw [e, filt_append, key]; rfl
  · exact key
theorem dval_cons (c : UInt8) (l : List UInt8) : dval (c :: l) = (c.toNat - 48) * 10 ^ l.length + dval l := by
  show dval ([c] ++ l) = _
  rw [dval_append]; simp [dval]
theorem dval_lt : ∀ {l : List UInt8}, Dgs l → dval l < 10 ^ l.length
  | [], _ => by simp [dval]
  | c :: l, h => by
    have h1 := dval_lt (fun x hx => h x (List.mem_cons_of_mem _ hx))
    have h2 := h c (List.mem_cons_self ..)
    rw [dval_cons, List.length_cons, Nat.pow_succ]
    have : (c.toNat - 48) * 10 ^ l.length ≤ 9 * 10 ^ l.length := Nat.mul_le_mul_right _ (by omega)
    omega
theorem dval_step {l : List UInt8} {f j : Nat} (h : f + j < l.length) : dval ((l.drop f).take (j + 1)) = dval ((l.drop f).take j) * 10 + ((l.getD (f + j) 0).toNat - 48) := by
  have h1 : (l.drop f).take (j + 1) = (l.drop f).take j ++ [l.getD (f + j) 0] := by
    rw [List.take_succ_eq_append_getElem (by rw [List.length_drop]; omega)]
    simp [List.getElem?_eq_getElem h]
  rw [h1, dval_append]
  simp [dval]
theorem limbs_step {l : List UInt8} {os : List Int} {e f : Nat} (he : e ≤ l.length) (hf : f = e - 9) (h0 : 0 < e) (h : vl os + Bs ^ os.length * dval (l.take e) = dval l) :
    vl (os ++ [((dval ((l.drop f).take (e - f)) : Nat) : Int)]) + Bs ^ (os.length + 1) * dval (l.take f) = dval l := by
  rw [vl_concat, Int.toNat_natCast, ← h]
  have h1 : l.take e = l.take f ++ (l.drop f).take (e - f) := by
    rw [← List.take_append_drop f (l.take e), List.take_take, Nat.min_eq_left (by omega), List.drop_take]
  have h2 : ((l.drop f).take (e - f)).length = e - f := by rw [List.length_take, List.length_drop]; omega
  have h3 : dval (l.take e) = dval (l.take f) * 10 ^ (e - f) + dval ((l.drop f).take (e - f)) := by rw [h1, dval_append, h2]
  rw [h3]
  by_cases h9 : 9 ≤ e
  · rw [show e - f = 9 by omega, show (10 : Nat) ^ 9 = Bs from rfl, Nat.pow_succ, Nat.mul_add]
    rw [Nat.mul_assoc, Nat.mul_comm Bs (dval (l.take f))]
    omega
  · have : f = 0 := by omega
    subst this
    simp [dval]
theorem decT_list {n : Bool} {z : List Int} {p : Int} (h : DOk n z p) : (decT n z p).data.toList =
    (if n = true then [45] else []) ++ (if 0 < p then (padT (natT z) (p + 1)).data.toList.take ((padT (natT z) (p + 1)).size - p.toNat) ++ 46 :: (padT (natT z) (p + 1)).data.toList.drop ((padT (natT z) (p + 1)).size - p.toNat) else (padT (natT z) (p + 1)).data.toList) := by
  have key : (ptT (padT (natT z) (p + 1)) p).data.toList = (if 0 < p then (padT (natT z) (p + 1)).data.toList.take ((padT (natT z) (p + 1)).size - p.toNat) ++ 46 :: (padT (natT z) (p + 1)).data.toList.drop ((padT (natT z) (p + 1)).size - p.toNat) else (padT (natT z) (p + 1)).data.toList) := by
    generalize padT (natT z) (p + 1) = T
    unfold ptT; split
    · simp only [ByteArray.data_append, Array.toList_append, ByteArray.data_extract, Array.toList_extract]
      have hl : T.data.toList.length = T.size := by rw [Array.length_toList]; rfl
      rw [List.extract_eq_take_drop, List.extract_eq_take_drop, List.drop_zero, Nat.sub_zero, List.take_of_length_le (l := List.drop _ _) (by rw [List.length_drop]; omega)]
      simp
    · rfl
  unfold decT; rw [if_pos h]
  unfold sgT; split
  · rename_i hn
    simp only [ByteArray.data_append, Array.toList_append, key]
  · rw [key]; rfl
theorem dgs_no {l : List UInt8} (h : Dgs l) : 46 ∉ l ∧ 45 ∉ l := by
  constructor
  · intro hc; have := h 46 hc; simp at this
  · intro hc; have := h 45 hc; simp at this
theorem idx_point {a b : List UInt8} (h : (46 : UInt8) ∉ a) : (a ++ 46 :: b).idxOf 46 = a.length := by
  rw [List.idxOf_append, if_neg h]; simp
theorem decT_inj {n n' : Bool} {z z' : List Int} {p p' : Int} (h : DOk n z p) (h' : DOk n' z' p') (e : decT n z p = decT n' z' p') : n = n' ∧ z = z' ∧ p = p' := by
  have d := decT_digits h
  have d' := decT_digits h'
  have hT : (padT (natT z) (p + 1)).data.toList = (padT (natT z') (p' + 1)).data.toList := by rw [← d.2.1, ← d'.2.1, e]
  have hz : z = z' := by
    have : vl z = vl z' := by rw [← d.2.2.1, ← d'.2.2.1, hT]
    rw [← dg_vl h.1.1.1 h.1.1.2.2, ← dg_vl h'.1.1.1 h'.1.1.2.2, this]
  have hl : (padT (natT z) (p + 1)).data.toList.length = (padT (natT z) (p + 1)).size := by rw [Array.length_toList]; rfl
  have hl' : (padT (natT z') (p' + 1)).data.toList.length = (padT (natT z') (p' + 1)).size := by rw [Array.length_toList]; rfl
  have hs : (padT (natT z) (p + 1)).size = (padT (natT z') (p' + 1)).size := by rw [← hl, ← hl', hT]
  have l1 := decT_list h
  have l2 := decT_list h'
  rw [e] at l1
  rw [l1, hT, hs] at l2
  have g1 := d.2.2.2
  have g2 := d'.2.2.2
  rw [hs] at g1
  have p0 := h.2.2.1
  have p0' := h'.2.2.1
  generalize hTT : (padT (natT z') (p' + 1)).data.toList = T at *
  generalize (padT (natT z') (p' + 1)).size = L at *
  have hD := d'.1
  have hlen := congrArg List.length l2
  have hn : n = n' := by
    have hh := congrArg List.head? l2
    have first : ∀ q : Int, 0 ≤ q → q + 1 ≤ (L : Int) → ∃ c, (if 0 < q then T.take (L - q.toNat) ++ 46 :: T.drop (L - q.toNat) else T).head? = some c ∧ c ≠ 45 := by
      intro q hq hq2
      have hT0 : T ≠ [] := by intro e0; rw [e0] at hl'; simp at hl'; omega
      obtain ⟨c, T', rfl⟩ := List.exists_cons_of_ne_nil hT0
      refine ⟨c, ?_, fun e0 => (dgs_no hD).2 (e0 ▸ List.mem_cons_self ..)⟩
      split
      · rw [show L - q.toNat = (L - q.toNat - 1) + 1 by omega]; simp
      · rfl
    obtain ⟨c1, f1, f2⟩ := first p p0 g1
    obtain ⟨c2, f3, f4⟩ := first p' p0' g2
    cases n <;> cases n'
    · rfl
    · simp only [Bool.false_eq_true, if_false, if_true, List.nil_append, List.cons_append, List.head?_cons] at hh
      rw [f1] at hh; exact absurd (Option.some.inj hh) f2
    · simp only [Bool.false_eq_true, if_false, if_true, List.nil_append, List.cons_append, List.head?_cons] at hh
      rw [f3] at hh; exact absurd (Option.some.inj hh).symm f4
    · rfl
  subst hn
  refine ⟨rfl, hz, ?_⟩
  have l3 := List.append_cancel_left l2
  by_cases q0 : 0 < p
  · by_cases q1 : 0 < p'
    · rw [if_pos q0, if_pos q1] at l3
      have i1 := congrArg (List.idxOf 46) l3
      rw [idx_point (fun hc => (dgs_no hD).1 (List.mem_of_mem_take hc)), idx_point (fun hc => (dgs_no hD).1 (List.mem_of_mem_take hc)), List.length_take, List.length_take, hl'] at i1
      omega
    · rw [if_pos q0, if_neg q1] at l3
      have := congrArg List.length l3
      simp only [List.length_append, List.length_cons, List.length_take, List.length_drop] at this
      omega
  · by_cases q1 : 0 < p'
    · rw [if_neg q0, if_pos q1] at l3
      have := congrArg List.length l3
      simp only [List.length_append, List.length_cons, List.length_take, List.length_drop] at this
      omega
    · omega
end Go.Proofs.YtoeclobdbblohaaGreatDoor

namespace Go.Proofs.YtoeclobdbblohaaGreatDoor
open Go Go.RowKit
instance (l : List UInt8) : Decidable (Dgs l) := by unfold Dgs; infer_instance
theorem sz_list (s : ByteArray) : s.data.toList.length = s.size := by rw [Array.length_toList]; rfl
theorem sz_ne (s : ByteArray) : decide (s ≠ ⟨#[]⟩) = decide (0 < s.size) := by
  apply decide_eq_decide.2
  constructor
  · intro h
    rcases Nat.eq_zero_or_pos s.size with e | e
    · exact absurd (ba_ext (by rw [List.eq_nil_of_length_eq_zero (show s.data.toList.length = 0 by rw [sz_list]; exact e)])) h
    · exact e
  · intro h e; rw [e] at h; exact absurd h (by decide)
theorem strB_list {s : ByteArray} {j : Nat} (h : j < s.size) : strB s j = ((s.data.toList.getD j 0).toNat : Int) := by
  unfold strB
  rw [getElem?_pos s j h]
  have h2 : j < s.data.toList.length := by rw [sz_list]; exact h
  rw [List.getD_eq_getElem?_getD, List.getElem?_eq_getElem h2]
  rfl
theorem dgs_at {s : ByteArray} {j : Nat} (h : Dgs s.data.toList) (hj : j < s.size) : 48 ≤ strB s j ∧ strB s j ≤ 57 := by
  have h2 : j < s.data.toList.length := by rw [sz_list]; exact hj
  rw [strB_list hj, List.getD_eq_getElem?_getD, List.getElem?_eq_getElem h2]
  have := h _ (List.getElem_mem h2)
  simp only [Option.getD_some]; omega
theorem dgs_all {s : ByteArray} (h : ∀ j, j < s.size → 48 ≤ strB s j ∧ strB s j ≤ 57) : Dgs s.data.toList := fun c hc => by
  obtain ⟨j, hj, rfl⟩ := List.getElem_of_mem hc
  have h1 := h j (by rw [← sz_list]; exact hj)
  rw [strB_list (by rw [← sz_list]; exact hj), List.getD_eq_getElem?_getD, List.getElem?_eq_getElem hj] at h1
  simp only [Option.getD_some] at h1; omega
def dgK (s : ByteArray) : Bool := decide (Dgs s.data.toList ∧ 0 < s.size)
theorem dgK_no {s : ByteArray} {j : Nat} (hj : j < s.size) (h : ¬ (48 ≤ strB s j ∧ strB s j ≤ 57)) : dgK s = false := by
  unfold dgK; rw [decide_eq_false_iff_not]; exact fun hh => h (dgs_at hh.1 hj)
theorem dgK_end {s : ByteArray} (h : ∀ j, j < s.size → 48 ≤ strB s j ∧ strB s j ≤ 57) : dgK s = decide (0 < s.size) := by
  unfold dgK; simp [dgs_all h]
theorem dgK_yes {s : ByteArray} (h : dgK s = true) : Dgs s.data.toList ∧ 0 < s.size := of_decide_eq_true h
def tnK (s : ByteArray) : Bool := decide (dgK s = true ∧ s.size ≤ 450 ∧ (1 < s.size → strB s 0 ≠ 48))
def tnV (s : ByteArray) : Nat := if tnK s = true then dval s.data.toList else 0
theorem tnV_ok {s : ByteArray} (h : tnK s = true) : tnV s = dval s.data.toList := by unfold tnV; rw [if_pos h]
theorem tnV_no {s : ByteArray} (h : tnK s = false) : tnV s = 0 := by unfold tnV; rw [if_neg (by rw [h]; decide)]
theorem tnK_no {s : ByteArray} (h : ¬ (dgK s = true ∧ s.size ≤ 450 ∧ (1 < s.size → strB s 0 ≠ 48))) : tnK s = false := by
  unfold tnK; exact decide_eq_false h
theorem tnK_ok {s : ByteArray} (h1 : dgK s = true) (h2 : s.size ≤ 450) (h3 : 1 < s.size → strB s 0 ≠ 48) : tnK s = true := decide_eq_true ⟨h1, h2, h3⟩
theorem dval9 {s : ByteArray} (hD : Dgs s.data.toList) (f j : Nat) (hj : j ≤ 9) : dval ((s.data.toList.drop f).take j) < 1000000000 := by
  have h1 := dval_lt (l := (s.data.toList.drop f).take j) (fun c hc => hD c (List.mem_of_mem_drop (List.mem_of_mem_take hc)))
  have h2 : ((s.data.toList.drop f).take j).length ≤ 9 := by rw [List.length_take]; omega
  exact Nat.lt_of_lt_of_le h1 (show _ ≤ 10 ^ 9 from Nat.pow_le_pow_right (by decide) h2)
theorem dval_byte {s : ByteArray} (hD : Dgs s.data.toList) {f j : Nat} (h : f + j < s.size) : ((dval ((s.data.toList.drop f).take (j + 1)) : Nat) : Int) = (dval ((s.data.toList.drop f).take j) : Nat) * 10 + strB s (f + j) - 48 := by
  have h1 := dval_step (l := s.data.toList) (f := f) (j := j) (by rw [sz_list]; exact h)
  have h2 := strB_list (s := s) (j := f + j) h
  have h3 := dgs_at hD h
  omega
theorem limbs_next {s : ByteArray} {os : List Int} {k f j : Nat} (hos : os.length = k) (hf : f = s.size - 9 * k - 9) (hj : f + j = s.size - 9 * k) (h0 : 9 * k < s.size) (hv : vl os + Bs ^ k * dval (s.data.toList.take (s.size - 9 * k)) = dval s.data.toList) :
    vl (os ++ [((dval ((s.data.toList.drop f).take j) : Nat) : Int)]) + Bs ^ (k + 1) * dval (s.data.toList.take (s.size - 9 * (k + 1))) = dval s.data.toList := by
  have h := limbs_step (l := s.data.toList) (os := os) (e := s.size - 9 * k) (f := f) (by rw [sz_list]; omega) hf (by omega) (by rw [hos]; exact hv)
  rw [show s.size - 9 * k - f = j by omega, hos] at h
  rw [show s.size - 9 * (k + 1) = f by omega]
  exact h
theorem limbs_end {s : ByteArray} {os : List Int} {k : Nat} (h0 : s.size ≤ 9 * k) (hv : vl os + Bs ^ k * dval (s.data.toList.take (s.size - 9 * k)) = dval s.data.toList) : vl os = dval s.data.toList := by
  rw [show s.size - 9 * k = 0 by omega, List.take_zero, show dval [] = 0 from rfl] at hv
  omega
def bl (l : List UInt8) : ByteArray := ⟨l.toArray⟩
@[simp] theorem bl_list (l : List UInt8) : (bl l).data.toList = l := rfl
theorem bl_size (l : List UInt8) : (bl l).size = l.length := by rw [← sz_list, bl_list]
theorem bl_of (s : ByteArray) : bl s.data.toList = s := ba_ext rfl
theorem strB_head {l : List UInt8} {c : UInt8} (h : l.head? = some c) : strB (bl l) 0 = (c.toNat : Int) := by
  obtain ⟨l', rfl⟩ : ∃ l', l = c :: l' := by cases l with
    | nil => simp at h
    | cons a l' => simp at h; exact ⟨l', by rw [h]⟩
  rw [strB_list (by rw [bl_size]; simp)]; rfl
theorem tn_of {l : List UInt8} (hd : Dgs l) (h0 : l ≠ []) (hl : l.length ≤ 450) : tnK (bl (strip l)) = true ∧ tnV (bl (strip l)) = dval l := by
  have h1 := strip_head h0
  have h2 := strip_len l
  have hk : tnK (bl (strip l)) = true := by
    unfold tnK dgK
    refine decide_eq_true ⟨decide_eq_true ⟨strip_dgs hd, ?_⟩, by rw [bl_size]; omega, fun h => ?_⟩
    · rw [bl_size]; exact List.length_pos_iff.2 h1.1
    · rw [bl_size] at h
      obtain ⟨c, l', e⟩ := List.exists_cons_of_ne_nil h1.1
      have h3 := h1.2 h
      rw [e] at h3
      rw [e, strB_head (c := c) rfl]
      intro h4
      exact h3 (by rw [show c = 48 from UInt8.toNat_inj.1 (by rw [show (48 : UInt8).toNat = 48 from rfl]; omega)]; rfl)
  exact ⟨hk, by rw [tnV_ok hk, bl_list, strip_dval]⟩
theorem tn_nil : tnK (bl (strip [])) = false := by decide
def ptAt (s : ByteArray) : Nat → Int
  | 0 => 0
  | i + 1 => if strB s i = 46 then (s.size : Int) - 1 - (i : Int) else ptAt s i
def dgAt (s : ByteArray) : Nat → ByteArray
  | 0 => ⟨#[]⟩
  | i + 1 => if strB s i = 46 ∨ strB s i = 45 then dgAt s i else dgAt s i ++ s.extract i (i + 1)
theorem ptAt_from {s : ByteArray} {q : Nat} : ∀ d, (∀ j, q ≤ j → j < q + d → strB s j ≠ 46) → ptAt s (q + d) = ptAt s q
  | 0, _ => rfl
  | d + 1, h => by
    show ptAt s (q + d + 1) = _
    rw [ptAt, if_neg (h (q + d) (by omega) (by omega))]
    exact ptAt_from d (fun j h1 h2 => h j h1 (by omega))
theorem strB_mem {s : ByteArray} {j : Nat} {c : UInt8} (hj : j < s.size) (h : strB s j = (c.toNat : Int)) : s.data.toList.getD j 0 = c := by
  rw [strB_list hj] at h
  exact UInt8.toNat_inj.1 (by omega)
theorem ptAt_no {s : ByteArray} (h : (46 : UInt8) ∉ s.data.toList) : ptAt s s.size = 0 := by
  have := ptAt_from (s := s) (q := 0) s.size (fun j _ hj h46 => by
    have hj' : j < s.size := by omega
    have e := strB_mem (c := 46) hj' h46
    have hl : j < s.data.toList.length := by rw [sz_list]; exact hj'
    rw [List.getD_eq_getElem?_getD, List.getElem?_eq_getElem hl, Option.getD_some] at e
    exact h (e ▸ List.getElem_mem hl))
  rw [Nat.zero_add] at this
  exact this
theorem ptAt_app {s : ByteArray} {a b : List UInt8} (h : s.data.toList = a ++ 46 :: b) (hb : (46 : UInt8) ∉ b) : ptAt s s.size = (b.length : Int) := by
  have hs : s.size = a.length + 1 + b.length := by rw [← sz_list, h]; simp; omega
  have := ptAt_from (s := s) (q := a.length + 1) b.length (fun j h1 hj h46 => by
    have e := strB_mem (c := 46) (by omega) h46
    rw [h, List.getD_eq_getElem?_getD, List.getElem?_append_right (by omega)] at e
    obtain ⟨k, rfl⟩ : ∃ k, j = a.length + 1 + k := ⟨j - a.length - 1, by omega⟩
    rw [show a.length + 1 + k - a.length = k + 1 by omega, List.getElem?_cons_succ, List.getElem?_eq_getElem (by omega), Option.getD_some] at e
    exact hb (e ▸ List.getElem_mem _))
  rw [hs, this, ptAt]
  have e : strB s a.length = 46 := by
    rw [strB_list (by omega), h]; simp
  rw [if_pos e]; omega
theorem dgAt_list {s : ByteArray} : ∀ {i : Nat}, i ≤ s.size → (dgAt s i).data.toList = filt (s.data.toList.take i)
  | 0, _ => by simp [dgAt, filt]
  | i + 1, h => by
    have hl : i < s.data.toList.length := by rw [sz_list]; omega
    have e1 : s.data.toList.take (i + 1) = s.data.toList.take i ++ [s.data.toList.getD i 0] := by
      rw [List.take_succ_eq_append_getElem hl]; simp [List.getElem?_eq_getElem hl]
    have ih := dgAt_list (s := s) (i := i) (by omega)
    have hB := strB_list (s := s) (j := i) (by omega)
    rw [e1, filt_append, ← ih, dgAt]
    generalize hc : s.data.toList.getD i 0 = c at *
    split
    · rename_i h46
      have : filt [c] = [] := by
        rcases h46 with h46 | h46
        · rw [show c = 46 from UInt8.toNat_inj.1 (by rw [show (46 : UInt8).toNat = 46 from rfl]; omega)]; rfl
        · rw [show c = 45 from UInt8.toNat_inj.1 (by rw [show (45 : UInt8).toNat = 45 from rfl]; omega)]; rfl
      rw [this, List.append_nil]
    · rename_i h46
      have e2 : filt [c] = [c] := by
        unfold filt
        rw [List.filter_eq_self]
        intro x hx
        simp only [List.mem_cons, List.not_mem_nil, or_false] at hx
        subst hx
        have n1 : x ≠ 46 := fun e => h46 (.inl (by rw [hB, e]; rfl))
        have n2 : x ≠ 45 := fun e => h46 (.inr (by rw [hB, e]; rfl))
        simp [n1, n2]
      have e3 : (s.extract i (i + 1)).data.toList = [c] := by
        simp only [ByteArray.data_extract, Array.toList_extract]
        rw [List.extract_eq_take_drop, show i + 1 - i = 1 by omega, ← hc, List.take_one]
        simp [List.getElem?_eq_getElem hl]
      rw [e2, ByteArray.data_append, Array.toList_append, e3]
theorem dgAt_size {s : ByteArray} : ∀ i : Nat, (dgAt s i).size ≤ i
  | 0 => Nat.le_refl _
  | i + 1 => by
    have ih := dgAt_size (s := s) i
    rw [dgAt]; split
    · omega
    · rw [ByteArray.size_append, ByteArray.size_extract]; omega
def sgK (s : ByteArray) : Bool := decide (0 < s.size ∧ strB s 0 = 45)
def spT (s : ByteArray) : ByteArray := bl (strip (filt s.data.toList))
theorem filt_nil_of {s : ByteArray} (h : s.size = 0) : spT s = bl (strip []) := by
  have : s.data.toList = [] := List.eq_nil_of_length_eq_zero (by rw [sz_list]; exact h)
  unfold spT; rw [this]; rfl
theorem dec_sgK {n : Bool} {z : List Int} {p : Int} (h : DOk n z p) : sgK (decT n z p) = n := by
  have d := decT_digits h
  have l := decT_list h
  have hno := dgs_no d.1
  have hT : (padT (natT z) (p + 1)).data.toList.length = (padT (natT z) (p + 1)).size := sz_list _
  have p0 := h.2.2.1
  have key : ∃ c l', (if 0 < p then (padT (natT z) (p + 1)).data.toList.take ((padT (natT z) (p + 1)).size - p.toNat) ++ 46 :: (padT (natT z) (p + 1)).data.toList.drop ((padT (natT z) (p + 1)).size - p.toNat) else (padT (natT z) (p + 1)).data.toList) = c :: l' ∧ c ≠ 45 := by
    have d4 := d.2.2.2
    generalize (padT (natT z) (p + 1)).data.toList = T at *
    generalize (padT (natT z) (p + 1)).size = L at *
    have hT0 : T ≠ [] := by intro e; rw [e] at hT; simp at hT; omega
    obtain ⟨c, T', rfl⟩ := List.exists_cons_of_ne_nil hT0
    have hc : c ≠ 45 := fun e => hno.2 (e ▸ List.mem_cons_self ..)
    split
    · rw [show L - p.toNat = (L - p.toNat - 1) + 1 by omega]
      exact ⟨c, _, by rw [List.take_succ_cons, List.cons_append], hc⟩
    · exact ⟨c, _, rfl, hc⟩
  obtain ⟨c, l', e, hc⟩ := key
  rw [e] at l
  unfold sgK
  cases n
  · simp only [Bool.false_eq_true, if_false, List.nil_append] at l
    rw [decide_eq_false_iff_not]
    rintro ⟨h1, h2⟩
    rw [strB_list h1, l] at h2
    exact hc (UInt8.toNat_inj.1 (by
      rw [show (45 : UInt8).toNat = 45 from rfl]
      have h3 : ((c.toNat : Nat) : Int) = 45 := h2
      omega))
  · simp only [if_true] at l
    have hs : 0 < (decT true z p).size := by rw [← sz_list, l]; simp
    exact decide_eq_true ⟨hs, by rw [strB_list hs, l]; rfl⟩
theorem dec_tn {n : Bool} {z : List Int} {p : Int} (h : DOk n z p) : (padT (natT z) (p + 1)).data.toList ≠ [] ∧ (padT (natT z) (p + 1)).data.toList.length ≤ 56 := by
  have d := decT_digits h
  have p0 := h.2.2
  have hs := natT_size h.1.1.1
  have hps := padT_size (s := natT z) (n := p + 1) (by omega)
  have h6 := h.2.1
  have hT := sz_list (padT (natT z) (p + 1))
  refine ⟨fun e => ?_, by omega⟩
  rw [e] at hT; simp at hT; omega
theorem spec_read {s : ByteArray} {n : Bool} {z : List Int} {p : Int} (h : DOk n z p) (e : decT n z p = s) : tnK (spT s) = true ∧ dg (tnV (spT s)) = z ∧ ptAt s s.size = p ∧ sgK s = n := by
  subst e
  have d := decT_digits h
  have t := dec_tn h
  have l := decT_list h
  have hno := dgs_no d.1
  have tn := tn_of d.1 t.1 (by omega)
  have p0 := h.2.2.1
  have hT := sz_list (padT (natT z) (p + 1))
  refine ⟨by unfold spT; rw [d.2.1]; exact tn.1, by unfold spT; rw [d.2.1, tn.2, d.2.2.1]; exact dg_vl h.1.1.1 h.1.1.2.2, ?_, dec_sgK h⟩
  by_cases hp : 0 < p
  · rw [if_pos hp, ← List.append_assoc] at l
    rw [ptAt_app l (fun hc => hno.1 (List.mem_of_mem_drop hc)), List.length_drop]
    have d4 := d.2.2.2
    omega
  · rw [if_neg hp] at l
    rw [ptAt_no (by
      rw [l]
      intro hc
      rcases List.mem_append.1 hc with hc | hc
      · split at hc <;> simp at hc
      · exact hno.1 hc)]
    omega
def IsD (s : ByteArray) (q : Bool × List Int × Int) : Prop := DOk q.1 q.2.1 q.2.2 ∧ decT q.1 q.2.1 q.2.2 = s
open Classical in
noncomputable def rdD (s : ByteArray) : Bool × List Int × Int × Bool := if h : ∃ q, IsD s q then ((Classical.choose h).1, (Classical.choose h).2.1, (Classical.choose h).2.2, true) else (false, [], 0, false)
theorem rdD_yes {s : ByteArray} {n : Bool} {z : List Int} {p : Int} (h : DOk n z p) (e : decT n z p = s) : rdD s = (n, z, p, true) := by
  have hh : ∃ q, IsD s q := ⟨(n, z, p), h, e⟩
  unfold rdD
  rw [dif_pos hh]
  have c := Classical.choose_spec hh
  obtain ⟨e1, e2, e3⟩ := decT_inj c.1 h (c.2.trans e.symm)
  rw [e1, e2, e3]
theorem rdD_no {s : ByteArray} (h : ∀ n z p, DOk n z p → decT n z p ≠ s) : rdD s = (false, [], 0, false) := by
  unfold rdD
  rw [dif_neg]
  rintro ⟨q, h1, h2⟩
  exact h _ _ _ h1 h2
theorem rdD_len (s : ByteArray) : (rdD s).2.1.length ≤ 6 := by
  unfold rdD; split
  · rename_i hh; exact (Classical.choose_spec hh).1.2.1
  · simp
theorem rdD_spec_no {s : ByteArray} (h : ¬ (tnK (spT s) = true ∧ DOk (sgK s) (dg (tnV (spT s))) (ptAt s s.size) ∧ decT (sgK s) (dg (tnV (spT s))) (ptAt s s.size) = s)) : rdD s = (false, [], 0, false) :=
  rdD_no fun n z p h1 h2 => by
    obtain ⟨a, b, c, d⟩ := spec_read h1 h2
    exact h ⟨a, by rw [b, c, d]; exact h1, by rw [b, c, d]; exact h2⟩
def decS (n : Bool) (z : List Int) (p : Int) : Bool × List Int × Int × Bool := if DOk n z p then (n, z, p, true) else (false, [], 0, false)
theorem decS_ok {n : Bool} {z : List Int} {p : Int} (h : DOk n z p) : decS n z p = (n, z, p, true) := by unfold decS; rw [if_pos h]
theorem decS_no {n : Bool} {z : List Int} {p : Int} (h : ¬ DOk n z p) : decS n z p = (false, [], 0, false) := by unfold decS; rw [if_neg h]
theorem decS_len (n : Bool) (z : List Int) (p : Int) : (decS n z p).2.1.length ≤ 6 := by
  unfold decS; split
  · rename_i h; exact h.2.1
  · simp
theorem pow_bs9 {m k : Nat} (h : m ≤ 9 * k) : 10 ^ m ≤ Bs ^ k := by
  have e : Bs ^ k = 10 ^ (9 * k) := by rw [Nat.pow_mul]
  rw [e]
  exact Nat.pow_le_pow_right (by decide) h
theorem tnV_len (s : ByteArray) : (dg (tnV s)).length ≤ 50 := by
  apply dg_len_le
  unfold tnV
  split
  · rename_i h
    have h0 : dgK s = true ∧ s.size ≤ 450 ∧ (1 < s.size → strB s 0 ≠ 48) := of_decide_eq_true h
    have h1 := dval_lt (dgK_yes h0.1).1
    rw [sz_list] at h1
    refine Nat.lt_of_lt_of_le h1 ?_
    exact pow_bs9 (by omega)
  · exact Nat.pow_pos (by decide)
theorem rdD_dec {s : ByteArray} {n : Bool} {z : List Int} {p : Int} (h1 : (decS n z p).2.2.2 = true) (h2 : decT (decS n z p).1 (decS n z p).2.1 (decS n z p).2.2.1 = s) : rdD s = decS n z p := by
  by_cases h : DOk n z p
  · rw [decS_ok h] at h2 ⊢; exact rdD_yes h h2
  · rw [decS_no h] at h1; cases h1
theorem rdD_bad {s : ByteArray} {n : Bool} {c : Int} (hn : sgK s = n) (hc : ptAt s s.size = c) (h : ¬ (tnK (spT s) = true ∧ (decS n (dg (tnV (spT s))) c).2.2.2 = true ∧ decT (decS n (dg (tnV (spT s))) c).1 (decS n (dg (tnV (spT s))) c).2.1 (decS n (dg (tnV (spT s))) c).2.2.1 = s)) : rdD s = (false, [], 0, false) := by
  subst hn; subst hc
  refine rdD_spec_no fun hh => h ⟨hh.1, ?_⟩
  rw [decS_ok hh.2.1]; exact ⟨rfl, hh.2.2⟩
theorem dgAt_skip {s : ByteArray} {k : Nat} (h : strB s k = 46 ∨ strB s k = 45) : dgAt s (k + 1) = dgAt s k := by rw [dgAt, if_pos h]
theorem dgAt_more {s : ByteArray} {k : Nat} (h : strB s k ≠ 46) (h2 : strB s k ≠ 45) : dgAt s (k + 1) = dgAt s k ++ s.extract k (k + 1) := by rw [dgAt, if_neg (by omega)]
theorem ptAt_yes {s : ByteArray} {k : Nat} (h : strB s k = 46) : ptAt s (k + 1) = (s.size : Int) - 1 - (k : Int) := by rw [ptAt, if_pos h]
theorem ptAt_skip {s : ByteArray} {k : Nat} (h : strB s k ≠ 46) : ptAt s (k + 1) = ptAt s k := by rw [ptAt, if_neg h]
theorem strip_cons {t : ByteArray} (h : 1 < t.size) : ∃ a b l, t.data.toList = a :: b :: l ∧ strB t 0 = (a.toNat : Int) := by
  have hl := sz_list t
  match e : t.data.toList, hl with
  | [], hl => simp at hl; omega
  | [a], hl => simp at hl; omega
  | a :: b :: l, _ => exact ⟨a, b, l, rfl, by rw [strB_list (by omega), e]; rfl⟩
theorem strip_step {t : ByteArray} (h : 1 < t.size) (h0 : strB t 0 = 48) : strip (t.extract 1 t.size).data.toList = strip t.data.toList := by
  obtain ⟨a, b, l, e, ha⟩ := strip_cons h
  have ea : a = 48 := UInt8.toNat_inj.1 (by rw [show (48 : UInt8).toNat = 48 from rfl]; omega)
  have ht : (t.extract 1 t.size).data.toList = b :: l := by
    simp only [ByteArray.data_extract, Array.toList_extract]
    rw [e, List.extract_eq_take_drop, ← sz_list, e]
    simp
  rw [ht, e, strip, if_pos ea]
theorem strip_done {s t : ByteArray} (hst : strip t.data.toList = strip (filt s.data.toList)) (h : ¬ (1 < t.size) ∨ strB t 0 ≠ 48) : t = spT s := by
  have hs : strip t.data.toList = t.data.toList := by
    by_cases h1 : 1 < t.size
    · obtain ⟨a, b, l, e, ha⟩ := strip_cons h1
      rcases h with h | h
      · exact absurd h1 h
      · rw [e, strip, if_neg (fun ea => h (by rw [ha, ea]; rfl))]
    · have hl := sz_list t
      match e : t.data.toList, hl with
      | [], _ => rfl
      | [a], _ => rfl
      | a :: b :: l, hl => simp at hl; omega
  unfold spT
  rw [← hst, hs, bl_of]
theorem filt_all {s : ByteArray} : (dgAt s s.size).data.toList = filt s.data.toList := by
  rw [dgAt_list (Nat.le_refl _), ← sz_list, List.take_length]
end Go.Proofs.YtoeclobdbblohaaGreatDoor

namespace Go.Proofs.YtoeclobdbblohaaGreatDoor
open Go Go.RowKit
def cutGo (b : Int) (s : ByteArray) : Nat → List ByteArray × Nat
  | 0 => ([], 0)
  | i + 1 => if strB s i = b then ((cutGo b s i).1 ++ [s.extract (cutGo b s i).2 i], i + 1) else cutGo b s i
def cutT (b : Int) (s : ByteArray) : List ByteArray := (cutGo b s s.size).1 ++ [s.extract (cutGo b s s.size).2 s.size]
theorem cutGo_le {b : Int} {s : ByteArray} : ∀ i : Nat, (cutGo b s i).2 ≤ i ∧ (cutGo b s i).1.length ≤ i
  | 0 => ⟨Nat.le_refl _, Nat.le_refl _⟩
  | i + 1 => by
    have ih := cutGo_le (b := b) (s := s) i
    rw [cutGo]; split
    · exact ⟨Nat.le_refl _, by simp only [List.length_append, List.length_singleton]; omega⟩
    · omega
theorem cutGo_from {b : Int} {s : ByteArray} {q : Nat} : ∀ d, (∀ j, q ≤ j → j < q + d → strB s j ≠ b) → cutGo b s (q + d) = cutGo b s q
  | 0, _ => rfl
  | d + 1, h => by
    show cutGo b s (q + d + 1) = _
    rw [cutGo, if_neg (h (q + d) (by omega) (by omega))]
    exact cutGo_from d (fun j h1 h2 => h j h1 (by omega))
theorem strB_ne {s : ByteArray} {b : UInt8} {j : Nat} (hj : j < s.size) (h : s.data.toList.getD j 0 ≠ b) : strB s j ≠ (b.toNat : Int) := fun e => h (strB_mem hj e)
theorem cut_none {b : UInt8} {s : ByteArray} (h : b ∉ s.data.toList) : cutT (b.toNat : Int) s = [s] := by
  have h1 := cutGo_from (b := (b.toNat : Int)) (s := s) (q := 0) s.size (fun j _ hj => strB_ne (by omega) (fun e => by
    have hl : j < s.data.toList.length := by rw [sz_list]; omega
    rw [List.getD_eq_getElem?_getD, List.getElem?_eq_getElem hl, Option.getD_some] at e
    exact h (e ▸ List.getElem_mem hl)))
  rw [Nat.zero_add] at h1
  unfold cutT
  rw [h1]
  show [] ++ [s.extract 0 s.size] = [s]
  rw [List.nil_append, ByteArray.extract_zero_size]
theorem cut_one {b : UInt8} {s : ByteArray} {x y : List UInt8} (h : s.data.toList = x ++ b :: y) (hx : b ∉ x) (hy : b ∉ y) : cutT (b.toNat : Int) s = [bl x, bl y] := by
  have hs : s.size = x.length + 1 + y.length := by rw [← sz_list, h]; simp; omega
  have h1 := cutGo_from (b := (b.toNat : Int)) (s := s) (q := 0) x.length (fun j _ hj => strB_ne (by omega) (fun e => by
    rw [h, List.getD_eq_getElem?_getD, List.getElem?_append_left (by omega), List.getElem?_eq_getElem (by omega), Option.getD_some] at e
    exact hx (e ▸ List.getElem_mem _)))
  have h2 := cutGo_from (b := (b.toNat : Int)) (s := s) (q := x.length + 1) y.length (fun j h1 hj => strB_ne (by omega) (fun e => by
    obtain ⟨k, rfl⟩ : ∃ k, j = x.length + 1 + k := ⟨j - x.length - 1, by omega⟩
    rw [h, List.getD_eq_getElem?_getD, List.getElem?_append_right (by omega), show x.length + 1 + k - x.length = k + 1 by omega, List.getElem?_cons_succ, List.getElem?_eq_getElem (by omega), Option.getD_some] at e
    exact hy (e ▸ List.getElem_mem _)))
  rw [Nat.zero_add] at h1
  have e : strB s x.length = (b.toNat : Int) := by rw [strB_list (by omega), h]; simp
  have h3 : cutGo (b.toNat : Int) s s.size = ([s.extract 0 x.length], x.length + 1) := by
    rw [hs, h2, cutGo, if_pos e, h1]; rfl
  unfold cutT
  rw [h3]
  have e1 : s.extract 0 x.length = bl x := ba_ext (by
    simp only [ByteArray.data_extract, Array.toList_extract, bl_list]
    rw [List.extract_eq_take_drop, h]; simp)
  have e2 : s.extract (x.length + 1) s.size = bl y := ba_ext (by
    simp only [ByteArray.data_extract, Array.toList_extract, bl_list]
    rw [List.extract_eq_take_drop, h, hs, show x.length + 1 + y.length - (x.length + 1) = y.length by omega, show x.length + 1 = (x ++ [b]).length by simp, show x ++ b :: y = (x ++ [b]) ++ y by simp, List.drop_left, List.take_length])
  show [s.extract 0 x.length] ++ [s.extract (x.length + 1) s.size] = _
  rw [e1, e2]; rfl
def unS (s : ByteArray) : ByteArray := if sgK s = true then s.extract 1 s.size else s
theorem unS_list {n : Bool} {z : List Int} {p : Int} (h : DOk n z p) : (unS (decT n z p)).data.toList = (if 0 < p then (padT (natT z) (p + 1)).data.toList.take ((padT (natT z) (p + 1)).size - p.toNat) ++ 46 :: (padT (natT z) (p + 1)).data.toList.drop ((padT (natT z) (p + 1)).size - p.toNat) else (padT (natT z) (p + 1)).data.toList) := by
  have l := decT_list h
  unfold unS
  rw [dec_sgK h]
  cases n
  · simpa using l
  · simp only [if_true] at l ⊢
    simp only [ByteArray.data_extract, Array.toList_extract]
    rw [List.extract_eq_take_drop, ← sz_list, l]
    simp
theorem dec_parts {n : Bool} {z : List Int} {p : Int} (h : DOk n z p) : cutT 46 (unS (decT n z p)) = (if 0 < p then [bl ((padT (natT z) (p + 1)).data.toList.take ((padT (natT z) (p + 1)).size - p.toNat)), bl ((padT (natT z) (p + 1)).data.toList.drop ((padT (natT z) (p + 1)).size - p.toNat))] else [padT (natT z) (p + 1)]) := by
  have l := unS_list h
  have d := decT_digits h
  have hno := dgs_no d.1
  by_cases hp : 0 < p
  · rw [if_pos hp] at l ⊢
    exact cut_one (b := 46) l (fun hc => hno.1 (List.mem_of_mem_take hc)) (fun hc => hno.1 (List.mem_of_mem_drop hc))
  · rw [if_neg hp] at l ⊢
    have e : unS (decT n z p) = padT (natT z) (p + 1) := ba_ext l
    rw [e]
    exact cut_none (b := 46) hno.1
end Go.Proofs.YtoeclobdbblohaaGreatDoor

namespace Go.Proofs.YtoeclobdbblohaaGreatDoor
open Go Go.RowKit
def jnT : List ByteArray → List UInt8
  | [] => []
  | a :: l => a.data.toList ++ jnT l
theorem jn_flat : ∀ l : List ByteArray, ((l.map fun s => s.data.toList).map (([] : List UInt8) ++ ·)).flatten = jnT l
  | [] => rfl
  | a :: l => by
    simp only [List.map_cons, List.flatten_cons, List.nil_append, jnT]
    rw [← jn_flat l]
    simp
theorem jn_join : ∀ l : List ByteArray, Lib.join (l.map fun s => s.data.toList) [] = jnT l
  | [] => rfl
  | a :: l => by
    rw [List.map_cons, Lib.join_cons]
    unfold Lib.joinTail
    rw [jn_flat]; rfl
def whT (u : ByteArray) : ByteArray := bl (strip (jnT (cutT 46 u)))
def scT (l : List ByteArray) : Int := if l.length = 2 then ((l.getD 1 ByteArray.empty).size : Int) else 0
theorem jn_len : ∀ l : List ByteArray, (jnT l).length = (l.map ByteArray.size).sum
  | [] => rfl
  | a :: l => by simp only [jnT, List.length_append, sz_list, List.map_cons, List.sum_cons, jn_len l]
theorem impl_read {s : ByteArray} {n : Bool} {z : List Int} {p : Int} (h : DOk n z p) (e : decT n z p = s) : (cutT 46 (unS s)).length ≤ 2 ∧ (unS s).size ≤ 100 ∧ tnK (whT (unS s)) = true ∧ dg (tnV (whT (unS s))) = z ∧ scT (cutT 46 (unS s)) = p ∧ sgK s = n := by
  subst e
  have d := decT_digits h
  have t := dec_tn h
  have l := unS_list h
  have pr := dec_parts h
  have tn := tn_of d.1 t.1 (by omega)
  have p0 := h.2.2.1
  have p1 := h.2.2.2
  have d4 := d.2.2.2
  have hT := sz_list (padT (natT z) (p + 1))
  have hsz := sz_list (unS (decT n z p))
  have hj : jnT (cutT 46 (unS (decT n z p))) = (padT (natT z) (p + 1)).data.toList := by
    rw [pr]
    split
    · simp only [jnT, bl_list, List.append_nil, List.take_append_drop]
    · simp only [jnT, List.append_nil]
  have hw : whT (unS (decT n z p)) = bl (strip (padT (natT z) (p + 1)).data.toList) := by unfold whT; rw [hj]
  refine ⟨?_, ?_, by rw [hw]; exact tn.1, by rw [hw, tn.2, d.2.2.1]; exact dg_vl h.1.1.1 h.1.1.2.2, ?_, dec_sgK h⟩
  · rw [pr]; split <;> simp
  · rw [← hsz, l]
    split
    · simp only [List.length_append, List.length_take, List.length_cons, List.length_drop]; omega
    · omega
  · rw [pr]
    unfold scT
    split
    · rename_i hp
      show ((bl (List.drop _ _)).size : Int) = p
      rw [bl_size, List.length_drop]; omega
    · rename_i hp
      rw [if_neg (by simp)]; omega
theorem whT_empty {s : ByteArray} (h : s.size = 0) : tnK (whT (unS s)) = false := by
  have e : s.data.toList = [] := List.eq_nil_of_length_eq_zero (by rw [sz_list]; exact h)
  have es : s = bl [] := by rw [← bl_of s, e]
  rw [es]
  decide
theorem decT_empty {n : Bool} {z : List Int} {p : Int} (h : ¬ DOk n z p) : (decT n z p).size = 0 := by unfold decT; rw [if_neg h]; rfl
theorem rdD_igood {s u : ByteArray} {n : Bool} {c : Int} (hu : unS s = u) (hc : scT (cutT 46 u) = c) (h1 : tnK (whT u) = true) (h2 : decT (nz n (dg (tnV (whT u)))) (dg (tnV (whT u))) c = s) : rdD s = (nz n (dg (tnV (whT u))), dg (tnV (whT u)), c, true) := by
  subst hu; subst hc
  by_cases h : DOk (nz n (dg (tnV (whT (unS s))))) (dg (tnV (whT (unS s)))) (scT (cutT 46 (unS s)))
  · exact rdD_yes h h2
  · have h3 := decT_empty h
    rw [h2] at h3
    rw [whT_empty h3] at h1; cases h1
theorem nz_ok {n : Bool} {z : List Int} {p : Int} (h : DOk n z p) : nz n z = n := by
  have h1 := h.1.2
  unfold nz
  cases n
  · simp
  · cases z with
    | nil => simp_all
    | cons a l => simp
theorem rdD_ibad {s u : ByteArray} {n : Bool} {c : Int} (hu : unS s = u) (hn : sgK s = n) (hc : scT (cutT 46 u) = c) (h : ¬ ((cutT 46 u).length ≤ 2 ∧ u.size ≤ 100 ∧ tnK (whT u) = true ∧ decT (nz n (dg (tnV (whT u)))) (dg (tnV (whT u))) c = s)) : rdD s = (false, [], 0, false) := by
  subst hn; subst hu; subst hc
  refine rdD_no fun n z p h1 h2 => ?_
  obtain ⟨a, b, c, d, e, f⟩ := impl_read h1 h2
  exact h ⟨a, b, c, by rw [d, e, f, nz_ok h1]; exact h2⟩
theorem strip_doneL {t : ByteArray} {l : List UInt8} (hst : strip t.data.toList = strip l) (h : ¬ (1 < t.size) ∨ strB t 0 ≠ 48) : t = bl (strip l) := by
  have hs : strip t.data.toList = t.data.toList := by
    by_cases h1 : 1 < t.size
    · obtain ⟨a, b, l, e, ha⟩ := strip_cons h1
      rcases h with h | h
      · exact absurd h1 h
      · rw [e, strip, if_neg (fun ea => h (by rw [ha, ea]; rfl))]
    · have hl := sz_list t
      match e : t.data.toList, hl with
      | [], _ => rfl
      | [a], _ => rfl
      | a :: b :: l, hl => simp at hl; omega
  rw [← hst, hs, bl_of]
def strBs (s : ByteArray) : List Int := s.data.toList.map fun c => (c.toNat : Int)
theorem strBs_length (s : ByteArray) : (strBs s).length = s.size := by unfold strBs; rw [List.length_map, sz_list]
theorem strBs_get {s : ByteArray} {j : Nat} (h : j < s.size) : (strBs s).getD j 0 = strB s j := by
  have h2 : j < s.data.toList.length := by rw [sz_list]; exact h
  rw [strB_list h]
  unfold strBs
  rw [List.getD_eq_getElem?_getD, List.getD_eq_getElem?_getD, List.getElem?_map, List.getElem?_eq_getElem h2]
  rfl
theorem strB_part {s : ByteArray} {f e j : Nat} (h : f + j < e) (he : e ≤ s.size) : strB (s.extract f e) j = strB s (f + j) := by
  have h1 : j < (s.extract f e).size := by rw [ByteArray.size_extract]; omega
  rw [strB_list h1, strB_list (by omega)]
  congr 2
  simp only [ByteArray.data_extract, Array.toList_extract]
  rw [List.extract_eq_take_drop, List.getD_eq_getElem?_getD, List.getD_eq_getElem?_getD, List.getElem?_take_of_lt (by omega), List.getElem?_drop]
theorem strBs_part {s : ByteArray} {f e j : Nat} (h : f + j < e) (he : e ≤ s.size) : (strBs (s.extract f e)).getD j 0 = strB s (f + j) := by
  rw [strBs_get (by rw [ByteArray.size_extract]; omega), strB_part h he]
theorem strBs_plen {s : ByteArray} {f e : Nat} (h : f ≤ e) (he : e ≤ s.size) : (strBs (s.extract f e)).length = e - f := by
  rw [strBs_length, ByteArray.size_extract]; omega
theorem idx_one (b c : UInt8) : (0 ≤ Lib.indexByte [b] c) ↔ c = b := by
  unfold Lib.indexByte
  by_cases h : b = c
  · simp [h]
  · have : (b == c) = false := by simpa using h
    simp [this, Lib.indexByte, Ne.symm h]
theorem idx_str {t : ByteArray} {b : UInt8} (hb : t = ⟨#[b]⟩) (s : ByteArray) (j : Nat) : (0 ≤ Lib.indexByte t.data.toList (strB s j).toNat.toUInt8) ↔ strB s j = (b.toNat : Int) := by
  subst hb
  have e : (strB s j).toNat.toUInt8 = s[j]?.getD 0 := by
    unfold strB
    rw [Int.toNat_natCast]; exact UInt8.ofNat_toNat
  rw [e]
  show (0 ≤ Lib.indexByte [b] _) ↔ _
  rw [idx_one]
  unfold strB
  constructor
  · intro h; rw [h]
  · intro h; exact UInt8.toNat_inj.1 (by omega)
theorem sgK_yes {s : ByteArray} (h0 : 0 < s.size) (h : strB s 0 = 45) : sgK s = true := decide_eq_true ⟨h0, h⟩
theorem sgK_no {s : ByteArray} (h : s = ⟨#[]⟩ ∨ ¬ strB s 0 = 45) : sgK s = false := by
  unfold sgK
  rw [decide_eq_false_iff_not]
  rintro ⟨h1, h2⟩
  rcases h with h | h
  · rw [h] at h1; exact absurd h1 (by decide)
  · exact h h2
theorem unS_yes {s : ByteArray} (h : sgK s = true) : unS s = s.extract 1 s.size := by unfold unS; rw [if_pos h]
theorem unS_no {s : ByteArray} (h : sgK s = false) : unS s = s := by unfold unS; rw [if_neg (by rw [h]; decide)]
theorem scT_2 {l : List ByteArray} (h : ((l.length : Nat) : Int) = 2) : scT l = ((l.getD 1 ByteArray.empty).size : Int) := by unfold scT; rw [if_pos (by omega)]
theorem scT_n {l : List ByteArray} (h : ¬ ((l.length : Nat) : Int) = 2) : scT l = 0 := by unfold scT; rw [if_neg (by omega)]
theorem cutT_len {b : Int} {s : ByteArray} : (cutT b s).length ≤ s.size + 1 := by
  unfold cutT
  have := (cutGo_le (b := b) (s := s) s.size).2
  simp only [List.length_append, List.length_singleton]; omega
theorem jn_go {b : Int} {s : ByteArray} : ∀ i : Nat, i ≤ s.size → (jnT (cutGo b s i).1).length ≤ (cutGo b s i).2
  | 0, _ => Nat.zero_le _
  | i + 1, hi => by
    have ih := jn_go (b := b) (s := s) i (by omega)
    have h2 := cutGo_le (b := b) (s := s) i
    rw [cutGo]; split
    · show (jnT ((cutGo b s i).1 ++ [s.extract (cutGo b s i).2 i])).length ≤ i + 1
      rw [jn_len] at ih ⊢
      rw [List.map_append, List.sum_append]
      simp only [List.map_cons, List.map_nil, List.sum_cons, List.sum_nil, ByteArray.size_extract]
      omega
    · exact ih
theorem jn_cut {b : Int} {s : ByteArray} : (jnT (cutT b s)).length ≤ s.size := by
  have ih := jn_go (b := b) (s := s) s.size (Nat.le_refl _)
  have h2 := cutGo_le (b := b) (s := s) s.size
  unfold cutT
  rw [jn_len] at ih ⊢
  rw [List.map_append, List.sum_append]
  simp only [List.map_cons, List.map_nil, List.sum_cons, List.sum_nil, ByteArray.size_extract]
  omega
theorem cutGo_yes {b : Int} {s : ByteArray} {i : Nat} (h : strB s i = b) : cutGo b s (i + 1) = ((cutGo b s i).1 ++ [s.extract (cutGo b s i).2 i], i + 1) := by rw [cutGo, if_pos h]
theorem cutGo_no {b : Int} {s : ByteArray} {i : Nat} (h : ¬ strB s i = b) : cutGo b s (i + 1) = cutGo b s i := by rw [cutGo, if_neg h]
section
variable {P : Program} {n : Nat} {Q : Exit → Act → World → Prop} {fr fr' : Fr} {w : World} {ops : Array Oper} {rest : List Oper} {d : Nat} {ty : TypeId} {pos : String} {aft : Array Edge} {dst : Option Tmp} {g : Option (Nat × Bool)}
theorem px_subU8 {x y : Operand} {T U : TypeId} {a b : Int} (hx : ev fr x = some (.int .u8 a)) (hy : ev fr y = some (.int .u8 b)) (hr : 0 ≤ a - b ∧ a - b ≤ 255) : Px P n fr ⟨dst, .binOp .sub T x y U, ty, pos, aft, g⟩ (.int .u8 (a - b)) w :=
  fun c ha => by
    have e : IntKind.u8.wrap (a - b) = a - b := by
      have e : IntKind.u8.wrap (a - b) = (a - b) % 256 := by simp [IntKind.wrap, IntKind.bits, IntKind.signed]
      rw [e]; omega
    simp [execOp, ha.ev hx, ha.ev hy, eqGuard, binOp, Op.intArith, e]
theorem sx_convSB {x : Operand} {S T e : TypeId} {u : TypeDesc} {s : ByteArray} (hn : Nat.blt d n = true) (hS : P.underlying S = some u) (hT : P.underlying T = some (.slice e)) (he : P.underlying e = some (.int .u8)) (hx : ev fr x = some (.string s))
    (h : ∀ v' w', w'.heap.size = w.heap.size + 1 → SlB w' w.heap.size w'.heap.size v' (strBs s) → Chg 0 0 w w' → wl P n ops Q rest ((d, v') :: fr) w') :
    wl P n ops Q (⟨some d, .convert S T x, ty, pos, aft, none⟩ :: rest) fr w := by
  have hr := Lib.run_convert_string_bytes (P := P) w S T e s hS hT he
  have hz := Lib.bytesWorld_size w e s
  refine sx_val rfl rfl hn (fun a ha => by
    simp only [execOp, ha.ev hx]
    rw [run_bind_ok _ _ hr]; rfl) (h _ _ hz ⟨by simp, .inr ⟨w.heap.size, 0, _, _, e, _, by rw [strBs_length], ⟨by rw [strBs_length]; exact grownCap_ge w s.size 0 e, Nat.le_refl _⟩, by omega, Lib.bytesWorld_at_new w e s, fun j u hj => ?_⟩⟩ ⟨rfl, rfl, rfl, by omega, fun k hk _ => Lib.bytesWorld_at_old w e s k hk⟩)
  have hl : j < s.data.toList.length := by
    rcases Nat.lt_or_ge j s.data.toList.length with h' | h'
    · exact h'
    · rw [List.getElem?_eq_none (by simpa [strBs_length, sz_list] using h')] at hj; cases hj
  have hl2 : j < s.data.size := by simpa using hl
  unfold strBs at hj
  rw [List.getElem?_map, List.getElem?_map, List.getElem?_eq_getElem hl] at hj
  simp only [Option.map_some, Option.some.injEq] at hj
  unfold Lib.bytesCells
  rw [Nat.zero_add, Array.getElem?_append_left (by simpa using hl2), Array.getElem?_map, Array.getElem?_eq_getElem hl2]
  simp only [Option.map_some, ← hj]
  rfl
end
end Go.Proofs.YtoeclobdbblohaaGreatDoor

namespace Go.Proofs.YtoeclobdbblohaaGreatDoor
open Go Go.RowKit
theorem rdD_ok {s : ByteArray} (h : (rdD s).2.2.2 = true) : DOk (rdD s).1 (rdD s).2.1 (rdD s).2.2.1 ∧ decT (rdD s).1 (rdD s).2.1 (rdD s).2.2.1 = s := by
  by_cases hh : ∃ q, IsD s q
  · obtain ⟨⟨n, z, p⟩, h1, h2⟩ := hh
    rw [rdD_yes h1 h2]; exact ⟨h1, h2⟩
  · rw [rdD_no (fun n z p h1 h2 => hh ⟨(n, z, p), h1, h2⟩)] at h; cases h
noncomputable def rdX (s : ByteArray) : Int := vI (rdD s).1 (rdD s).2.1
noncomputable def rdP (s : ByteArray) : Int := (rdD s).2.2.1
noncomputable def rdK (s : ByteArray) : Bool := (rdD s).2.2.2
theorem rdX_of {x p : Int} {s : ByteArray} (h : DOk (ng x) (dg x.natAbs) p) (e : decT (ng x) (dg x.natAbs) p = s) : rdX s = x ∧ rdP s = p ∧ rdK s = true := by
  have e2 := rdD_yes h e
  unfold rdX rdP rdK
  rw [e2]
  exact ⟨vI_ng x, rfl, rfl⟩
theorem rdD_int (s : ByteArray) : (rdD s).1 = ng (rdX s) ∧ (rdD s).2.1 = dg (rdX s).natAbs := by
  by_cases hh : ∃ q, IsD s q
  · obtain ⟨⟨n, z, p⟩, h1, h2⟩ := hh
    have e := rdD_yes h1 h2
    obtain ⟨x, ex, ez, _⟩ := h1.int
    simp only at ex ez
    subst ex; subst ez
    rw [(rdX_of h1 h2).1, e]; exact ⟨rfl, rfl⟩
  · have e := rdD_no (s := s) (fun n z p h1 h2 => hh ⟨(n, z, p), h1, h2⟩)
    unfold rdX; rw [e]
    show false = ng (vI false []) ∧ [] = dg (vI false []).natAbs
    have : vI false [] = 0 := rfl
    rw [this]; exact ⟨rfl, dg_zero.symm⟩
theorem rdX_len (s : ByteArray) : (dg (rdX s).natAbs).length ≤ 6 := by rw [← (rdD_int s).2]; exact rdD_len s
theorem rdK_ok {s : ByteArray} (h : rdK s = true) : DOk (ng (rdX s)) (dg (rdX s).natAbs) (rdP s) ∧ decT (ng (rdX s)) (dg (rdX s).natAbs) (rdP s) = s := by
  have h1 := rdD_ok h
  rw [(rdD_int s).1, (rdD_int s).2] at h1
  exact h1
def cP (s : ByteArray) (i : Nat) : ByteArray := (cutT 32 s).getD i ByteArray.empty
noncomputable def rdM (s : ByteArray) : ByteArray × Int × Bool :=
  if (cutT 32 s).length = 2 ∧ rdK (cP s 1) = true ∧ MOk (cP s 0) (ng (rdX (cP s 1))) (dg (rdX (cP s 1)).natAbs) ∧ monT (cP s 0) (ng (rdX (cP s 1))) (dg (rdX (cP s 1)).natAbs) = s then (cP s 0, rdX (cP s 1), true) else (⟨#[]⟩, 0, false)
theorem rdM_yes {s : ByteArray} (h1 : (((cutT 32 s).length : Nat) : Int) = 2) (h2 : rdK (cP s 1) = true) (h3 : monT (cP s 0) (ng (rdX (cP s 1))) (dg (rdX (cP s 1)).natAbs) = s) (h4 : s ≠ ⟨#[]⟩) : rdM s = (cP s 0, rdX (cP s 1), true) := by
  have h5 := Decidable.byContradiction fun h5 => h4 (h3.symm.trans (monT_no h5))
  unfold rdM
  rw [if_pos ⟨by omega, h2, h5, h3⟩]
theorem monT_ne {c : ByteArray} {n : Bool} {z : List Int} (h : MOk c n z) : monT c n z ≠ ⟨#[]⟩ := fun e => by
  rw [monT_ok h] at e
  have := congrArg ByteArray.size e
  simp only [ByteArray.size_append] at this
  have h1 : (⟨#[32]⟩ : ByteArray).size = 1 := rfl
  have h2 : (⟨#[]⟩ : ByteArray).size = 0 := rfl
  omega
theorem rdM_no {s : ByteArray} (h : ¬ ((cutT 32 s).length = 2 ∧ rdK (cP s 1) = true ∧ MOk (cP s 0) (ng (rdX (cP s 1))) (dg (rdX (cP s 1)).natAbs) ∧ monT (cP s 0) (ng (rdX (cP s 1))) (dg (rdX (cP s 1)).natAbs) = s)) : rdM s = (⟨#[]⟩, 0, false) := by
  unfold rdM; rw [if_neg h]
theorem rdM_bad {s : ByteArray} (h : ¬ ((cutT 32 s).length = 2 ∧ rdK (cP s 1) = true ∧ monT (cP s 0) (ng (rdX (cP s 1))) (dg (rdX (cP s 1)).natAbs) = s ∧ s ≠ ⟨#[]⟩)) : rdM s = (⟨#[]⟩, 0, false) :=
  rdM_no fun ⟨a, b, c, d⟩ => h ⟨a, b, d, fun e => monT_ne c (d.trans e)⟩
theorem rdM_len (s : ByteArray) : (dg (rdM s).2.1.natAbs).length ≤ 4 := by
  unfold rdM; split
  · rename_i h; exact h.2.2.1.2.2
  · show (dg (0 : Int).natAbs).length ≤ 4
    rw [show dg (0 : Int).natAbs = [] from dg_zero]; simp
theorem mR_fine {c : ByteArray} {x : Int} (h : (mR c x).2.2.2 = true) : mR c x = (c, ng x, dg x.natAbs, true) ∧ MOk c (ng x) (dg x.natAbs) := by
  by_cases hm : MOk c (ng x) (dg x.natAbs)
  · exact ⟨mR_ok hm, hm⟩
  · rw [mR_no hm] at h; cases h
theorem mR_bad {c : ByteArray} {x : Int} (h : (mR c x).2.2.2 = false) : ¬ MOk c (ng x) (dg x.natAbs) := fun hm => by
  rw [mR_ok hm] at h; cases h
theorem own_nil0 {w : World} {lo hi : Nat} {e : TypeId} : OwnI w lo hi (.slice none 0 0) e (dg (0 : Int).natAbs) := by
  rw [show dg (0 : Int).natAbs = [] from dg_zero]; exact Own.nil _ _ _ _ _
theorem len_nil0 {k : Nat} : (dg (0 : Int).natAbs).length ≤ k := by
  rw [show dg (0 : Int).natAbs = [] from dg_zero]; exact Nat.zero_le _
noncomputable def rdR (s : ByteArray) : ByteArray × ByteArray × Int × Int × Bool :=
  if (cutT 32 s).length = 3 ∧ rdK (cP s 2) = true ∧ RateP (cP s 0) (cP s 1) (ng (rdX (cP s 2))) (dg (rdX (cP s 2)).natAbs) (rdP (cP s 2)) then (cP s 0, cP s 1, rdX (cP s 2), rdP (cP s 2), true) else (⟨#[]⟩, ⟨#[]⟩, 0, 0, false)
theorem rdR_yes {s : ByteArray} (h1 : (((cutT 32 s).length : Nat) : Int) = 3) (h2 : rdK (cP s 2) = true) (h3 : RateP (cP s 0) (cP s 1) (ng (rdX (cP s 2))) (dg (rdX (cP s 2)).natAbs) (rdP (cP s 2))) : rdR s = (cP s 0, cP s 1, rdX (cP s 2), rdP (cP s 2), true) := by
  unfold rdR; rw [if_pos ⟨by omega, h2, h3⟩]
theorem rdR_no {s : ByteArray} (h : ¬ ((cutT 32 s).length = 3 ∧ rdK (cP s 2) = true ∧ RateP (cP s 0) (cP s 1) (ng (rdX (cP s 2))) (dg (rdX (cP s 2)).natAbs) (rdP (cP s 2)))) : rdR s = (⟨#[]⟩, ⟨#[]⟩, 0, 0, false) := by
  unfold rdR; rw [if_neg h]
theorem rdR_len (s : ByteArray) : (dg (rdR s).2.2.1.natAbs).length ≤ 2 := by
  unfold rdR; split
  · rename_i h; exact h.2.2.2.2.2.2.2
  · exact len_nil0
theorem cut_glue {b : UInt8} {s : ByteArray} : ∀ i : Nat, i ≤ s.size → s.data.toList.take (cutGo (b.toNat : Int) s i).2 = (cutGo (b.toNat : Int) s i).1.flatMap fun p => p.data.toList ++ [b]
  | 0, _ => by simp [cutGo]
  | i + 1, hi => by
    have ih := cut_glue (b := b) (s := s) i (by omega)
    have hle := (cutGo_le (b := (b.toNat : Int)) (s := s) i).1
    rw [cutGo]; split
    · rename_i hb
      have hl : i < s.data.toList.length := by rw [sz_list]; omega
      have hc := strB_mem (by omega) hb
      show s.data.toList.take (i + 1) = ((cutGo (b.toNat : Int) s i).1 ++ [s.extract (cutGo (b.toNat : Int) s i).2 i]).flatMap fun p => p.data.toList ++ [b]
      rw [List.flatMap_append, ← ih, List.take_succ_eq_append_getElem hl]
      have e1 : s.data.toList[i] = b := by
        rw [List.getD_eq_getElem?_getD, List.getElem?_eq_getElem hl, Option.getD_some] at hc; exact hc
      have e2 : (s.extract (cutGo (b.toNat : Int) s i).2 i).data.toList = (s.data.toList.drop (cutGo (b.toNat : Int) s i).2).take (i - (cutGo (b.toNat : Int) s i).2) := by
        simp only [ByteArray.data_extract, Array.toList_extract]
      simp only [List.flatMap_cons, List.flatMap_nil, List.append_nil, e1, e2]
      rw [← List.append_assoc]
      congr 1
      have := List.take_append_drop (cutGo (b.toNat : Int) s i).2 (s.data.toList.take i)
      rw [List.take_take, Nat.min_eq_left hle, List.drop_take] at this
      exact this.symm
    · exact ih
theorem cut_back3 {s x y z : ByteArray} (h : cutT 32 s = [x, y, z]) : x ++ ⟨#[32]⟩ ++ y ++ ⟨#[32]⟩ ++ z = s := by
  have g := cut_glue (b := 32) (s := s) s.size (Nat.le_refl _)
  have hle := (cutGo_le (b := 32) (s := s) s.size).1
  unfold cutT at h
  have h1 : (cutGo 32 s s.size).1 = [x, y] ∧ s.extract (cutGo 32 s s.size).2 s.size = z := by
    have h2 : (cutGo 32 s s.size).1 ++ [s.extract (cutGo 32 s s.size).2 s.size] = [x, y] ++ [z] := h
    have h3 := List.append_inj' h2 rfl
    exact ⟨h3.1, by simpa using h3.2⟩
  have g' : s.data.toList.take (cutGo 32 s s.size).2 = (cutGo 32 s s.size).1.flatMap fun p => p.data.toList ++ [32] := g
  rw [h1.1] at g'
  have e2 : z.data.toList = s.data.toList.drop (cutGo 32 s s.size).2 := by
    rw [← h1.2]
    simp only [ByteArray.data_extract, Array.toList_extract]
    rw [List.extract_eq_take_drop, List.take_of_length_le (by rw [List.length_drop, sz_list]; exact Nat.le_refl _)]
  apply ba_ext
  have := List.take_append_drop (cutGo 32 s s.size).2 s.data.toList
  rw [g', ← e2] at this
  rw [← this]
  simp only [ByteArray.data_append, Array.toList_append, List.flatMap_cons, List.flatMap_nil, List.append_nil, List.append_assoc, List.cons_append, List.nil_append]
theorem cut_rate {s : ByteArray} (h1 : (((cutT 32 s).length : Nat) : Int) = 3) (h2 : rdK (cP s 2) = true) (h3 : RateP (cP s 0) (cP s 1) (ng (rdX (cP s 2))) (dg (rdX (cP s 2)).natAbs) (rdP (cP s 2))) : ratT (cP s 0) (cP s 1) (ng (rdX (cP s 2))) (dg (rdX (cP s 2)).natAbs) (rdP (cP s 2)) = s := by
  rw [ratT_ok h3, (rdK_ok h2).2]
  have : cutT 32 s = [cP s 0, cP s 1, cP s 2] := by
    unfold cP
    generalize cutT 32 s = l at h1
    match l, h1 with
    | [a, b, c], _ => rfl
    | [], h => simp at h
    | [a], h => simp at h
    | [a, b], h => simp at h
    | a :: b :: c :: d :: l, h => simp at h; omega
  exact cut_back3 this
theorem known_32 {c : ByteArray} (h : Known c) : (32 : UInt8) ∉ c.data.toList := by
  unfold Known at h
  obtain ⟨x, hx⟩ := Option.isSome_iff_exists.1 h
  have hm := List.mem_of_find?_eq_some hx
  have hp := List.find?_some hx
  have hp' : x.code = c := by simpa using hp
  subst hp'
  exact (show ∀ x ∈ tabI, (32 : UInt8) ∉ x.code.data.toList by decide) x hm
theorem decT_32 {n : Bool} {z : List Int} {p : Int} (h : DOk n z p) : (32 : UInt8) ∉ (decT n z p).data.toList := by
  have d := (decT_digits h).1
  have hno : (32 : UInt8) ∉ (padT (natT z) (p + 1)).data.toList := fun hc => by have := d 32 hc; simp at this
  rw [decT_list h]
  intro hc
  rcases List.mem_append.1 hc with hc | hc
  · split at hc <;> simp at hc
  · split at hc
    · rcases List.mem_append.1 hc with hc | hc
      · exact hno (List.mem_of_mem_take hc)
      · rcases List.mem_cons.1 hc with hc | hc
        · exact absurd hc (by decide)
        · exact hno (List.mem_of_mem_drop hc)
    · exact hno hc
theorem cut_two {b : UInt8} {s : ByteArray} {x y : List UInt8} (h : s.data.toList = x ++ b :: y) (hx : b ∉ x) : cutT (b.toNat : Int) s = bl x :: cutT (b.toNat : Int) (bl y) := by
  have hs : s.size = x.length + 1 + y.length := by rw [← sz_list, h]; simp; omega
  have h1 := cutGo_from (b := (b.toNat : Int)) (s := s) (q := 0) x.length (fun j _ hj => strB_ne (by omega) (fun e => by
    rw [h, List.getD_eq_getElem?_getD, List.getElem?_append_left (by omega), List.getElem?_eq_getElem (by omega), Option.getD_some] at e
    exact hx (e ▸ List.getElem_mem _)))
  rw [Nat.zero_add] at h1
  have e : strB s x.length = (b.toNat : Int) := by rw [strB_list (by omega), h]; simp
  have at_ : ∀ k, k < y.length → strB s (x.length + 1 + k) = strB (bl y) k := fun k hk => by
    rw [strB_list (by omega), strB_list (by rw [bl_size]; exact hk), bl_list, h]
    congr 2
    rw [List.getD_eq_getElem?_getD, List.getD_eq_getElem?_getD, List.getElem?_append_right (by omega), show x.length + 1 + k - x.length = k + 1 by omega, List.getElem?_cons_succ]
  have part : ∀ f i, f ≤ i → i ≤ y.length → s.extract (x.length + 1 + f) (x.length + 1 + i) = (bl y).extract f i := fun f i hf hi => ba_ext (by
    simp only [ByteArray.data_extract, Array.toList_extract, bl_list]
    rw [List.extract_eq_take_drop, List.extract_eq_take_drop, h, show x.length + 1 + i - (x.length + 1 + f) = i - f by omega]
    congr 1
    rw [show x ++ b :: y = (x ++ [b]) ++ y by simp, show x.length + 1 + f = (x ++ [b]).length + f by simp, List.drop_append]
    simp)
  have go : ∀ i, i ≤ y.length → (cutGo (b.toNat : Int) s (x.length + 1 + i)).1 = bl x :: (cutGo (b.toNat : Int) (bl y) i).1 ∧ (cutGo (b.toNat : Int) s (x.length + 1 + i)).2 = x.length + 1 + (cutGo (b.toNat : Int) (bl y) i).2 := by
    intro i
    induction i with
    | zero =>
      intro _
      rw [Nat.add_zero, cutGo_yes e, h1]
      have e1 : s.extract 0 x.length = bl x := ba_ext (by
        simp only [ByteArray.data_extract, Array.toList_extract, bl_list]
        rw [List.extract_eq_take_drop, h]; simp)
      exact ⟨by show [] ++ [s.extract 0 x.length] = _; rw [e1]; rfl, rfl⟩
    | succ i ih =>
      intro hi
      have ih := ih (by omega)
      have hq := at_ i (by omega)
      have hle := (cutGo_le (b := (b.toNat : Int)) (s := bl y) i).1
      show (cutGo (b.toNat : Int) s (x.length + 1 + i + 1)).1 = _ ∧ (cutGo (b.toNat : Int) s (x.length + 1 + i + 1)).2 = _
      by_cases hb : strB (bl y) i = (b.toNat : Int)
      · rw [cutGo_yes (hq.trans hb), cutGo_yes hb]
        refine ⟨?_, by show x.length + 1 + i + 1 = x.length + 1 + (i + 1); omega⟩
        show (cutGo (b.toNat : Int) s (x.length + 1 + i)).1 ++ [s.extract (cutGo (b.toNat : Int) s (x.length + 1 + i)).2 (x.length + 1 + i)] = bl x :: ((cutGo (b.toNat : Int) (bl y) i).1 ++ [(bl y).extract (cutGo (b.toNat : Int) (bl y) i).2 i])
        rw [ih.1, ih.2, part _ _ hle (by omega)]; rfl
      · rw [cutGo_no (fun h5 => hb (hq.symm.trans h5)), cutGo_no hb]; exact ih
  have hg := go y.length (Nat.le_refl _)
  unfold cutT
  rw [hs, hg.1, hg.2, bl_size, part _ _ (by have := (cutGo_le (b := (b.toNat : Int)) (s := bl y) y.length).1; exact this) (Nat.le_refl _)]
  rfl
theorem rdM_text {c : ByteArray} {x : Int} (h : MOk c (ng x) (dg x.natAbs)) (hd : DOk (ng x) (dg x.natAbs) (curOf c).places) : rdM (monT c (ng x) (dg x.natAbs)) = (c, x, true) := by
  have e := monT_ok h
  have hl : (monT c (ng x) (dg x.natAbs)).data.toList = c.data.toList ++ 32 :: (decT (ng x) (dg x.natAbs) (curOf c).places).data.toList := by
    rw [e]; simp
  have hc : cutT 32 (monT c (ng x) (dg x.natAbs)) = [c, decT (ng x) (dg x.natAbs) (curOf c).places] := by
    have := cut_one (b := 32) hl (known_32 h.1) (decT_32 hd)
    rw [bl_of, bl_of] at this; exact this
  have c0 : cP (monT c (ng x) (dg x.natAbs)) 0 = c := by unfold cP; rw [hc]; rfl
  have c1 : cP (monT c (ng x) (dg x.natAbs)) 1 = decT (ng x) (dg x.natAbs) (curOf c).places := by unfold cP; rw [hc]; rfl
  have hx := rdX_of hd rfl
  have := rdM_yes (s := monT c (ng x) (dg x.natAbs)) (by rw [hc]; rfl) (by rw [c1]; exact hx.2.2) (by rw [c1, c0, hx.1]) (monT_ne h)
  rw [this, c0, c1, hx.1]
theorem rdR_text {f t : ByteArray} {x p : Int} (h : RateP f t (ng x) (dg x.natAbs) p) : rdR (ratT f t (ng x) (dg x.natAbs) p) = (f, t, x, p, true) := by
  have e := ratT_ok h
  have hd := h.2.2.2.1
  have hl : (ratT f t (ng x) (dg x.natAbs) p).data.toList = f.data.toList ++ 32 :: (t.data.toList ++ 32 :: (decT (ng x) (dg x.natAbs) p).data.toList) := by
    rw [e]; simp
  have hc : cutT 32 (ratT f t (ng x) (dg x.natAbs) p) = [f, t, decT (ng x) (dg x.natAbs) p] := by
    have h1 := cut_two (b := 32) hl (known_32 h.1)
    have h2 := cut_one (b := 32) (s := bl (t.data.toList ++ 32 :: (decT (ng x) (dg x.natAbs) p).data.toList)) rfl (known_32 h.2.1) (decT_32 hd)
    rw [h2, bl_of, bl_of, bl_of] at h1; exact h1
  have c0 : cP (ratT f t (ng x) (dg x.natAbs) p) 0 = f := by unfold cP; rw [hc]; rfl
  have c1 : cP (ratT f t (ng x) (dg x.natAbs) p) 1 = t := by unfold cP; rw [hc]; rfl
  have c2 : cP (ratT f t (ng x) (dg x.natAbs) p) 2 = decT (ng x) (dg x.natAbs) p := by unfold cP; rw [hc]; rfl
  have hx := rdX_of hd rfl
  have := rdR_yes (s := ratT f t (ng x) (dg x.natAbs) p) (by rw [hc]; rfl) (by rw [c2]; exact hx.2.2) (by rw [c0, c1, c2, hx.1, hx.2.1]; exact h)
  rw [this, c0, c1, c2, hx.1, hx.2.1]
end Go.Proofs.YtoeclobdbblohaaGreatDoor
namespace Go.Proofs.YtoeclobdbblohaaGreatDoor
open Go Go.RowKit
theorem nt {a : Bool} (h : (!a) = true) (h2 : a = true) : False := by rw [h2] at h; cases h
theorem nff {a : Bool} (h : (!a) = true) : a = false := by cases a <;> first | rfl | cases h
theorem nf {a : Bool} (h : (!a) = false) : a = true := by cases a <;> first | rfl | cases h
theorem part_size {b : Int} {s : ByteArray} (i : Nat) : ((cutT b s).getD i ByteArray.empty).size ≤ s.size := by
  have h := jn_cut (b := b) (s := s)
  rw [jn_len] at h
  rw [List.getD_eq_getElem?_getD]
  rcases Nat.lt_or_ge i (cutT b s).length with hi | hi
  · rw [List.getElem?_eq_getElem hi, Option.getD_some]
    have hm : ∀ (l : List ByteArray) (x : ByteArray), x ∈ l → x.size ≤ (l.map ByteArray.size).sum := by
      intro l
      induction l with
      | nil => intro x hx; cases hx
      | cons a l ih =>
        intro x hx
        simp only [List.map_cons, List.sum_cons]
        rcases List.mem_cons.1 hx with hx | hx
        · subst hx; omega
        · have := ih x hx; omega
    exact Nat.le_trans (hm _ _ (List.getElem_mem hi)) h
  · rw [List.getElem?_eq_none hi]; exact Nat.zero_le _
end Go.Proofs.YtoeclobdbblohaaGreatDoor
