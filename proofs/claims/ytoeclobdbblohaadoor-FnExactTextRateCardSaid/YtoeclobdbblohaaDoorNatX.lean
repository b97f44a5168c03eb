/- Plain lemmas on numbers and lists; no program in sight. Conditions: none. -/
import Derived.Test.YtoeclobdbblohaaDoorNatI
import Derived.Test.YtoeclobdbblohaaDoorSxD
import Derived.Lib.ItoaNum
import Derived.Lib.Repeat
set_option linter.unusedVariables false
set_option linter.unusedSimpArgs false
namespace Go.Proofs.YtoeclobdbblohaaDoor
open Go Go.RowKit
/-! ### texts of numbers -/
def itx (n : Int) : ByteArray := ⟨(Lib.itoa n).toArray⟩
def zer (k : Nat) : ByteArray := ⟨(Lib.repeatL [48] k).toArray⟩
def padT (s : ByteArray) (n : Int) : ByteArray := if n ≤ (s.size : Int) ∨ 2000 < n then s else zer (n - (s.size : Int)).toNat ++ s
def natGo (z : List Int) : Nat → ByteArray → ByteArray
  | 0, t => t
  | i + 1, t => natGo z i (t ++ padT (itx (z.getD i 0)) 9)
def natT (z : List Int) : ByteArray := if z.length = 0 then ⟨#[48]⟩ else natGo z (z.length - 1) (itx (z.getD (z.length - 1) 0))
def ptT (t : ByteArray) (p : Int) : ByteArray := if 0 < p then t.extract 0 (t.size - p.toNat) ++ ⟨#[46]⟩ ++ t.extract (t.size - p.toNat) t.size else t
def sgT (n : Bool) (t : ByteArray) : ByteArray := if n = true then ⟨#[45]⟩ ++ t else t
def decT (n : Bool) (z : List Int) (p : Int) : ByteArray := if DOk n z p then sgT n (ptT (padT (natT z) (p + 1)) p) else ⟨#[]⟩
theorem decT_no {n : Bool} {z : List Int} {p : Int} (h : ¬ DOk n z p) : decT n z p = ⟨#[]⟩ := by unfold decT; rw [if_neg h]
theorem ba_ext {a b : ByteArray} (h : a.data.toList = b.data.toList) : a = b := by
  cases a; cases b
  simp only [ByteArray.mk.injEq]
  exact Array.ext' h
theorem zer_zero (s : ByteArray) : zer 0 ++ s = s := ba_ext (by simp [zer, Lib.repeatL])
theorem zer_succ (j : Nat) (s : ByteArray) : (⟨#[48]⟩ : ByteArray) ++ (zer j ++ s) = zer (j + 1) ++ s := ba_ext (by simp [zer, Lib.repeatL])
theorem zer_size (k : Nat) : (zer k).size = k := by
  show (Lib.repeatL [48] k).toArray.size = k
  rw [List.size_toArray, Lib.repeatL_length]; simp
theorem padT_no {s : ByteArray} {n : Int} (h : n ≤ (s.size : Int) ∨ 2000 < n) : padT s n = s := by unfold padT; rw [if_pos h]
theorem padT_yes {s : ByteArray} {n : Int} (h : ¬ (n ≤ (s.size : Int) ∨ 2000 < n)) : padT s n = zer (n - (s.size : Int)).toNat ++ s := by unfold padT; rw [if_neg h]
theorem padT_size {s : ByteArray} {n : Int} (h : n ≤ 2000) : ((padT s n).size : Int) = max n (s.size : Int) := by
  unfold padT; split
  · omega
  · rw [ByteArray.size_append, zer_size]; omega
theorem itx_size {n : Int} (h0 : 0 ≤ n) (h1 : n < 1000000000) : 1 ≤ (itx n).size ∧ (itx n).size ≤ 9 := by
  have e : (itx n).size = Lib.nDigits n.toNat := by
    show (Lib.itoa n).toArray.size = _
    rw [List.size_toArray]; unfold Lib.itoa; rw [if_neg (by omega), Lib.decDigits_length]
  rw [e]
  refine ⟨Lib.nDigits_pos _, ?_⟩
  have h := Lib.lt_pow_nDigits n.toNat
  rcases Nat.lt_or_ge (Lib.nDigits n.toNat) 10 with h2 | h2
  · omega
  · exfalso
    have key : ∀ k u : Nat, u < 10 ^ (k + 1) → Lib.nDigits u ≤ k + 1 := by
      intro k
      induction k with
      | zero => intro u hu; rw [Lib.nDigits_small (by omega)]; exact Nat.le_refl _
      | succ k ih =>
        intro u hu
        by_cases hs : u < 10
        · rw [Lib.nDigits_small hs]; omega
        · rw [Lib.nDigits_big hs]
          have := ih (u / 10) (by rw [Nat.div_lt_iff_lt_mul (by decide)]; rw [Nat.pow_succ] at hu; exact hu)
          omega
    have := key 8 n.toNat (by omega)
    omega
theorem natGo_step {z : List Int} {k : Nat} {t : ByteArray} (hk : 0 < k) : natGo z k t = natGo z (k - 1) (t ++ padT (itx (z.getD (k - 1) 0)) 9) := by
  cases k with
  | zero => omega
  | succ k => rfl
theorem natGo_size {z : List Int} (hz : Lm z) : ∀ (i : Nat) (t : ByteArray), (natGo z i t).size = t.size + 9 * i
  | 0, t => rfl
  | i + 1, t => by
    show (natGo z i _).size = _
    have hb := hz.getD i
    have h1 := itx_size hb.1 hb.2
    have h2 := padT_size (s := itx (z.getD i 0)) (n := 9) (by decide)
    rw [natGo_size hz i, ByteArray.size_append]
    omega
theorem natT_size {z : List Int} (hz : Lm z) : 1 ≤ (natT z).size ∧ (natT z).size ≤ 9 * z.length + 1 := by
  unfold natT; split
  · exact ⟨Nat.le_refl _, Nat.le_add_left _ _⟩
  · have hb := hz.getD (z.length - 1)
    have h1 := itx_size hb.1 hb.2
    rw [natGo_size hz]; omega
theorem itx_step {n m : Int} {s : ByteArray} (hm : 9 < m) (h : Lib.decDigits n.toNat = Lib.decDigits m.toNat ++ s.data.toList) :
    Lib.decDigits n.toNat = Lib.decDigits (m / 10).toNat ++ (byteS (48 + m % 10) ++ s).data.toList := by
  have e1 : Lib.decDigits m.toNat = Lib.decDigits (m.toNat / 10) ++ [UInt8.ofNat (48 + m.toNat % 10)] := by
    conv => lhs; rw [Lib.decDigits, dif_neg (by omega)]
  have e2 : (m / 10).toNat = m.toNat / 10 := by omega
  have e3 : (48 + m % 10).toNat = 48 + m.toNat % 10 := by omega
  rw [h, e1, e2]
  simp [byteS, e3]
theorem itx_end {n m : Int} {s : ByteArray} (hn : 0 ≤ n) (hm : 0 ≤ m ∧ m ≤ 9) (h : Lib.decDigits n.toNat = Lib.decDigits m.toNat ++ s.data.toList) : byteS (48 + m) ++ s = itx n := by
  apply ba_ext
  have e3 : (48 + m).toNat = 48 + m.toNat := by omega
  show _ = (Lib.itoa n)
  unfold Lib.itoa
  rw [if_neg (by omega), h, Lib.decDigits_one (by omega)]
  simp [byteS, e3]
theorem known_size {c : ByteArray} (h : Known c) : c.size ≤ 3 := by
  unfold Known at h
  obtain ⟨x, hx⟩ := Option.isSome_iff_exists.1 h
  have hm := List.mem_of_find?_eq_some hx
  have hp := List.find?_some hx
  have hp' : x.code = c := by simpa using hp
  subst hp'
  exact (show ∀ x ∈ tabI, x.code.size ≤ 3 by decide) x hm
def monT (c : ByteArray) (n : Bool) (z : List Int) : ByteArray := if MOk c n z then c ++ ⟨#[32]⟩ ++ decT n z (curOf c).places else ⟨#[]⟩
theorem monT_no {c : ByteArray} {n : Bool} {z : List Int} (h : ¬ MOk c n z) : monT c n z = ⟨#[]⟩ := by unfold monT; rw [if_neg h]
theorem monT_ok {c : ByteArray} {n : Bool} {z : List Int} (h : MOk c n z) : monT c n z = c ++ ⟨#[32]⟩ ++ decT n z (curOf c).places := by unfold monT; rw [if_pos h]
def ratT (f t : ByteArray) (n : Bool) (z : List Int) (p : Int) : ByteArray := if RateP f t n z p then f ++ ⟨#[32]⟩ ++ t ++ ⟨#[32]⟩ ++ decT n z p else ⟨#[]⟩
theorem ratT_no {f t : ByteArray} {n : Bool} {z : List Int} {p : Int} (h : ¬ RateP f t n z p) : ratT f t n z p = ⟨#[]⟩ := by unfold ratT; rw [if_neg h]
theorem ratT_ok {f t : ByteArray} {n : Bool} {z : List Int} {p : Int} (h : RateP f t n z p) : ratT f t n z p = f ++ ⟨#[32]⟩ ++ t ++ ⟨#[32]⟩ ++ decT n z p := by unfold ratT; rw [if_pos h]
end Go.Proofs.YtoeclobdbblohaaDoor
