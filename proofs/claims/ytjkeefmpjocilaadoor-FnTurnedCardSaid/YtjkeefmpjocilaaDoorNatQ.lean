/- Plain lemmas on numbers and lists; no program in sight. Conditions: none. -/
import Derived.Test.YtjkeefmpjocilaaDoorNatB
import Derived.Test.YtjkeefmpjocilaaDoorSxE
set_option linter.unusedVariables false
set_option linter.unusedSimpArgs false
namespace Go.Proofs.YtjkeefmpjocilaaDoor
open Go Go.RowKit
/-! ### sums of money -/
def sumTo (ts : List Mt) : Nat → Int
  | 0 => 0
  | k + 1 => sumTo ts k + vI (ts.getD k mt0).2.1 (ts.getD k mt0).2.2
def AllM (c : ByteArray) (ts : List Mt) (k : Nat) : Prop := ∀ i, i < k → MOk (ts.getD i mt0).1 (ts.getD i mt0).2.1 (ts.getD i mt0).2.2 ∧ (ts.getD i mt0).1 = c
instance (c : ByteArray) (ts : List Mt) (k : Nat) : Decidable (AllM c ts k) := by unfold AllM; infer_instance
def msum (c : ByteArray) (ts : List Mt) : ByteArray × Bool × List Int × Bool := if AllM c ts ts.length then mR c (sumTo ts ts.length) else noM
theorem AllM_zero (c : ByteArray) (ts : List Mt) : AllM c ts 0 := fun i hi => by omega
theorem AllM_succ {c : ByteArray} {ts : List Mt} {k : Nat} (h : AllM c ts k) (h1 : MOk (ts.getD k mt0).1 (ts.getD k mt0).2.1 (ts.getD k mt0).2.2) (h2 : (ts.getD k mt0).1 = c) : AllM c ts (k + 1) := fun i hi => by
  by_cases e : i = k
  · subst e; exact ⟨h1, h2⟩
  · exact h i (by omega)
theorem msum_no {c : ByteArray} {ts : List Mt} {k : Nat} (hk : k < ts.length) (h : ¬ (MOk (ts.getD k mt0).1 (ts.getD k mt0).2.1 (ts.getD k mt0).2.2 ∧ (ts.getD k mt0).1 = c)) : msum c ts = noM := by unfold msum; rw [if_neg (fun h9 => h (h9 k hk))]
theorem msum_ok {c : ByteArray} {ts : List Mt} (h : AllM c ts ts.length) : msum c ts = mR c (sumTo ts ts.length) := by unfold msum; rw [if_pos h]
theorem msum_len {c : ByteArray} {ts : List Mt} : (msum c ts).2.2.1.length ≤ 4 := by
  unfold msum; split
  · exact mR_len
  · simp [noM]
theorem msum_bd {c : ByteArray} {ts : List Mt} : ∀ {k : Nat}, AllM c ts k → (sumTo ts k).natAbs ≤ k * Bs ^ 4
  | 0, _ => by simp [sumTo]
  | k + 1, h => by
    have h1 := msum_bd (k := k) (fun i hi => h i (by omega))
    obtain ⟨x, e1, e2, e3⟩ := (h k (by omega)).1.int
    have h2 := lt_of_dg_len e3
    show (sumTo ts k + vI _ _).natAbs ≤ _
    rw [e1, e2, vI_ng, Nat.add_mul, Nat.one_mul]
    omega
theorem msumTo_len {c : ByteArray} {ts : List Mt} {k : Nat} (h : AllM c ts k) (hk : k ≤ 4611686018427387904) : (dg (sumTo ts k).natAbs).length ≤ 7 := by
  refine dg_len_le (Nat.lt_of_le_of_lt (msum_bd h) (Nat.lt_of_le_of_lt (Nat.mul_le_mul_right _ hk) ?_))
  decide
end Go.Proofs.YtjkeefmpjocilaaDoor
