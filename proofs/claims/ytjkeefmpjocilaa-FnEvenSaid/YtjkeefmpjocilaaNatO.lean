/- Plain lemmas on numbers and lists; no program in sight. Conditions: none. -/
import Derived.Test.YtjkeefmpjocilaaNatJ
import Derived.Test.YtjkeefmpjocilaaSxB
set_option linter.unusedVariables false
set_option linter.unusedSimpArgs false
namespace Go.Proofs.Ytjkeefmpjocilaa
open Go Go.RowKit
/-! ### the texts of marks -/
def mdig : Nat → Int → ByteArray → ByteArray
  | 0, _, s => s
  | f + 1, m, s => if m ≤ 0 then s else mdig f (m / 10) (byteS (48 + m % 10) ++ s)
theorem mdig_fuel : ∀ (f g : Nat) (m : Int) (s : ByteArray), m.toNat ≤ f → m.toNat ≤ g → mdig f m s = mdig g m s
  | 0, 0, _, _, _, _ => rfl
  | 0, g + 1, m, s, h, _ => by rw [mdig, mdig, if_pos (by omega)]
  | f + 1, 0, m, s, _, h => by rw [mdig, mdig, if_pos (by omega)]
  | f + 1, g + 1, m, s, h1, h2 => by
    rw [mdig, mdig]
    by_cases h : m ≤ 0
    · rw [if_pos h, if_pos h]
    · rw [if_neg h, if_neg h]; exact mdig_fuel f g _ _ (by omega) (by omega)
theorem mdig_next {m : Int} {s : ByteArray} (h : 0 < m) : mdig m.toNat m s = mdig (m / 10).toNat (m / 10) (byteS (48 + m % 10) ++ s) := by
  have e : m.toNat = (m.toNat - 1) + 1 := by omega
  rw [e, mdig, if_neg (by omega)]
  exact mdig_fuel _ _ _ _ (by omega) (Nat.le_refl _)
theorem mdig_end {m : Int} {s : ByteArray} (h : ¬ 0 < m) (h0 : 0 ≤ m) : mdig m.toNat m s = s := by
  have : m = 0 := by omega
  subst this; rfl
def mText (n : Int) : ByteArray := if n ≤ 0 then ⟨#[109, 48]⟩ else ⟨#[109]⟩ ++ mdig n.toNat n ⟨#[]⟩
def mkS (n : Int) (k : Nat) : List ByteArray := (List.range k).map fun i : Nat => mText (n + (i : Int))
theorem mkS_length (n : Int) (k : Nat) : (mkS n k).length = k := by simp [mkS]
theorem mkS_getD {n : Int} {k i : Nat} (h : i < k) : (mkS n k).getD i ByteArray.empty = mText (n + i) := by simp [mkS, h]
theorem mkS_set {n : Int} {k : Nat} {os : List ByteArray} (h : os.take k = mkS n k) (hk : k < os.length) : (os.set k (mText (n + k))).take (k + 1) = mkS n (k + 1) := by
  rw [List.take_succ_eq_append_getElem (by simpa using hk)]
  simp only [List.take_set_of_le (Nat.le_refl k), List.getElem_set_self, h]
  simp [mkS, List.range_succ]
theorem s_take_succ_eq {zs ys : List ByteArray} {k : Nat} (h : zs.take k = ys.take k) (h1 : k < zs.length) (h2 : k < ys.length) (e : zs.getD k ByteArray.empty = ys.getD k ByteArray.empty) : zs.take (k + 1) = ys.take (k + 1) := by
  rw [List.take_succ_eq_append_getElem h1, List.take_succ_eq_append_getElem h2, h]
  have e1 : zs.getD k ByteArray.empty = zs[k] := by simp [List.getElem?_eq_getElem h1]
  have e2 : ys.getD k ByteArray.empty = ys[k] := by simp [List.getElem?_eq_getElem h2]
  rw [e1, e2] at e; rw [e]
theorem s_ne {zs ys : List ByteArray} {k : Nat} (e : zs.getD k ByteArray.empty ≠ ys.getD k ByteArray.empty) : zs ≠ ys := fun h => e (by rw [h])
/-- the currencies of a rate -/
def path (pv : ByteArray) (ts : List Rt) (a b : ByteArray) : List ByteArray := if how pv ts a b = 1 then [a] else if how pv ts a b = 2 ∨ how pv ts a b = 3 then [a, b] else if how pv ts a b = 4 then [a, pv, b] else []
theorem path_len {pv : ByteArray} {ts : List Rt} {a b : ByteArray} : (path pv ts a b).length ≤ 3 := by
  unfold path; split
  · simp
  · split
    · simp
    · split <;> simp
theorem path_1 {pv : ByteArray} {ts : List Rt} {a b : ByteArray} (h : how pv ts a b = 1) : path pv ts a b = [a] := by unfold path; rw [if_pos h]
theorem path_2 {pv : ByteArray} {ts : List Rt} {a b : ByteArray} (h : how pv ts a b = 2 ∨ how pv ts a b = 3) : path pv ts a b = [a, b] := by unfold path; rw [if_neg (by omega), if_pos h]
theorem path_4 {pv : ByteArray} {ts : List Rt} {a b : ByteArray} (h : how pv ts a b = 4) : path pv ts a b = [a, pv, b] := by unfold path; rw [if_neg (by omega), if_neg (by omega), if_pos h]
theorem path_0 {pv : ByteArray} {ts : List Rt} {a b : ByteArray} (h : ¬ how pv ts a b = 1) (h2 : ¬ (how pv ts a b = 2 ∨ how pv ts a b = 3)) (h4 : ¬ how pv ts a b = 4) : path pv ts a b = [] := by unfold path; rw [if_neg h, if_neg h2, if_neg h4]
end Go.Proofs.Ytjkeefmpjocilaa
