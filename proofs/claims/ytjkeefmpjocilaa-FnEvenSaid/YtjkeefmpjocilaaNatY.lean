/- Plain lemmas on numbers and lists; no program in sight. Conditions: none. -/
import Derived.Test.YtjkeefmpjocilaaNatT
import Derived.Test.YtjkeefmpjocilaaNatO
set_option linter.unusedVariables false
set_option linter.unusedSimpArgs false
namespace Go.Proofs.Ytjkeefmpjocilaa
open Go Go.RowKit
/-! ### a rate that is put in another's place; marks of rates -/
/-- a rate that takes another's place leaves the table in order -/
theorem RsOk_put {pv : ByteArray} {ts : List Rt} {r : Rt} (hT : RsOk pv ts) (hP : RPr r) (h0 : 0 ≤ atI ts r.1 r.2.1 := by omega) : RsOk pv (putR ts r) := by
  rcases atI_range (ts := ts) (a := r.1) (b := r.2.1) with h1 | h1
  · omega
  · have hs : ∀ i, i < ts.length → Same ((putR ts r).getD i rt0) (ts.getD i rt0) := fun i hi => by
      unfold putR; rw [if_pos h0]
      by_cases e : i = (atI ts r.1 r.2.1).toNat
      · subst e; rw [show (ts.set (atI ts r.1 r.2.1).toNat r).getD (atI ts r.1 r.2.1).toNat rt0 = r by simp [hi]]; exact ⟨h1.2.2.1.symm, h1.2.2.2.symm⟩
      · rw [show (ts.set (atI ts r.1 r.2.1).toNat r).getD i rt0 = ts.getD i rt0 by simp [List.getElem?_set_ne (Ne.symm e)]]; exact ⟨rfl, rfl⟩
    have hl : (putR ts r).length = ts.length := by unfold putR; rw [if_pos h0, List.length_set]
    refine ⟨hT.1, by rw [hl]; exact hT.2.1, putR_all hT.2.2.1 hP, fun j hj i hi => ?_⟩
    rw [hl] at hj
    intro hh
    have a1 := hs i (by omega)
    have a2 := hs j hj
    exact hT.2.2.2 j hj i hi ⟨a1.1.symm.trans (hh.1.trans a2.1), a1.2.symm.trans (hh.2.trans a2.2)⟩
def mkOne (n : Int) (r : Rt) : Rt := (mText n, mText (n + 1), decide ((n + 1 + 1) % 3 = 0), mk (n + 1 + 1 + 1) r.2.2.2.1.length, n + 1 + 1 + 1 + (r.2.2.2.1.length : Int))
def mkRt : Int → List Rt → List Rt
  | _, [] => []
  | n, r :: ts => mkOne n r :: mkRt (n + 1 + 1 + 1 + (r.2.2.2.1.length : Int) + 1) ts
def mkEnd : Int → List Rt → Int
  | n, [] => n
  | n, r :: ts => mkEnd (n + 1 + 1 + 1 + (r.2.2.2.1.length : Int) + 1) ts
theorem mkRt_len : ∀ (n : Int) (ts : List Rt), (mkRt n ts).length = ts.length
  | _, [] => rfl
  | n, r :: ts => by simp only [mkRt, List.length_cons, mkRt_len]
theorem mkRt_at : ∀ {n : Int} {ts : List Rt} {k : Nat}, k < ts.length → (mkRt n ts).getD k rt0 = mkOne (mkEnd n (ts.take k)) (ts.getD k rt0)
  | _, [], _, h => by simp at h
  | n, r :: ts, 0, _ => rfl
  | n, r :: ts, k + 1, h => by
    simp only [mkRt, List.getD_cons_succ, List.take_succ_cons, mkEnd]
    exact mkRt_at (by simpa using h)
theorem mkEnd_next : ∀ {n : Int} {ts : List Rt} {k : Nat}, k < ts.length → mkEnd n (ts.take (k + 1)) = mkEnd n (ts.take k) + 1 + 1 + 1 + ((ts.getD k rt0).2.2.2.1.length : Int) + 1
  | _, [], _, h => by simp at h
  | n, r :: ts, 0, _ => rfl
  | n, r :: ts, k + 1, h => by
    simp only [List.take_succ_cons, mkEnd, List.getD_cons_succ]
    exact mkEnd_next (by simpa using h)
theorem mkEnd_bd : ∀ {n : Int} {ts : List Rt} (k : Nat), (∀ i, i < ts.length → (ts.getD i rt0).2.2.2.1.length ≤ 1048576) → k ≤ ts.length → n ≤ mkEnd n (ts.take k) ∧ mkEnd n (ts.take k) ≤ n + (k : Int) * 1048580
  | n, ts, 0, _, _ => by simp [mkEnd]
  | n, ts, k + 1, h, hk => by
    have ih := mkEnd_bd (n := n) k h (by omega)
    have h1 := h k (by omega)
    rw [mkEnd_next (by omega)]
    omega
theorem mkOne_idem (n : Int) (r : Rt) : mkOne n (mkOne n r) = mkOne n r := by simp [mkOne, mk_length]
theorem mkRt_idem : ∀ (n : Int) (ts : List Rt), mkRt n (mkRt n ts) = mkRt n ts
  | _, [] => rfl
  | n, r :: ts => by
    have e : ((mkOne n r).2.2.2.1.length : Int) = (r.2.2.2.1.length : Int) := by simp [mkOne, mk_length]
    simp only [mkRt, mkOne_idem, e, mkRt_idem]
theorem mkEnd_idem : ∀ (n : Int) (ts : List Rt), mkEnd n (mkRt n ts) = mkEnd n ts
  | _, [] => rfl
  | n, r :: ts => by
    have e : ((mkOne n r).2.2.2.1.length : Int) = (r.2.2.2.1.length : Int) := by simp [mkOne, mk_length]
    simp only [mkRt, mkEnd, e, mkEnd_idem]
theorem mkEnd_pref {n : Int} {ts : List Rt} (h : mkRt n ts = ts) {k : Nat} (hk : k < ts.length) : ts.getD k rt0 = mkOne (mkEnd n (ts.take k)) (ts.getD k rt0) := by
  have := mkRt_at (n := n) hk
  rwa [h] at this
theorem marks_next {xs ys : List Value} {k n : Nat} {a b c d e : Value} (hl : xs.length = n * 5) (hl2 : ys.length = n * 5) (hk : k < n) (h : xs.take (k * 5) = ys.take (k * 5)) (h3 : xs[k * 5 + 3]? = some d) (hy : ∀ q, q < 5 → ys[k * 5 + q]? = [a, b, c, d, e][q]?) :
    ((((xs.set (k * 5 + 0) a).set (k * 5 + 1) b).set (k * 5 + 2) c).set (k * 5 + 4) e).take ((k + 1) * 5) = ys.take ((k + 1) * 5) := by
  apply List.ext_getElem?
  intro j
  by_cases hj : j < (k + 1) * 5
  · rw [List.getElem?_take_of_lt hj, List.getElem?_take_of_lt hj]
    by_cases h0 : j < k * 5
    · have h1 := congrArg (·[j]?) h
      simp only [List.getElem?_take_of_lt h0] at h1
      rw [List.getElem?_set_ne (by omega), List.getElem?_set_ne (by omega), List.getElem?_set_ne (by omega), List.getElem?_set_ne (by omega)]
      exact h1
    · obtain ⟨q, rfl⟩ : ∃ q, j = k * 5 + q := ⟨j - k * 5, by omega⟩
      have hq : q < 5 := by omega
      rw [hy q hq]
      have : q = 0 ∨ q = 1 ∨ q = 2 ∨ q = 3 ∨ q = 4 := by omega
      rcases this with rfl | rfl | rfl | rfl | rfl
      · rw [List.getElem?_set_ne (by omega), List.getElem?_set_ne (by omega), List.getElem?_set_ne (by omega), List.getElem?_set_self (by omega)]; rfl
      · rw [List.getElem?_set_ne (by omega), List.getElem?_set_ne (by omega), List.getElem?_set_self (by simp only [List.length_set]; omega)]; rfl
      · rw [List.getElem?_set_ne (by omega), List.getElem?_set_self (by simp only [List.length_set]; omega)]; rfl
      · rw [List.getElem?_set_ne (by omega), List.getElem?_set_ne (by omega), List.getElem?_set_ne (by omega), List.getElem?_set_ne (by omega), h3]; rfl
      · rw [List.getElem?_set_self (by simp only [List.length_set]; omega)]; rfl
  · rw [List.getElem?_eq_none (by simp only [List.length_take]; omega), List.getElem?_eq_none (by simp only [List.length_take]; omega)]
theorem bne_same {a b : Bool} (h : a = b) : (a != b) = false := by simp [h]
theorem rPut_len {pv : ByteArray} {ts : List Rt} {r : Rt} : (rPut pv ts r).2.1.length ≤ 12 := by
  unfold rPut; split
  · rename_i h; exact h.2.2.1
  · simp
theorem rPut_hz {pv : ByteArray} {ts : List Rt} {r : Rt} {K : Nat} (h : ∀ i, i < ts.length → (ts.getD i rt0).2.2.2.1.length ≤ K) (hr : r.2.2.2.1.length ≤ K) : ∀ i, i < (rPut pv ts r).2.1.length → ((rPut pv ts r).2.1.getD i rt0).2.2.2.1.length ≤ K := by
  unfold rPut; split
  · exact putR_hz h hr
  · exact fun i hi => by simp at hi
theorem mkRt_hz {n : Int} {ts : List Rt} {K : Nat} (h : ∀ i, i < ts.length → (ts.getD i rt0).2.2.2.1.length ≤ K) : ∀ i, i < (mkRt n ts).length → ((mkRt n ts).getD i rt0).2.2.2.1.length ≤ K := fun i hi => by
  rw [mkRt_len] at hi
  rw [mkRt_at hi]
  show (mk _ _).length ≤ K
  rw [mk_length]; exact h i hi
end Go.Proofs.Ytjkeefmpjocilaa
