/- Plain lemmas on numbers and lists; no program in sight. Conditions: none. -/
import Derived.Test.YtjkeefmpjocilaaNatJ
set_option linter.unusedVariables false
set_option linter.unusedSimpArgs false
namespace Go.Proofs.Ytjkeefmpjocilaa
open Go Go.RowKit
/-! ### a rate that is put -/
def putR (ts : List Rt) (r : Rt) : List Rt := if 0 ≤ atI ts r.1 r.2.1 then ts.set (atI ts r.1 r.2.1).toNat r else ts ++ [r]
def rPut (pv : ByteArray) (ts : List Rt) (r : Rt) : ByteArray × List Rt × Bool :=
  if (RsOk pv ts ∧ RPr r) ∧ RsOk pv (putR ts r) then (pv, putR ts r, true) else (⟨#[]⟩, [], false)
theorem rPut_no {pv : ByteArray} {ts : List Rt} {r : Rt} (h : ¬ (RsOk pv ts ∧ RPr r)) : rPut pv ts r = (⟨#[]⟩, [], false) := by unfold rPut; rw [if_neg (fun h' => h h'.1)]
theorem rPut_bad {pv : ByteArray} {ts : List Rt} {r : Rt} (h : ¬ RsOk pv (putR ts r)) : rPut pv ts r = (⟨#[]⟩, [], false) := by unfold rPut; rw [if_neg (fun h' => h h'.2)]
theorem rPut_ok {pv : ByteArray} {ts : List Rt} {r : Rt} (h1 : RsOk pv ts) (h2 : RPr r) (h3 : RsOk pv (putR ts r)) : rPut pv ts r = (pv, putR ts r, true) := by unfold rPut; rw [if_pos ⟨⟨h1, h2⟩, h3⟩]
theorem putR_len {ts : List Rt} {r : Rt} : (putR ts r).length ≤ ts.length + 1 := by
  unfold putR; split <;> simp
theorem putR_all {p : Rt → Prop} {ts : List Rt} {r : Rt} (h : ∀ i, i < ts.length → p (ts.getD i rt0)) (hr : p r) : ∀ i, i < (putR ts r).length → p ((putR ts r).getD i rt0) := fun i hi => by
  unfold putR at hi ⊢
  split at hi
  · rename_i h0
    rw [if_pos h0]
    simp only [List.length_set] at hi
    by_cases e : i = (atI ts r.1 r.2.1).toNat
    · subst e; rw [show (ts.set (atI ts r.1 r.2.1).toNat r).getD (atI ts r.1 r.2.1).toNat rt0 = r by simp [hi]]; exact hr
    · rw [show (ts.set (atI ts r.1 r.2.1).toNat r).getD i rt0 = ts.getD i rt0 by simp [List.getElem?_set_ne (Ne.symm e)]]; exact h i hi
  · rename_i h0
    rw [if_neg h0]
    simp only [List.length_append, List.length_singleton] at hi
    rcases Nat.lt_or_ge i ts.length with h1 | h1
    · rw [getD_append_left' h1]; exact h i h1
    · have e : i = ts.length := by omega
      subst e; rw [getD_append_at rfl]; exact hr
theorem putR_hz {k : Nat} {ts : List Rt} {r : Rt} (h : ∀ i, i < ts.length → (ts.getD i rt0).2.2.2.1.length ≤ k) (hr : r.2.2.2.1.length ≤ k) : ∀ i, i < (putR ts r).length → ((putR ts r).getD i rt0).2.2.2.1.length ≤ k := putR_all (p := fun r => r.2.2.2.1.length ≤ k) h hr
theorem mem_getDS {zs : List ByteArray} {j : Nat} (h : j < zs.length) : zs.getD j ByteArray.empty ∈ zs := by
  simp [List.getElem?_eq_getElem h]
/-- a rate as the draws make it -/
def SmR (r : Rt) : Prop := r.2.2.1 = false ∧ (∃ m : Nat, r.2.2.2.1 = dg m ∧ 1 ≤ m ∧ m ≤ 3000) ∧ 0 ≤ r.2.2.2.2 ∧ r.2.2.2.2 ≤ 4
theorem sm_hz {ts : List Rt} (h : ∀ i, i < ts.length → SmR (ts.getD i rt0)) : ∀ i, i < ts.length → (ts.getD i rt0).2.2.2.1.length ≤ 4611686018427387904 := fun i hi => by
  obtain ⟨m, e, h1, h2⟩ := (h i hi).2.1
  rw [e]; exact Nat.le_trans (dg_len_le (k := 1) (by simp only [Bs]; omega)) (by decide)
theorem RsOk_nil {pv : ByteArray} (h : Known pv) : RsOk pv [] := ⟨h, by simp, fun i hi => by simp at hi, fun j hj => by simp at hj⟩
theorem rput_true {pv : ByteArray} {ts : List Rt} {r : Rt} (hT : RsOk pv ts) (hsm : ∀ i, i < ts.length → SmR (ts.getD i rt0)) (hr : SmR r) (h : (rPut pv ts r).2.2 = true) :
    pv = (rPut pv ts r).1 ∧ RsOk pv (rPut pv ts r).2.1 ∧ ∀ i, i < (rPut pv ts r).2.1.length → SmR ((rPut pv ts r).2.1.getD i rt0) := by
  unfold rPut at h ⊢
  split at h
  · rename_i hc
    rw [if_pos hc]
    exact ⟨rfl, hc.2, putR_all hsm hr⟩
  · cases h
theorem codes_next {l : List Cr} {k : Nat} (h : k < l.length) : (l.map Cr.code).take k ++ [(l.getD k cr0).code] = (l.map Cr.code).take (k + 1) := by
  rw [List.take_succ_eq_append_getElem (by simpa using h)]
  simp [List.getElem?_eq_getElem h]
end Go.Proofs.Ytjkeefmpjocilaa
