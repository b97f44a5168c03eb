/- Plain lemmas on numbers and lists; no program in sight. Conditions: none. -/
import Derived.Test.YtoeclobdbblohaaDoorNatB
set_option linter.unusedVariables false
set_option linter.unusedSimpArgs false
namespace Go.Proofs.YtoeclobdbblohaaDoor
theorem NOk_mk {zs : List Int} (h : Lm zs) (h1 : zs.length ≤ 50) (h2 : zs.length = 0 ∨ ¬ zs.getD (zs.length - 1) 0 = 0) : NOk zs := ⟨h, h1, fun e => by
  rcases h2 with h2 | h2
  · rw [List.length_eq_zero_iff.1 h2] at e; simp at e
  · rcases Nat.eq_zero_or_pos zs.length with e0 | e0
    · rw [List.length_eq_zero_iff.1 e0] at e; simp at e
    · exact h2 ((last_getD e0).1 e)⟩
theorem NOk_iff {zs : List Int} (h : Lm zs) (h1 : zs.length ≤ 50) (h2 : 0 < zs.length) : (zs.getD (zs.length - 1) 0 ≠ 0) ↔ NOk zs :=
  ⟨fun e => NOk_mk h h1 (.inr e), fun e e0 => e.2.2 ((last_getD h2).2 e0)⟩
def IOk (n : Bool) (zs : List Int) : Prop := NOk zs ∧ (n = true → 0 < zs.length)
def DOk (n : Bool) (zs : List Int) (p : Int) : Prop := IOk n zs ∧ zs.length ≤ 6 ∧ 0 ≤ p ∧ p ≤ 30
instance (n : Bool) (zs : List Int) : Decidable (IOk n zs) := by unfold IOk; infer_instance
instance (n : Bool) (zs : List Int) (p : Int) : Decidable (DOk n zs p) := by unfold DOk; infer_instance
end Go.Proofs.YtoeclobdbblohaaDoor
namespace Go.Proofs.YtoeclobdbblohaaDoor
/-- a carry put on top -/
theorem carry_gen {os : List Int} {q T : Nat} {c s : Int} (hk : q < os.length) (hc : 0 ≤ c) (ho : 0 ≤ os.getD q 0) (hs : s = c + os.getD q 0) (h : vl os + Bs ^ q * c.toNat = T) :
    vl (os.set q (s % 1000000000)) + Bs ^ (q + 1) * (s / 1000000000).toNat = T := by
  have h1 := vl_set (os := os) (k := q) (x := s % 1000000000) hk
  have h2 := toNat_split (s := s) (by omega)
  have h3 : s.toNat = c.toNat + (os.getD q 0).toNat := by omega
  rw [h3] at h2
  rw [Nat.pow_succ]
  generalize Bs ^ q = P at *
  generalize vl (os.set q (s % 1000000000)) = Z at *
  generalize (s % 1000000000).toNat = r at *
  generalize (s / 1000000000).toNat = t at *
  generalize (os.getD q 0).toNat = o at *
  grind
end Go.Proofs.YtoeclobdbblohaaDoor
