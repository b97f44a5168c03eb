/- Closed facts on structs of two texts. Conditions: none. -/
import Derived.Test.YtlnemcbdbehehaaDoorTy
import Derived.Test.YtlnemcbdbehehaaDoorSxC
set_option linter.unusedVariables false
set_option linter.unusedSimpArgs false
namespace Go.Proofs.YtlnemcbdbehehaaDoor
open Go Go.RowKit
theorem bytes_beq2 (a b : ByteArray) : (a == b) = true ↔ a = b := by
  cases a with | mk x => cases b with | mk y =>
  simp only [ByteArray.mk.injEq]
  exact beq_iff_eq (a := x) (b := y)
theorem xpair89 : PairT Tryd.prog 89 := ⟨fun a b c d w => by
  have h : Tryd.prog.stoodInHeld 89 = false := by kernel_rfl
  have hs : ∀ (n : Nat) (x y : ByteArray), (Op.equalIn (n + 1) 9 (.string x) (.string y)).run Tryd.prog w = .ok (decide (x = y)) w := fun n x y => by
    have e : (x == y) = decide (x = y) := by rw [Bool.eq_iff_iff, bytes_beq2]; simp
    simp [Op.equalIn, run_underlying Tryd.underlying9, e]
  have hk : ∀ n, (Op.equalIn (n + 1 + 1) 89 (.agg #[.string a, .string b]) (.agg #[.string c, .string d])).run Tryd.prog w = .ok (decide (a = c ∧ b = d)) w := fun n => by
    rw [Op.equalIn]
    by_cases h1 : a = c <;> by_cases h2 : b = d <;> simp [run_underlying Tryd.underlying89, h, part, Tryd.isAgg9, hs, h1, h2]
  exact hk 9998,
  fun e a b w => by
    have hk : ∀ n, (Instr.checkKey e (n + 1 + 1) 89 (.agg #[.string a, .string b])).run Tryd.prog w = .ok () w := fun n => by
      simp [Instr.checkKey, run_underlying Tryd.underlying89, run_underlying Tryd.underlying9, part, Tryd.isAgg9]
    exact hk 9998,
  ⟨_, Tryd.underlying89⟩, by kernel_rfl⟩
theorem xpair90 : PairT Tryd.prog 90 := ⟨fun a b c d w => by
  have h : Tryd.prog.stoodInHeld 90 = false := by kernel_rfl
  have hs : ∀ (n : Nat) (x y : ByteArray), (Op.equalIn (n + 1) 9 (.string x) (.string y)).run Tryd.prog w = .ok (decide (x = y)) w := fun n x y => by
    have e : (x == y) = decide (x = y) := by rw [Bool.eq_iff_iff, bytes_beq2]; simp
    simp [Op.equalIn, run_underlying Tryd.underlying9, e]
  have hk : ∀ n, (Op.equalIn (n + 1 + 1) 90 (.agg #[.string a, .string b]) (.agg #[.string c, .string d])).run Tryd.prog w = .ok (decide (a = c ∧ b = d)) w := fun n => by
    rw [Op.equalIn]
    by_cases h1 : a = c <;> by_cases h2 : b = d <;> simp [run_underlying Tryd.underlying90, h, part, Tryd.isAgg9, hs, h1, h2]
  exact hk 9998,
  fun e a b w => by
    have hk : ∀ n, (Instr.checkKey e (n + 1 + 1) 90 (.agg #[.string a, .string b])).run Tryd.prog w = .ok () w := fun n => by
      simp [Instr.checkKey, run_underlying Tryd.underlying90, run_underlying Tryd.underlying9, part, Tryd.isAgg9]
    exact hk 9998,
  ⟨_, Tryd.underlying90⟩, by kernel_rfl⟩
end Go.Proofs.YtlnemcbdbehehaaDoor
