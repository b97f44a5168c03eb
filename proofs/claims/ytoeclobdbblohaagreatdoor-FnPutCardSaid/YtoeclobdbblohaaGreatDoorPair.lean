/- Closed facts on structs of two texts. Conditions: none. -/
import Derived.Test.YtoeclobdbblohaaGreatDoorTy
import Derived.Test.YtoeclobdbblohaaGreatDoorSxB
set_option linter.unusedVariables false
set_option linter.unusedSimpArgs false
namespace Go.Proofs.YtoeclobdbblohaaGreatDoor
open Go Go.RowKit
theorem bytes_beq2 (a b : ByteArray) : (a == b) = true ↔ a = b := by
  cases a with | mk x => cases b with | mk y =>
  simp only [ByteArray.mk.injEq]
  exact beq_iff_eq (a := x) (b := y)
theorem xpair106 : PairT Tryz.prog 106 := ⟨fun a b c d w => by
  have h : Tryz.prog.stoodInHeld 106 = false := by kernel_rfl
  have hs : ∀ (n : Nat) (x y : ByteArray), (Op.equalIn (n + 1) 9 (.string x) (.string y)).run Tryz.prog w = .ok (decide (x = y)) w := fun n x y => by
    have e : (x == y) = decide (x = y) := by rw [Bool.eq_iff_iff, bytes_beq2]; simp
    simp [Op.equalIn, run_underlying Tryz.underlying9, e]
  have hk : ∀ n, (Op.equalIn (n + 1 + 1) 106 (.agg #[.string a, .string b]) (.agg #[.string c, .string d])).run Tryz.prog w = .ok (decide (a = c ∧ b = d)) w := fun n => by
    rw [Op.equalIn]
    by_cases h1 : a = c <;> by_cases h2 : b = d <;> simp [run_underlying Tryz.underlying106, h, part, Tryz.isAgg9, hs, h1, h2]
  exact hk 9998,
  fun e a b w => by
    have hk : ∀ n, (Instr.checkKey e (n + 1 + 1) 106 (.agg #[.string a, .string b])).run Tryz.prog w = .ok () w := fun n => by
      simp [Instr.checkKey, run_underlying Tryz.underlying106, run_underlying Tryz.underlying9, part, Tryz.isAgg9]
    exact hk 9998,
  ⟨_, Tryz.underlying106⟩, by kernel_rfl⟩
theorem xpair107 : PairT Tryz.prog 107 := ⟨fun a b c d w => by
  have h : Tryz.prog.stoodInHeld 107 = false := by kernel_rfl
  have hs : ∀ (n : Nat) (x y : ByteArray), (Op.equalIn (n + 1) 9 (.string x) (.string y)).run Tryz.prog w = .ok (decide (x = y)) w := fun n x y => by
    have e : (x == y) = decide (x = y) := by rw [Bool.eq_iff_iff, bytes_beq2]; simp
    simp [Op.equalIn, run_underlying Tryz.underlying9, e]
  have hk : ∀ n, (Op.equalIn (n + 1 + 1) 107 (.agg #[.string a, .string b]) (.agg #[.string c, .string d])).run Tryz.prog w = .ok (decide (a = c ∧ b = d)) w := fun n => by
    rw [Op.equalIn]
    by_cases h1 : a = c <;> by_cases h2 : b = d <;> simp [run_underlying Tryz.underlying107, h, part, Tryz.isAgg9, hs, h1, h2]
  exact hk 9998,
  fun e a b w => by
    have hk : ∀ n, (Instr.checkKey e (n + 1 + 1) 107 (.agg #[.string a, .string b])).run Tryz.prog w = .ok () w := fun n => by
      simp [Instr.checkKey, run_underlying Tryz.underlying107, run_underlying Tryz.underlying9, part, Tryz.isAgg9]
    exact hk 9998,
  ⟨_, Tryz.underlying107⟩, by kernel_rfl⟩
end Go.Proofs.YtoeclobdbblohaaGreatDoor
