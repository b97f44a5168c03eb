/- The table of rounding modes. Conditions: none. -/
import Derived.Test.YtfoceofnldnbgaaGreatDoorTy
set_option linter.unusedVariables false
set_option linter.unusedSimpArgs false
namespace Go.Proofs.YtfoceofnldnbgaaGreatDoor
open Go Go.RowKit
/-! ### the table of rounding modes: a name and a function each -/
abbrev rmT : List (ByteArray × Nat) := [(⟨#[100, 111, 119, 110]⟩, 98), (⟨#[117, 112]⟩, 99), (⟨#[102, 108, 111, 111, 114]⟩, 100), (⟨#[99, 101, 105, 108]⟩, 101), (⟨#[104, 97, 108, 102, 100, 111, 119, 110]⟩, 102), (⟨#[104, 97, 108, 102, 117, 112]⟩, 103), (⟨#[104, 97, 108, 102, 101, 118, 101, 110]⟩, 104)]
abbrev rmN (m : Int) : ByteArray := (rmT.getD m.toNat (⟨#[]⟩, 0)).1
abbrev rmF (m : Int) : Nat := (rmT.getD m.toNat (⟨#[]⟩, 0)).2
theorem rm_cases {m : Int} (h : 0 ≤ m ∧ m ≤ 6) : m = 0 ∨ m = 1 ∨ m = 2 ∨ m = 3 ∨ m = 4 ∨ m = 5 ∨ m = 6 := by omega
theorem px_indexRm {n : Nat} {fr : Fr} {w : World} {ty : TypeId} {pos : String} {aft : Array Edge} {dst : Option Tmp} {g : Option (Nat × Bool)} {x y : Operand} {m : Int} (hx : ev fr x = some (.agg #[.string ⟨#[100, 111, 119, 110]⟩, .func (.func 98) #[] #[], .string ⟨#[117, 112]⟩, .func (.func 99) #[] #[], .string ⟨#[102, 108, 111, 111, 114]⟩, .func (.func 100) #[] #[], .string ⟨#[99, 101, 105, 108]⟩, .func (.func 101) #[] #[], .string ⟨#[104, 97, 108, 102, 100, 111, 119, 110]⟩, .func (.func 102) #[] #[], .string ⟨#[104, 97, 108, 102, 117, 112]⟩, .func (.func 103) #[] #[], .string ⟨#[104, 97, 108, 102, 101, 118, 101, 110]⟩, .func (.func 104) #[] #[]])) (hy : ev fr y = some (.int .i64 m)) (hm : 0 ≤ m ∧ m ≤ 6) :
    Px Tryz.prog n fr ⟨dst, .index 86 x y, ty, pos, aft, g⟩ (.agg #[.string (rmN m), .func (.func (rmF m)) #[] #[]]) w := fun a ha => by
  rcases rm_cases hm with h | h | h | h | h | h | h <;> subst h <;>
  (simp [execOp, ha.ev hx, ha.ev hy, Instr.index, asIntOf, run_underlying Tryz.underlying86, part, Tryz.sizeOf85, Tryz.isAgg85]; exact ⟨rfl, rfl⟩)
theorem rm_call {m : Int} (hm : 0 ≤ m ∧ m ≤ 6) : ∀ args w, (callFunc (rmF m) args).run Tryz.prog w = .ok (.enter (rmF m) args) w := by
  rcases rm_cases hm with h | h | h | h | h | h | h
  · subst h; exact Tryz.call98
  · subst h; exact Tryz.call99
  · subst h; exact Tryz.call100
  · subst h; exact Tryz.call101
  · subst h; exact Tryz.call102
  · subst h; exact Tryz.call103
  · subst h; exact Tryz.call104
end Go.Proofs.YtfoceofnldnbgaaGreatDoor
