/- The table of rounding modes. Conditions: none. -/
import Derived.Test.YtfoceofnldnbgaaTy
set_option linter.unusedVariables false
set_option linter.unusedSimpArgs false
namespace Go.Proofs.Ytfoceofnldnbgaa
open Go Go.RowKit
/-! ### the table of rounding modes: a name and a function each -/
abbrev rmT : List (ByteArray × Nat) := [(⟨#[100, 111, 119, 110]⟩, 114), (⟨#[117, 112]⟩, 115), (⟨#[102, 108, 111, 111, 114]⟩, 116), (⟨#[99, 101, 105, 108]⟩, 117), (⟨#[104, 97, 108, 102, 100, 111, 119, 110]⟩, 118), (⟨#[104, 97, 108, 102, 117, 112]⟩, 119), (⟨#[104, 97, 108, 102, 101, 118, 101, 110]⟩, 120)]
abbrev rmN (m : Int) : ByteArray := (rmT.getD m.toNat (⟨#[]⟩, 0)).1
abbrev rmF (m : Int) : Nat := (rmT.getD m.toNat (⟨#[]⟩, 0)).2
theorem rm_cases {m : Int} (h : 0 ≤ m ∧ m ≤ 6) : m = 0 ∨ m = 1 ∨ m = 2 ∨ m = 3 ∨ m = 4 ∨ m = 5 ∨ m = 6 := by omega
theorem px_indexRm {n : Nat} {fr : Fr} {w : World} {ty : TypeId} {pos : String} {aft : Array Edge} {dst : Option Tmp} {g : Option (Nat × Bool)} {x y : Operand} {m : Int} (hx : ev fr x = some (.agg #[.string ⟨#[100, 111, 119, 110]⟩, .func (.func 114) #[] #[], .string ⟨#[117, 112]⟩, .func (.func 115) #[] #[], .string ⟨#[102, 108, 111, 111, 114]⟩, .func (.func 116) #[] #[], .string ⟨#[99, 101, 105, 108]⟩, .func (.func 117) #[] #[], .string ⟨#[104, 97, 108, 102, 100, 111, 119, 110]⟩, .func (.func 118) #[] #[], .string ⟨#[104, 97, 108, 102, 117, 112]⟩, .func (.func 119) #[] #[], .string ⟨#[104, 97, 108, 102, 101, 118, 101, 110]⟩, .func (.func 120) #[] #[]])) (hy : ev fr y = some (.int .i64 m)) (hm : 0 ≤ m ∧ m ≤ 6) :
    Px Try.prog n fr ⟨dst, .index 93 x y, ty, pos, aft, g⟩ (.agg #[.string (rmN m), .func (.func (rmF m)) #[] #[]]) w := fun a ha => by
  rcases rm_cases hm with h | h | h | h | h | h | h <;> subst h <;>
  (simp [execOp, ha.ev hx, ha.ev hy, Instr.index, asIntOf, run_underlying Try.underlying93, part, Try.sizeOf92, Try.isAgg92]; exact ⟨rfl, rfl⟩)
theorem rm_call {m : Int} (hm : 0 ≤ m ∧ m ≤ 6) : ∀ args w, (callFunc (rmF m) args).run Try.prog w = .ok (.enter (rmF m) args) w := by
  rcases rm_cases hm with h | h | h | h | h | h | h
  · subst h; exact Try.call114
  · subst h; exact Try.call115
  · subst h; exact Try.call116
  · subst h; exact Try.call117
  · subst h; exact Try.call118
  · subst h; exact Try.call119
  · subst h; exact Try.call120
end Go.Proofs.Ytfoceofnldnbgaa
