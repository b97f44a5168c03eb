/- The table of rounding modes. Conditions: none. -/
import Derived.Test.YtgmoahoocakpmaaTy
set_option linter.unusedVariables false
set_option linter.unusedSimpArgs false
namespace Go.Proofs.Ytgmoahoocakpmaa
open Go Go.RowKit
/-! ### the table of rounding modes: a name and a function each -/
abbrev rmT : List (ByteArray × Nat) := [(⟨#[100, 111, 119, 110]⟩, 69), (⟨#[117, 112]⟩, 70), (⟨#[102, 108, 111, 111, 114]⟩, 71), (⟨#[99, 101, 105, 108]⟩, 72), (⟨#[104, 97, 108, 102, 100, 111, 119, 110]⟩, 73), (⟨#[104, 97, 108, 102, 117, 112]⟩, 74), (⟨#[104, 97, 108, 102, 101, 118, 101, 110]⟩, 75)]
abbrev rmN (m : Int) : ByteArray := (rmT.getD m.toNat (⟨#[]⟩, 0)).1
abbrev rmF (m : Int) : Nat := (rmT.getD m.toNat (⟨#[]⟩, 0)).2
theorem rm_cases {m : Int} (h : 0 ≤ m ∧ m ≤ 6) : m = 0 ∨ m = 1 ∨ m = 2 ∨ m = 3 ∨ m = 4 ∨ m = 5 ∨ m = 6 := by omega
theorem rmN_inj {i k : Int} (hi : 0 ≤ i ∧ i ≤ 6) (hk : 0 ≤ k ∧ k ≤ 6) (h : rmN i = rmN k) : i = k := by
  rcases rm_cases hi with rfl | rfl | rfl | rfl | rfl | rfl | rfl <;> rcases rm_cases hk with rfl | rfl | rfl | rfl | rfl | rfl | rfl <;> first | rfl | (exfalso; revert h; decide)
theorem px_indexRm {n : Nat} {fr : Fr} {w : World} {ty : TypeId} {pos : String} {aft : Array Edge} {dst : Option Tmp} {g : Option (Nat × Bool)} {x y : Operand} {m : Int} (hx : ev fr x = some (.agg #[.string ⟨#[100, 111, 119, 110]⟩, .func (.func 69) #[] #[], .string ⟨#[117, 112]⟩, .func (.func 70) #[] #[], .string ⟨#[102, 108, 111, 111, 114]⟩, .func (.func 71) #[] #[], .string ⟨#[99, 101, 105, 108]⟩, .func (.func 72) #[] #[], .string ⟨#[104, 97, 108, 102, 100, 111, 119, 110]⟩, .func (.func 73) #[] #[], .string ⟨#[104, 97, 108, 102, 117, 112]⟩, .func (.func 74) #[] #[], .string ⟨#[104, 97, 108, 102, 101, 118, 101, 110]⟩, .func (.func 75) #[] #[]])) (hy : ev fr y = some (.int .i64 m)) (hm : 0 ≤ m ∧ m ≤ 6) :
    Px Try.prog n fr ⟨dst, .index 63 x y, ty, pos, aft, g⟩ (.agg #[.string (rmN m), .func (.func (rmF m)) #[] #[]]) w := fun a ha => by
  rcases rm_cases hm with h | h | h | h | h | h | h <;> subst h <;>
  (simp [execOp, ha.ev hx, ha.ev hy, Instr.index, asIntOf, run_underlying Try.underlying63, part, Try.sizeOf62, Try.isAgg62]; exact ⟨rfl, rfl⟩)
theorem rm_call {m : Int} (hm : 0 ≤ m ∧ m ≤ 6) : ∀ args w, (callFunc (rmF m) args).run Try.prog w = .ok (.enter (rmF m) args) w := by
  rcases rm_cases hm with h | h | h | h | h | h | h
  · subst h; exact Try.call69
  · subst h; exact Try.call70
  · subst h; exact Try.call71
  · subst h; exact Try.call72
  · subst h; exact Try.call73
  · subst h; exact Try.call74
  · subst h; exact Try.call75
end Go.Proofs.Ytgmoahoocakpmaa
