/- The table of rounding modes. Conditions: none. -/
import Derived.Test.YtjkeefmpjocilaaTy
set_option linter.unusedVariables false
set_option linter.unusedSimpArgs false
namespace Go.Proofs.Ytjkeefmpjocilaa
open Go Go.RowKit
/-! ### the table of rounding modes: a name and a function each -/
abbrev rmT : List (ByteArray × Nat) := [(⟨#[100, 111, 119, 110]⟩, 90), (⟨#[117, 112]⟩, 91), (⟨#[102, 108, 111, 111, 114]⟩, 92), (⟨#[99, 101, 105, 108]⟩, 93), (⟨#[104, 97, 108, 102, 100, 111, 119, 110]⟩, 94), (⟨#[104, 97, 108, 102, 117, 112]⟩, 95), (⟨#[104, 97, 108, 102, 101, 118, 101, 110]⟩, 96)]
abbrev rmN (m : Int) : ByteArray := (rmT.getD m.toNat (⟨#[]⟩, 0)).1
abbrev rmF (m : Int) : Nat := (rmT.getD m.toNat (⟨#[]⟩, 0)).2
theorem rm_cases {m : Int} (h : 0 ≤ m ∧ m ≤ 6) : m = 0 ∨ m = 1 ∨ m = 2 ∨ m = 3 ∨ m = 4 ∨ m = 5 ∨ m = 6 := by omega
theorem rmN_inj {i k : Int} (hi : 0 ≤ i ∧ i ≤ 6) (hk : 0 ≤ k ∧ k ≤ 6) (h : rmN i = rmN k) : i = k := by
  rcases rm_cases hi with rfl | rfl | rfl | rfl | rfl | rfl | rfl <;> rcases rm_cases hk with rfl | rfl | rfl | rfl | rfl | rfl | rfl <;> first | rfl | (exfalso; revert h; decide)
theorem px_indexRm {n : Nat} {fr : Fr} {w : World} {ty : TypeId} {pos : String} {aft : Array Edge} {dst : Option Tmp} {g : Option (Nat × Bool)} {x y : Operand} {m : Int} (hx : ev fr x = some (.agg #[.string ⟨#[100, 111, 119, 110]⟩, .func (.func 90) #[] #[], .string ⟨#[117, 112]⟩, .func (.func 91) #[] #[], .string ⟨#[102, 108, 111, 111, 114]⟩, .func (.func 92) #[] #[], .string ⟨#[99, 101, 105, 108]⟩, .func (.func 93) #[] #[], .string ⟨#[104, 97, 108, 102, 100, 111, 119, 110]⟩, .func (.func 94) #[] #[], .string ⟨#[104, 97, 108, 102, 117, 112]⟩, .func (.func 95) #[] #[], .string ⟨#[104, 97, 108, 102, 101, 118, 101, 110]⟩, .func (.func 96) #[] #[]])) (hy : ev fr y = some (.int .i64 m)) (hm : 0 ≤ m ∧ m ≤ 6) :
    Px Try.prog n fr ⟨dst, .index 100 x y, ty, pos, aft, g⟩ (.agg #[.string (rmN m), .func (.func (rmF m)) #[] #[]]) w := fun a ha => by
  rcases rm_cases hm with h | h | h | h | h | h | h <;> subst h <;>
  (simp [execOp, ha.ev hx, ha.ev hy, Instr.index, asIntOf, run_underlying Try.underlying100, part, Try.sizeOf99, Try.isAgg99]; exact ⟨rfl, rfl⟩)
theorem rm_call {m : Int} (hm : 0 ≤ m ∧ m ≤ 6) : ∀ args w, (callFunc (rmF m) args).run Try.prog w = .ok (.enter (rmF m) args) w := by
  rcases rm_cases hm with h | h | h | h | h | h | h
  · subst h; exact Try.call90
  · subst h; exact Try.call91
  · subst h; exact Try.call92
  · subst h; exact Try.call93
  · subst h; exact Try.call94
  · subst h; exact Try.call95
  · subst h; exact Try.call96
end Go.Proofs.Ytjkeefmpjocilaa
