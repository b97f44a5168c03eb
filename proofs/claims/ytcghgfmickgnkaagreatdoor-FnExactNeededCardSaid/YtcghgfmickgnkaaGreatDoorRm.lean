/- The table of rounding modes. Conditions: none. -/
import Derived.Test.YtcghgfmickgnkaaGreatDoorTy
set_option linter.unusedVariables false
set_option linter.unusedSimpArgs false
namespace Go.Proofs.YtcghgfmickgnkaaGreatDoor
open Go Go.RowKit
/-! ### the table of rounding modes: a name and a function each -/
abbrev rmT : List (ByteArray × Nat) := [(⟨#[100, 111, 119, 110]⟩, 130), (⟨#[117, 112]⟩, 131), (⟨#[102, 108, 111, 111, 114]⟩, 132), (⟨#[99, 101, 105, 108]⟩, 133), (⟨#[104, 97, 108, 102, 100, 111, 119, 110]⟩, 134), (⟨#[104, 97, 108, 102, 117, 112]⟩, 135), (⟨#[104, 97, 108, 102, 101, 118, 101, 110]⟩, 136)]
abbrev rmN (m : Int) : ByteArray := (rmT.getD m.toNat (⟨#[]⟩, 0)).1
abbrev rmF (m : Int) : Nat := (rmT.getD m.toNat (⟨#[]⟩, 0)).2
theorem rm_cases {m : Int} (h : 0 ≤ m ∧ m ≤ 6) : m = 0 ∨ m = 1 ∨ m = 2 ∨ m = 3 ∨ m = 4 ∨ m = 5 ∨ m = 6 := by omega
theorem px_indexRm {n : Nat} {fr : Fr} {w : World} {ty : TypeId} {pos : String} {aft : Array Edge} {dst : Option Tmp} {g : Option (Nat × Bool)} {x y : Operand} {m : Int} (hx : ev fr x = some (.agg #[.string ⟨#[100, 111, 119, 110]⟩, .func (.func 130) #[] #[], .string ⟨#[117, 112]⟩, .func (.func 131) #[] #[], .string ⟨#[102, 108, 111, 111, 114]⟩, .func (.func 132) #[] #[], .string ⟨#[99, 101, 105, 108]⟩, .func (.func 133) #[] #[], .string ⟨#[104, 97, 108, 102, 100, 111, 119, 110]⟩, .func (.func 134) #[] #[], .string ⟨#[104, 97, 108, 102, 117, 112]⟩, .func (.func 135) #[] #[], .string ⟨#[104, 97, 108, 102, 101, 118, 101, 110]⟩, .func (.func 136) #[] #[]])) (hy : ev fr y = some (.int .i64 m)) (hm : 0 ≤ m ∧ m ≤ 6) :
    Px Tryz.prog n fr ⟨dst, .index 124 x y, ty, pos, aft, g⟩ (.agg #[.string (rmN m), .func (.func (rmF m)) #[] #[]]) w := fun a ha => by
  rcases rm_cases hm with h | h | h | h | h | h | h <;> subst h <;>
  (simp [execOp, ha.ev hx, ha.ev hy, Instr.index, asIntOf, run_underlying Tryz.underlying124, part, Tryz.sizeOf123, Tryz.isAgg123]; exact ⟨rfl, rfl⟩)
theorem rm_call {m : Int} (hm : 0 ≤ m ∧ m ≤ 6) : ∀ args w, (callFunc (rmF m) args).run Tryz.prog w = .ok (.enter (rmF m) args) w := by
  rcases rm_cases hm with h | h | h | h | h | h | h
  · subst h; exact Tryz.call130
  · subst h; exact Tryz.call131
  · subst h; exact Tryz.call132
  · subst h; exact Tryz.call133
  · subst h; exact Tryz.call134
  · subst h; exact Tryz.call135
  · subst h; exact Tryz.call136
end Go.Proofs.YtcghgfmickgnkaaGreatDoor
