/- Plain lemmas on numbers and lists; no program in sight. Conditions: none. -/
import Derived.Test.YtjkeefmpjocilaaSx
set_option linter.unusedVariables false
set_option linter.unusedSimpArgs false
namespace Go.Proofs.Ytjkeefmpjocilaa
open Go Go.RowKit
/-! ### arithmetic that wraps, and bits: what the draws of inputs need -/
def i64w (n : Int) : Int := IntKind.i64.wrap n
def andI (a b : Int) : Int := IntKind.i64.wrap ((BitVec.ofInt 64 a &&& BitVec.ofInt 64 b).toNat : Int)
def xorI (a b : Int) : Int := IntKind.i64.wrap ((BitVec.ofInt 64 a ^^^ BitVec.ofInt 64 b).toNat : Int)
theorem i64w_range (n : Int) : -9223372036854775808 ≤ i64w n ∧ i64w n ≤ 9223372036854775807 := by
  have h1 := Int.emod_nonneg n (show (18446744073709551616 : Int) ≠ 0 by decide)
  have h2 := Int.emod_lt_of_pos n (show (0 : Int) < 18446744073709551616 by decide)
  have e : i64w n = if n % 18446744073709551616 ≥ 9223372036854775808 then n % 18446744073709551616 - 18446744073709551616 else n % 18446744073709551616 := by
    simp [i64w, IntKind.wrap, IntKind.bits, IntKind.signed]
  rw [e]
  by_cases h : n % 18446744073709551616 ≥ 9223372036854775808
  · rw [if_pos h]; omega
  · rw [if_neg h]; omega
theorem andI_mask (a : Int) {m : Int} (h0 : 0 ≤ m) (h1 : m ≤ 1073741823) : 0 ≤ andI a m ∧ andI a m ≤ m := by
  unfold andI
  have h2 : (BitVec.ofInt 64 m).toNat = m.toNat := by
    rw [BitVec.toNat_ofInt]; congr 1; omega
  have h3 : (BitVec.ofInt 64 a &&& BitVec.ofInt 64 m).toNat ≤ m.toNat := by
    rw [BitVec.toNat_and, h2]; exact Nat.and_le_right
  rw [i64_wrap ⟨by omega, by omega⟩]; omega
abbrev SlB (w : World) (lo hi : Nat) (v : Value) (bs : List Int) : Prop := Sv w lo hi v bs.length 1 (bs.map (Value.int .u8))
theorem at_u8 {zs : List Int} {j : Nat} (h : j < zs.length) : (zs.map (Value.int .u8))[j]? = some (.int .u8 (zs.getD j 0)) := by
  simp [List.getElem?_eq_getElem h]
section
variable {P : Program} {n : Nat} {Q : Exit → Act → World → Prop} {fr fr' : Fr} {w : World} {ops : Array Oper} {rest : List Oper} {d : Nat} {ty : TypeId} {pos : String} {aft : Array Edge} {dst : Option Tmp} {g : Option (Nat × Bool)}
theorem px_nil {x : Operand} {b o : Nat} (hx : ev fr x = some (.pointer (some ⟨b, o, none⟩))) : Px P n fr ⟨dst, .nilCheck x, ty, pos, aft, g⟩ (.pointer (some ⟨b, o, none⟩)) w := fun c ha => by
  simp [execOp, ha.ev hx]
theorem px_addW {x y : Operand} {T U : TypeId} {a b : Int} (hx : ev fr x = some (.int .i64 a)) (hy : ev fr y = some (.int .i64 b)) : Px P n fr ⟨dst, .binOp .add T x y U, ty, pos, aft, g⟩ (.int .i64 (i64w (a + b))) w :=
  fun c ha => by simp [execOp, ha.ev hx, ha.ev hy, eqGuard, binOp, Op.intArith, i64w]
theorem px_mulW {x y : Operand} {T U : TypeId} {a b : Int} (hx : ev fr x = some (.int .i64 a)) (hy : ev fr y = some (.int .i64 b)) : Px P n fr ⟨dst, .binOp .mul T x y U, ty, pos, aft, g⟩ (.int .i64 (i64w (a * b))) w :=
  fun c ha => by simp [execOp, ha.ev hx, ha.ev hy, eqGuard, binOp, Op.intArith, i64w]
theorem px_andW {x y : Operand} {T U : TypeId} {a b : Int} (hx : ev fr x = some (.int .i64 a)) (hy : ev fr y = some (.int .i64 b)) : Px P n fr ⟨dst, .binOp .and T x y U, ty, pos, aft, g⟩ (.int .i64 (andI a b)) w :=
  fun c ha => by simp [execOp, ha.ev hx, ha.ev hy, eqGuard, binOp, Op.intBits]; rfl
theorem px_xorW {x y : Operand} {T U : TypeId} {a b : Int} (hx : ev fr x = some (.int .i64 a)) (hy : ev fr y = some (.int .i64 b)) : Px P n fr ⟨dst, .binOp .xor T x y U, ty, pos, aft, g⟩ (.int .i64 (xorI a b)) w :=
  fun c ha => by simp [execOp, ha.ev hx, ha.ev hy, eqGuard, binOp, Op.intBits]; rfl
theorem px_shrW {x y : Operand} {T U : TypeId} {k : IntKind} {a b : Int} (hx : ev fr x = some (.int .i64 a)) (hy : ev fr y = some (.int k b)) (hb : 0 ≤ b) : Px P n fr ⟨dst, .binOp .shr T x y U, ty, pos, aft, g⟩ (.int .i64 (a.fdiv (2 ^ min b.toNat 64))) w :=
  fun c ha => by
    have h : ¬ b < 0 := by omega
    simp [execOp, ha.ev hx, ha.ev hy, eqGuard, binOp, Op.shift, h, IntKind.bits]
theorem px_conv8 {x : Operand} {S T : TypeId} {u : TypeDesc} {a : Int} (hS : P.underlying S = some u) (hT : P.underlying T = some (.int .i64)) (hx : ev fr x = some (.int .u8 a)) (hr : 0 ≤ a ∧ a ≤ 255) : Px P n fr ⟨dst, .convert S T x, ty, pos, aft, g⟩ (.int .i64 a) w :=
  fun c ha => by
    simp [execOp, ha.ev hx, convert, run_underlying hS, run_underlying hT, Conv.intToInt, i64_wrap (m := a) ⟨by omega, by omega⟩]
theorem range5 : Array.range 5 = #[0, 1, 2, 3, 4] := by rw [← List.toArray_range]; rfl
theorem sx_lit5 {T e : TypeId} {i : TypeInfo} {z : Value} {bytes : Nat} {x0 x1 x2 x3 x4 : Operand} {v0 v1 v2 v3 v4 : Value} (hn : Nat.blt d n = true) (hE : Elt P T e i z 1 bytes) (hx0 : ev fr x0 = some v0) (hx1 : ev fr x1 = some v1) (hx2 : ev fr x2 = some v2) (hx3 : ev fr x3 = some v3) (hx4 : ev fr x4 = some v4) (h10 : v0.oneCell' = true) (h11 : v1.oneCell' = true) (h12 : v2.oneCell' = true) (h13 : v3.oneCell' = true) (h14 : v4.oneCell' = true)
    (h : ∀ v' w', w'.heap.size = w.heap.size + 1 → Own w' w.heap.size w'.heap.size v' e 5 1 [v0, v1, v2, v3, v4] → Chg 0 0 w w' → wl P n ops Q rest ((d, v') :: fr) w') :
    wl P n ops Q (⟨some d, .buildSlice T 5 #[(0, x0), (1, x1), (2, x2), (3, x3), (4, x4)], ty, pos, aft, none⟩ :: rest) fr w :=
  sx_buildSlice [v0, v1, v2, v3, v4] hn (by simp [maxLen]) (by simp) (fun a ha => by
    have hc0 : v0.cells = #[v0] := by cases v0 <;> first | rfl | cases h10
    have hc1 : v1.cells = #[v1] := by cases v1 <;> first | rfl | cases h11
    have hc2 : v2.cells = #[v2] := by cases v2 <;> first | rfl | cases h12
    have hc3 : v3.cells = #[v3] := by cases v3 <;> first | rfl | cases h13
    have hc4 : v4.cells = #[v4] := by cases v4 <;> first | rfl | cases h14
    simp [Instr.buildSlice, run_underlying hE.ht, sizeOf, zeroValue, typeInfo, hE.hi, hE.hz, hE.hk, Instr.fill, newRow, ha.ev hx0, ha.ev hx1, ha.ev hx2, ha.ev hx3, ha.ev hx4, hc0, hc1, hc2, hc3, hc4, range5]) h
theorem range7 : Array.range 7 = #[0, 1, 2, 3, 4, 5, 6] := by rw [← List.toArray_range]; rfl
theorem sx_lit7 {T e : TypeId} {i : TypeInfo} {z : Value} {bytes : Nat} {x0 x1 x2 x3 x4 x5 x6 : Operand} {v0 v1 v2 v3 v4 v5 v6 : Value} (hn : Nat.blt d n = true) (hE : Elt P T e i z 1 bytes) (hx0 : ev fr x0 = some v0) (hx1 : ev fr x1 = some v1) (hx2 : ev fr x2 = some v2) (hx3 : ev fr x3 = some v3) (hx4 : ev fr x4 = some v4) (hx5 : ev fr x5 = some v5) (hx6 : ev fr x6 = some v6) (h10 : v0.oneCell' = true) (h11 : v1.oneCell' = true) (h12 : v2.oneCell' = true) (h13 : v3.oneCell' = true) (h14 : v4.oneCell' = true) (h15 : v5.oneCell' = true) (h16 : v6.oneCell' = true)
    (h : ∀ v' w', w'.heap.size = w.heap.size + 1 → Own w' w.heap.size w'.heap.size v' e 7 1 [v0, v1, v2, v3, v4, v5, v6] → Chg 0 0 w w' → wl P n ops Q rest ((d, v') :: fr) w') :
    wl P n ops Q (⟨some d, .buildSlice T 7 #[(0, x0), (1, x1), (2, x2), (3, x3), (4, x4), (5, x5), (6, x6)], ty, pos, aft, none⟩ :: rest) fr w :=
  sx_buildSlice [v0, v1, v2, v3, v4, v5, v6] hn (by simp [maxLen]) (by simp) (fun a ha => by
    have hc0 : v0.cells = #[v0] := by cases v0 <;> first | rfl | cases h10
    have hc1 : v1.cells = #[v1] := by cases v1 <;> first | rfl | cases h11
    have hc2 : v2.cells = #[v2] := by cases v2 <;> first | rfl | cases h12
    have hc3 : v3.cells = #[v3] := by cases v3 <;> first | rfl | cases h13
    have hc4 : v4.cells = #[v4] := by cases v4 <;> first | rfl | cases h14
    have hc5 : v5.cells = #[v5] := by cases v5 <;> first | rfl | cases h15
    have hc6 : v6.cells = #[v6] := by cases v6 <;> first | rfl | cases h16
    simp [Instr.buildSlice, run_underlying hE.ht, sizeOf, zeroValue, typeInfo, hE.hi, hE.hz, hE.hk, Instr.fill, newRow, ha.ev hx0, ha.ev hx1, ha.ev hx2, ha.ev hx3, ha.ev hx4, ha.ev hx5, ha.ev hx6, hc0, hc1, hc2, hc3, hc4, hc5, hc6, range7]) h
end
end Go.Proofs.Ytjkeefmpjocilaa
