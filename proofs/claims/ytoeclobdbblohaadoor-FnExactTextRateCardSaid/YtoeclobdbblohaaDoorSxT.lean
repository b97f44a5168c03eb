/- Plain lemmas on numbers and lists; no program in sight. Conditions: none. -/
import Derived.Test.YtoeclobdbblohaaDoorSxD
set_option linter.unusedVariables false
set_option linter.unusedSimpArgs false
namespace Go.Proofs.YtoeclobdbblohaaDoor
open Go Go.RowKit
/-! ### parts of texts, their bytes -/
/-- the byte of a text at a place -/
def strB (s : ByteArray) (j : Nat) : Int := ((s[j]?.getD 0).toNat : Int)
theorem strB_range (s : ByteArray) (j : Nat) : 0 ≤ strB s j ∧ strB s j ≤ 255 := by
  unfold strB
  have := (s[j]?.getD 0).toNat_lt
  omega
section
variable {P : Program} {n : Nat} {Q : Exit → Act → World → Prop} {fr fr' : Fr} {w : World} {ops : Array Oper} {rest : List Oper} {d : Nat} {ty : TypeId} {pos : String} {aft : Array Edge} {dst : Option Tmp} {g : Option (Nat × Bool)}
theorem px_strTo {x y : Operand} {T : TypeId} {s : ByteArray} {h : Nat} {i : Int} (hx : ev fr x = some (.string s)) (hy : ev fr y = some (.int .i64 i)) (hi : i = (h : Int)) (hT : P.underlying T = some .string) (hh : h ≤ s.size) :
    Px P n fr ⟨dst, .slice T x none (some y) none, ty, pos, aft, g⟩ (.string (s.extract 0 h)) w := by
  subst hi
  intro a ha
  simp [execOp, ha.ev hx, ha.ev hy, Instr.sliceAt, run_underlying hT, Instr.slice, Instr.sliceBounds, Instr.sliceBound, asIntOf, hh]
theorem px_strFrom {x y : Operand} {T : TypeId} {s : ByteArray} {l : Nat} {i : Int} (hx : ev fr x = some (.string s)) (hy : ev fr y = some (.int .i64 i)) (hi : i = (l : Int)) (hT : P.underlying T = some .string) (hh : l ≤ s.size) :
    Px P n fr ⟨dst, .slice T x (some y) none none, ty, pos, aft, g⟩ (.string (s.extract l s.size)) w := by
  subst hi
  intro a ha
  simp [execOp, ha.ev hx, ha.ev hy, Instr.sliceAt, run_underlying hT, Instr.slice, Instr.sliceBounds, Instr.sliceBound, asIntOf, hh]
theorem px_strMid {x y z : Operand} {T : TypeId} {s : ByteArray} {l h : Nat} {i j : Int} (hx : ev fr x = some (.string s)) (hy : ev fr y = some (.int .i64 i)) (hz : ev fr z = some (.int .i64 j)) (hi : i = (l : Int)) (hj : j = (h : Int)) (hT : P.underlying T = some .string) (hl : l ≤ h) (hh : h ≤ s.size) :
    Px P n fr ⟨dst, .slice T x (some y) (some z) none, ty, pos, aft, g⟩ (.string (s.extract l h)) w := by
  subst hi; subst hj
  intro a ha
  simp [execOp, ha.ev hx, ha.ev hy, ha.ev hz, Instr.sliceAt, run_underlying hT, Instr.slice, Instr.sliceBounds, Instr.sliceBound, asIntOf, hh, hl]
theorem px_indexS {x y : Operand} {T : TypeId} {s : ByteArray} {j : Nat} {i : Int} (hx : ev fr x = some (.string s)) (hy : ev fr y = some (.int .i64 i)) (hj : i = (j : Int)) (hT : P.underlying T = some .string) (h1 : j < s.size) :
    Px P n fr ⟨dst, .index T x y, ty, pos, aft, g⟩ (.int .u8 (strB s j)) w := by
  subst hj
  intro a ha
  have e : s[j]? = some s[j] := getElem?_pos s j h1
  simp [execOp, ha.ev hx, ha.ev hy, Instr.index, asIntOf, run_underlying hT, e, strB]
theorem px_geS {x y : Operand} {T U : TypeId} {s t : ByteArray} (hx : ev fr x = some (.string s)) (hy : ev fr y = some (.string t)) : Px P n fr ⟨dst, .binOp .geq T x y U, ty, pos, aft, g⟩ (.bool (!Op.bytesLess s.toList t.toList)) w := fun a ha => by
  simp [execOp, ha.ev hx, ha.ev hy, eqGuard, binOp, Op.stringOp]
end
end Go.Proofs.YtoeclobdbblohaaDoor
