/- Plain lemmas on numbers and lists; no program in sight. Conditions: none. -/
import Derived.Test.YtjkeefmpjocilaaSx
set_option linter.unusedVariables false
set_option linter.unusedSimpArgs false
namespace Go.Proofs.Ytjkeefmpjocilaa
open Go Go.RowKit
/-! ### the same lemmas under short names -/
theorem Sub.c {fr fr' : Fr} (t : Nat) {v : Value} (h : alook fr t = some v) (hs : Sub fr fr') : Sub fr ((t, v) :: fr') := Sub.cons h hs
theorem nbl {a b : Nat} (h : Nat.ble a b = true) : a ≤ b := Nat.le_of_ble_eq_true h
theorem o1 {a : Value} (ha : a.oneCell' = true) : ∀ u ∈ [a], u.oneCell' = true := one_cons ha one_nil
theorem o2 {a b : Value} (ha : a.oneCell' = true) (hb : b.oneCell' = true) : ∀ u ∈ [a, b], u.oneCell' = true := one_cons ha (o1 hb)
theorem o3 {a b c : Value} (ha : a.oneCell' = true) (hb : b.oneCell' = true) (hc : c.oneCell' = true) : ∀ u ∈ [a, b, c], u.oneCell' = true := one_cons ha (o2 hb hc)
section
variable {P : Program} {n : Nat} {Q : Exit → Act → World → Prop} {fr fr' : Fr} {w : World} {ops : Array Oper} {rest : List Oper} {d : Nat} {ty : TypeId} {pos : String} {aft : Array Edge} {dst : Option Tmp} {g : Option (Nat × Bool)}
theorem mv {x : Operand} {v : Value} (hn : Nat.blt d n = true) (hx : ev fr x = some v) (h : wl P n ops Q rest ((d, v) :: fr) w) : wl P n ops Q (⟨some d, .move x, ty, pos, aft, none⟩ :: rest) fr w := sx_pure rfl rfl hn (px_move hx) h
theorem av {x : Operand} {v : Value} (hn : Nat.blt d n = true) (hx : ev fr x = some v) (h : wl P n ops Q rest ((d, v) :: fr) w) : wl P n ops Q (⟨some d, .assign x, ty, pos, aft, none⟩ :: rest) fr w := sx_pure rfl rfl hn (px_assign hx) h
theorem sp {op : Op} {v : Value} (hn : Nat.blt d n = true) (hp : Px P n fr ⟨some d, op, ty, pos, aft, none⟩ v w) (h : wl P n ops Q rest ((d, v) :: fr) w) : wl P n ops Q (⟨some d, op, ty, pos, aft, none⟩ :: rest) fr w := sx_pure rfl rfl hn hp h
theorem px_ex2 {x : Operand} {i : Nat} {a b v : Value} (hx : ev fr x = some (.tuple #[a, b])) (hv : [a, b][i]? = some v) : Px P n fr ⟨dst, .extract x i, ty, pos, aft, g⟩ v w := px_extract (vs := [a, b]) hx hv
theorem px_ex3 {x : Operand} {i : Nat} {a b c v : Value} (hx : ev fr x = some (.tuple #[a, b, c])) (hv : [a, b, c][i]? = some v) : Px P n fr ⟨dst, .extract x i, ty, pos, aft, g⟩ v w := px_extract (vs := [a, b, c]) hx hv
theorem dt {S : World → Prop} {fuel : Nat} {listed : Array Bool} (i : Nat) {o : Oper} {v : Value} (hi : ops[i]? = some o) (hg : o.guard = none) (hd : o.dst = some d) (hn : Nat.blt d n = true) (hS : S w)
    (hp : ∀ w, S w → Px P n fr o v w) (h : dw P n ops (NoPanicQ Q) S fuel (listed.setIfInBounds i true) ((d, v) :: fr) w)
    (hs : Region.noSelect ops = true := by kernel_rfl) (hf : Region.free .any ops listed i = true := by kernel_rfl) (hr : (Region.ready .any ops listed).contains i = true := by kernel_rfl) : dw P n ops (NoPanicQ Q) S (fuel + 1) listed fr w :=
  dx_take i hi hg hd hn hs hf hr hS hp h
end
end Go.Proofs.Ytjkeefmpjocilaa
