/- The library's table of powers of ten: what the listed variable reads as, and the fact that it is there. Conditions: none. -/
import Derived.Test.YtoeclobdbblohaaGreatDoorSx
import Derived.Lib.LaidU8
import Derived.Lib.ItoaNum
import Derived.ProofKit
set_option linter.unusedVariables false
set_option linter.unusedSimpArgs false
namespace Go.Proofs.YtoeclobdbblohaaGreatDoor
open Go Go.RowKit
set_option maxRecDepth 100000
theorem powVar : Tryz.prog.globalNamed "internal/strconv.uint64pow10" = some 2 := by kernel_rfl
theorem powType : (Tryz.prog.globals[2]?).map (·.type) = some 174 := by kernel_rfl
theorem powData : (Rows.laid_internal_strconv_uint64pow10 : DataW Unit) = Lib.tabData .u64 Lib.pow10Tab := by kernel_rfl
def GlobP (w : World) : Prop := ∃ U fz, w.heap[2]? = some (.cells (Lib.pow10Tab.map fun z => Value.int .u64 z).toArray U fz)
theorem GlobP.lt {w : World} (h : GlobP w) : 2 < w.heap.size := by
  obtain ⟨U, fz, h⟩ := h
  rcases Nat.lt_or_ge 2 w.heap.size with h' | h'
  · exact h'
  · simp [Array.getElem?_eq_none h'] at h
theorem GlobP.chg {w w' : World} {l h : Nat} (hg : GlobP w) (hc : Chg l h w w') (ho : 2 < l ∨ h ≤ 2) : GlobP w' := by
  have hlt := hg.lt
  obtain ⟨U, fz, h⟩ := hg
  exact ⟨U, fz, (hc.block 2 hlt ho).trans h⟩
theorem GlobP.ext {w w' : World} (hg : GlobP w) (hc : Chg 0 0 w w') : GlobP w' := hg.chg hc (.inr (Nat.zero_le _))
theorem GlobP.tab {w : World} (hg : GlobP w) : Lib.TabIs Tryz.prog w "internal/strconv.uint64pow10" .u64 Lib.pow10Tab := by
  obtain ⟨U, fz, h⟩ := hg
  unfold Lib.TabIs World.var?
  rw [powVar]
  simp [h]
theorem globP_of {W : World} (h : Lib.VarReads Tryz.prog W "internal/strconv.uint64pow10" Rows.laid_internal_strconv_uint64pow10) : GlobP W := by
  obtain ⟨g, t, cs, fuel, p, hg, ht, hvar, hd⟩ := h
  obtain rfl := Option.some.inj (powVar.symm.trans hg)
  obtain rfl := Option.some.inj (powType.symm.trans ht)
  rw [powData] at hd
  have e := Lib.cells_of_tab Tryz.underlying174 Tryz.underlying95 (by kernel_rfl) (by kernel_rfl) hd
  unfold World.var? at hvar
  rw [powVar] at hvar
  simp only [Option.bind_some] at hvar
  split at hvar
  · rename_i cs' U fz hh
    simp at hvar
    exact ⟨U, fz, by rw [hh, hvar, ← e]⟩
  · cases hvar
end Go.Proofs.YtoeclobdbblohaaGreatDoor
