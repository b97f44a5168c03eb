/- A world in which each listed variable reads as listed. Conditions: none. -/
import Derived.Test.YtoeclobdbblohaaGreatDoorLaid
import Derived.Test.YtoeclobdbblohaaGreatDoorTab
import Derived.LaidLaws
import Derived.JoinedOf
import Derived.Deep.Slices
set_option linter.unusedVariables false
set_option linter.unusedSimpArgs false
namespace Go.Proofs.YtoeclobdbblohaaGreatDoor
open Go Go.RowKit
set_option maxRecDepth 100000
noncomputable def laidWorldT (os : Os) : World := { World.holding Tryz.prog os ⟨#[], #[], []⟩ with heap := (((((World.holding Tryz.prog os ⟨#[], #[], []⟩).heap.modify 0 fun | .cells _ t fz => .cells (crCells tabI).toArray t fz | o => o).modify 2 fun | .cells _ t fz => .cells ((Lib.pow10Tab : List Int).map fun z => Value.int .u64 z).toArray t fz | o => o).modify 3 fun | .cells _ t fz => .cells (([0, 1, 28, 2, 29, 14, 24, 3, 30, 22, 20, 15, 25, 17, 4, 8, 31, 27, 13, 23, 21, 19, 16, 7, 26, 12, 18, 6, 11, 5, 10, 9] : List Int).map fun z => Value.int .u8 z).toArray t fz | o => o).modify 4 fun | .cells _ t fz => .cells (([0, 1, 56, 2, 57, 49, 28, 3, 61, 58, 42, 50, 38, 29, 17, 4, 62, 47, 59, 36, 45, 43, 51, 22, 53, 39, 33, 30, 24, 18, 12, 5, 63, 55, 48, 27, 60, 41, 37, 16, 46, 35, 44, 21, 52, 32, 23, 11, 54, 26, 40, 15, 34, 20, 31, 10, 25, 14, 19, 9, 13, 8, 7, 6] : List Int).map fun z => Value.int .u8 z).toArray t fz | o => o) }
theorem laid_cells_of {W : World} (h : Lib.VarReads Tryz.prog W "loop.example/g00793/impl.currencies" Rows.laid_loop_example_g00793_impl_currencies) : W.var? Tryz.prog "loop.example/g00793/impl.currencies" = some (crCells tabI).toArray := by
  obtain ⟨g, t, cs, fuel, p, hg, ht, hvar, hd⟩ := h
  obtain rfl := Option.some.inj (curVar.symm.trans hg)
  obtain rfl := Option.some.inj (curType.symm.trans ht)
  rw [hvar]
  have := tab_of_trod hd
  congr 1
  apply Array.ext'
  simpa using this
end Go.Proofs.YtoeclobdbblohaaGreatDoor
