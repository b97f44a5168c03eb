/- Contracts of the library laid at this seat (written by the kit's own tools): the table of numbers, and the comparison of each body. Conditions: none. -/
import Derived.Shelf.Sort.Plain
import Derived.Test.YtemlgjheidbccaaDoorProg
import Derived.Lib.Agree
import Derived.KernelRfl
import GoSem.Claim
namespace Go.Proofs.YtemlgjheidbccaaDoor
open Go.Shelf
def lays192_ren : Go.Shelf.Ren := ⟨fun | 192 => 22 | 190 => 32 | 125 => 43 | 258 => 42 | 128 => 62 | 129 => 63 | 302 => 53 | 303 => 54 | 304 => 55 | 305 => 56 | 306 => 57 | 307 => 58 | 308 => 59 | 309 => 60 | 310 => 61 | 333 => 67 | 329 => 68 | 330 => 69 | 334 => 70 | 335 => 71 | 336 => 72 | 344 => 75 | n => n, fun | 31 => 22 | 0 => 0 | 9 => 9 | 3 => 3 | 46 => 72 | 51 => 89 | 53 => 69 | 4 => 4 | 183 => 81 | 182 => 80 | 131 => 86 | 5 => 5 | 218 => 93 | 222 => 97 | 228 => 101 | 229 => 102 | n => n, fun | n => n⟩
theorem lays192 : Go.Proofs.Lays.n192 Tryd.prog lays192_ren := {
  mixed := by kernel_rfl
  f125 := Tryd.func43.trans (congrArg some (by kernel_rfl))
  f128 := Tryd.func62.trans (congrArg some (by kernel_rfl))
  f129 := Tryd.func63.trans (congrArg some (by kernel_rfl))
  f190 := Tryd.func32.trans (congrArg some (by kernel_rfl))
  f192 := Tryd.func22.trans (congrArg some (by kernel_rfl))
  f258 := Tryd.func42.trans (congrArg some (by kernel_rfl))
  f302 := Tryd.func53.trans (congrArg some (by kernel_rfl))
  f303 := Tryd.func54.trans (congrArg some (by kernel_rfl))
  f304 := Tryd.func55.trans (congrArg some (by kernel_rfl))
  f305 := Tryd.func56.trans (congrArg some (by kernel_rfl))
  f306 := Tryd.func57.trans (congrArg some (by kernel_rfl))
  f307 := Tryd.func58.trans (congrArg some (by kernel_rfl))
  f308 := Tryd.func59.trans (congrArg some (by kernel_rfl))
  f309 := Tryd.func60.trans (congrArg some (by kernel_rfl))
  f310 := Tryd.func61.trans (congrArg some (by kernel_rfl))
  f329 := Tryd.func68.trans (congrArg some (by kernel_rfl))
  f330 := Tryd.func69.trans (congrArg some (by kernel_rfl))
  f333 := Tryd.func67.trans (congrArg some (by kernel_rfl))
  f334 := Tryd.func70.trans (congrArg some (by kernel_rfl))
  f335 := Tryd.func71.trans (congrArg some (by kernel_rfl))
  f336 := Tryd.func72.trans (congrArg some (by kernel_rfl))
  f344 := Tryd.func75.trans (congrArg some (by kernel_rfl))
  t0 := Tryd.underlying0
  a0 := Tryd.isAgg0
  z0 := Tryd.sizeOf0
  v0 := Tryd.zeroValue0
  t3 := Tryd.underlying3
  a3 := Tryd.isAgg3
  z3 := Tryd.sizeOf3
  v3 := Tryd.zeroValue3
  t4 := Tryd.underlying4
  a4 := Tryd.isAgg4
  z4 := Tryd.sizeOf4
  v4 := Tryd.zeroValue4
  t5 := Tryd.underlying5
  a5 := Tryd.isAgg5
  z5 := Tryd.sizeOf5
  v5 := Tryd.zeroValue5
  t9 := Tryd.underlying9
  a9 := Tryd.isAgg9
  z9 := Tryd.sizeOf9
  v9 := Tryd.zeroValue9
  t31 := Tryd.underlying22
  a31 := Tryd.isAgg22
  z31 := Tryd.sizeOf22
  v31 := Tryd.zeroValue22
  t46 := Tryd.underlying72
  a46 := Tryd.isAgg72
  z46 := Tryd.sizeOf72
  v46 := Tryd.zeroValue72
  t51 := Tryd.underlying89
  a51 := Tryd.isAgg89
  z51 := Tryd.sizeOf89
  v51 := Tryd.zeroValue89
  t53 := Tryd.underlying69
  a53 := Tryd.isAgg69
  z53 := Tryd.sizeOf69
  v53 := Tryd.zeroValue69
  t131 := Tryd.underlying86
  a131 := Tryd.isAgg86
  z131 := Tryd.sizeOf86
  v131 := Tryd.zeroValue86
  t182 := Tryd.underlying80
  a182 := Tryd.isAgg80
  z182 := Tryd.sizeOf80
  v182 := Tryd.zeroValue80
  t183 := Tryd.underlying81
  a183 := Tryd.isAgg81
  z183 := Tryd.sizeOf81
  v183 := Tryd.zeroValue81
  t218 := Tryd.underlying93
  a218 := Tryd.isAgg93
  z218 := Tryd.sizeOf93
  v218 := Tryd.zeroValue93
  t222 := Tryd.underlying97
  a222 := Tryd.isAgg97
  z222 := Tryd.sizeOf97
  v222 := Tryd.zeroValue97
  t228 := Tryd.underlying101
  a228 := Tryd.isAgg101
  z228 := Tryd.sizeOf101
  v228 := Tryd.zeroValue101
  t229 := Tryd.underlying102
  a229 := Tryd.isAgg102
  z229 := Tryd.sizeOf102
  v229 := Tryd.zeroValue102 }
end Go.Proofs.YtemlgjheidbccaaDoor
