/- Contracts of the library laid at this seat (written by the kit's own tools): the table of numbers, and the comparison of each body. Conditions: none. -/
import Derived.Shelf.Bits.Mul64
import Derived.Test.YtjkeefmpjocilaaProg
import Derived.Lib.Agree
import Derived.KernelRfl
import GoSem.Claim
namespace Go.Proofs.Ytjkeefmpjocilaa
open Go.Shelf
def lays212_ren : Go.Shelf.Ren := ⟨fun | 212 => 82 | 263 => 100 | 264 => 101 | n => n, fun | 46 => 108 | 51 => 115 | 146 => 116 | 53 => 88 | 148 => 118 | n => n, fun | n => n⟩
theorem lays212 : Go.Proofs.Lays.n212 Try.prog lays212_ren := {
  mixed := by kernel_rfl
  f212 := Try.func82.trans (congrArg some (by kernel_rfl))
  f263 := Try.func100.trans (congrArg some (by kernel_rfl))
  f264 := Try.func101.trans (congrArg some (by kernel_rfl))
  t46 := Try.underlying108
  a46 := Try.isAgg108
  z46 := Try.sizeOf108
  v46 := Try.zeroValue108
  t51 := Try.underlying115
  a51 := Try.isAgg115
  z51 := Try.sizeOf115
  v51 := Try.zeroValue115
  t53 := Try.underlying88
  a53 := Try.isAgg88
  z53 := Try.sizeOf88
  v53 := Try.zeroValue88
  t146 := Try.underlying116
  a146 := Try.isAgg116
  z146 := Try.sizeOf116
  v146 := Try.zeroValue116
  t148 := Try.underlying118
  a148 := Try.isAgg118
  z148 := Try.sizeOf118
  v148 := Try.zeroValue118 }
end Go.Proofs.Ytjkeefmpjocilaa
