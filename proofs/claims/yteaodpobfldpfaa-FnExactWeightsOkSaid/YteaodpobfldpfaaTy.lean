/- Closed facts on the types of this seat. Conditions: none. -/
import Derived.Test.YteaodpobfldpfaaSx
set_option linter.unusedVariables false
set_option linter.unusedSimpArgs false
namespace Go.Proofs.Yteaodpobfldpfaa
open Go Go.RowKit
abbrev intT : TypeId := 3
abbrev strT : TypeId := 9
theorem xelt24 : Elt Try.prog 24 3 Try.t3 (.int .i64 0) 1 8 := ⟨Try.underlying24, by kernel_rfl, rfl, rfl, rfl, rfl, by decide⟩
theorem xelt29 : Elt Try.prog 29 9 Try.t9 (.string ⟨#[]⟩) 1 16 := ⟨Try.underlying29, by kernel_rfl, rfl, rfl, rfl, rfl, by decide⟩
end Go.Proofs.Yteaodpobfldpfaa
