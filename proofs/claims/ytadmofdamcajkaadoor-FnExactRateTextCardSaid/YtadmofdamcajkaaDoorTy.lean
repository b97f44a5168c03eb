/- Closed facts on the types of this seat. Conditions: none. -/
import Derived.Test.YtadmofdamcajkaaDoorSx
set_option linter.unusedVariables false
set_option linter.unusedSimpArgs false
namespace Go.Proofs.YtadmofdamcajkaaDoor
open Go Go.RowKit
abbrev intT : TypeId := 3
abbrev strT : TypeId := 9
theorem xelt22 : Elt Tryd.prog 22 3 Tryd.t3 (.int .i64 0) 1 8 := ⟨Tryd.underlying22, by kernel_rfl, rfl, rfl, rfl, rfl, by decide⟩
theorem xfld24x0 : ∀ b o w, (Instr.fieldAt 24 (.pointer (some ⟨b, o, none⟩)) 0).run Tryd.prog w = .ok (.pointer (some ⟨b, o + 0, none⟩)) w := fun b o w => by simp [Instr.fieldAt, Instr.sureAddr, fieldPlace, add_at]
theorem xfld24x1 : ∀ b o w, (Instr.fieldAt 24 (.pointer (some ⟨b, o, none⟩)) 1).run Tryd.prog w = .ok (.pointer (some ⟨b, o + 1, none⟩)) w := fun b o w => by simp [Instr.fieldAt, Instr.sureAddr, fieldPlace, add_at]
theorem xfld25x0 : ∀ b o w, (Instr.fieldAt 25 (.pointer (some ⟨b, o, none⟩)) 0).run Tryd.prog w = .ok (.pointer (some ⟨b, o + 0, none⟩)) w := fun b o w => by simp [Instr.fieldAt, Instr.sureAddr, fieldPlace, add_at]
theorem xfld25x1 : ∀ b o w, (Instr.fieldAt 25 (.pointer (some ⟨b, o, none⟩)) 1).run Tryd.prog w = .ok (.pointer (some ⟨b, o + 2, none⟩)) w := fun b o w => by simp [Instr.fieldAt, Instr.sureAddr, fieldPlace, add_at]
theorem xfld26x0 : ∀ b o w, (Instr.fieldAt 26 (.pointer (some ⟨b, o, none⟩)) 0).run Tryd.prog w = .ok (.pointer (some ⟨b, o + 0, none⟩)) w := fun b o w => by simp [Instr.fieldAt, Instr.sureAddr, fieldPlace, add_at]
theorem xfld26x1 : ∀ b o w, (Instr.fieldAt 26 (.pointer (some ⟨b, o, none⟩)) 1).run Tryd.prog w = .ok (.pointer (some ⟨b, o + 2, none⟩)) w := fun b o w => by simp [Instr.fieldAt, Instr.sureAddr, fieldPlace, add_at]
theorem xfld27x0 : ∀ b o w, (Instr.fieldAt 27 (.pointer (some ⟨b, o, none⟩)) 0).run Tryd.prog w = .ok (.pointer (some ⟨b, o + 0, none⟩)) w := fun b o w => by simp [Instr.fieldAt, Instr.sureAddr, fieldPlace, add_at]
theorem xfld27x1 : ∀ b o w, (Instr.fieldAt 27 (.pointer (some ⟨b, o, none⟩)) 1).run Tryd.prog w = .ok (.pointer (some ⟨b, o + 1, none⟩)) w := fun b o w => by simp [Instr.fieldAt, Instr.sureAddr, fieldPlace, add_at]
theorem xfld27x2 : ∀ b o w, (Instr.fieldAt 27 (.pointer (some ⟨b, o, none⟩)) 2).run Tryd.prog w = .ok (.pointer (some ⟨b, o + 2, none⟩)) w := fun b o w => by simp [Instr.fieldAt, Instr.sureAddr, fieldPlace, add_at]
theorem xfld28x0 : ∀ b o w, (Instr.fieldAt 28 (.pointer (some ⟨b, o, none⟩)) 0).run Tryd.prog w = .ok (.pointer (some ⟨b, o + 0, none⟩)) w := fun b o w => by simp [Instr.fieldAt, Instr.sureAddr, fieldPlace, add_at]
theorem xfld28x1 : ∀ b o w, (Instr.fieldAt 28 (.pointer (some ⟨b, o, none⟩)) 1).run Tryd.prog w = .ok (.pointer (some ⟨b, o + 1, none⟩)) w := fun b o w => by simp [Instr.fieldAt, Instr.sureAddr, fieldPlace, add_at]
theorem xfld28x2 : ∀ b o w, (Instr.fieldAt 28 (.pointer (some ⟨b, o, none⟩)) 2).run Tryd.prog w = .ok (.pointer (some ⟨b, o + 2, none⟩)) w := fun b o w => by simp [Instr.fieldAt, Instr.sureAddr, fieldPlace, add_at]
theorem xfld31x0 : ∀ b o w, (Instr.fieldAt 31 (.pointer (some ⟨b, o, none⟩)) 0).run Tryd.prog w = .ok (.pointer (some ⟨b, o + 0, none⟩)) w := fun b o w => by simp [Instr.fieldAt, Instr.sureAddr, fieldPlace, add_at]
theorem xfld31x1 : ∀ b o w, (Instr.fieldAt 31 (.pointer (some ⟨b, o, none⟩)) 1).run Tryd.prog w = .ok (.pointer (some ⟨b, o + 1, none⟩)) w := fun b o w => by simp [Instr.fieldAt, Instr.sureAddr, fieldPlace, add_at]
theorem xfld32x0 : ∀ b o w, (Instr.fieldAt 32 (.pointer (some ⟨b, o, none⟩)) 0).run Tryd.prog w = .ok (.pointer (some ⟨b, o + 0, none⟩)) w := fun b o w => by simp [Instr.fieldAt, Instr.sureAddr, fieldPlace, add_at]
theorem xfld32x1 : ∀ b o w, (Instr.fieldAt 32 (.pointer (some ⟨b, o, none⟩)) 1).run Tryd.prog w = .ok (.pointer (some ⟨b, o + 2, none⟩)) w := fun b o w => by simp [Instr.fieldAt, Instr.sureAddr, fieldPlace, add_at]
theorem xfld33x0 : ∀ b o w, (Instr.fieldAt 33 (.pointer (some ⟨b, o, none⟩)) 0).run Tryd.prog w = .ok (.pointer (some ⟨b, o + 0, none⟩)) w := fun b o w => by simp [Instr.fieldAt, Instr.sureAddr, fieldPlace, add_at]
theorem xfld33x1 : ∀ b o w, (Instr.fieldAt 33 (.pointer (some ⟨b, o, none⟩)) 1).run Tryd.prog w = .ok (.pointer (some ⟨b, o + 2, none⟩)) w := fun b o w => by simp [Instr.fieldAt, Instr.sureAddr, fieldPlace, add_at]
theorem xfld34x0 : ∀ b o w, (Instr.fieldAt 34 (.pointer (some ⟨b, o, none⟩)) 0).run Tryd.prog w = .ok (.pointer (some ⟨b, o + 0, none⟩)) w := fun b o w => by simp [Instr.fieldAt, Instr.sureAddr, fieldPlace, add_at]
theorem xfld34x1 : ∀ b o w, (Instr.fieldAt 34 (.pointer (some ⟨b, o, none⟩)) 1).run Tryd.prog w = .ok (.pointer (some ⟨b, o + 1, none⟩)) w := fun b o w => by simp [Instr.fieldAt, Instr.sureAddr, fieldPlace, add_at]
theorem xfld34x2 : ∀ b o w, (Instr.fieldAt 34 (.pointer (some ⟨b, o, none⟩)) 2).run Tryd.prog w = .ok (.pointer (some ⟨b, o + 2, none⟩)) w := fun b o w => by simp [Instr.fieldAt, Instr.sureAddr, fieldPlace, add_at]
theorem xfld35x0 : ∀ b o w, (Instr.fieldAt 35 (.pointer (some ⟨b, o, none⟩)) 0).run Tryd.prog w = .ok (.pointer (some ⟨b, o + 0, none⟩)) w := fun b o w => by simp [Instr.fieldAt, Instr.sureAddr, fieldPlace, add_at]
theorem xfld35x1 : ∀ b o w, (Instr.fieldAt 35 (.pointer (some ⟨b, o, none⟩)) 1).run Tryd.prog w = .ok (.pointer (some ⟨b, o + 1, none⟩)) w := fun b o w => by simp [Instr.fieldAt, Instr.sureAddr, fieldPlace, add_at]
theorem xfld35x2 : ∀ b o w, (Instr.fieldAt 35 (.pointer (some ⟨b, o, none⟩)) 2).run Tryd.prog w = .ok (.pointer (some ⟨b, o + 2, none⟩)) w := fun b o w => by simp [Instr.fieldAt, Instr.sureAddr, fieldPlace, add_at]
theorem xfld54x0 : ∀ b o w, (Instr.fieldAt 54 (.pointer (some ⟨b, o, none⟩)) 0).run Tryd.prog w = .ok (.pointer (some ⟨b, o + 0, none⟩)) w := fun b o w => by simp [Instr.fieldAt, Instr.sureAddr, fieldPlace, add_at]
theorem xfld54x1 : ∀ b o w, (Instr.fieldAt 54 (.pointer (some ⟨b, o, none⟩)) 1).run Tryd.prog w = .ok (.pointer (some ⟨b, o + 1, none⟩)) w := fun b o w => by simp [Instr.fieldAt, Instr.sureAddr, fieldPlace, add_at]
theorem xfld54x2 : ∀ b o w, (Instr.fieldAt 54 (.pointer (some ⟨b, o, none⟩)) 2).run Tryd.prog w = .ok (.pointer (some ⟨b, o + 2, none⟩)) w := fun b o w => by simp [Instr.fieldAt, Instr.sureAddr, fieldPlace, add_at]
theorem xfld54x3 : ∀ b o w, (Instr.fieldAt 54 (.pointer (some ⟨b, o, none⟩)) 3).run Tryd.prog w = .ok (.pointer (some ⟨b, o + 3, none⟩)) w := fun b o w => by simp [Instr.fieldAt, Instr.sureAddr, fieldPlace, add_at]
theorem xfld62x0 : ∀ b o w, (Instr.fieldAt 62 (.pointer (some ⟨b, o, none⟩)) 0).run Tryd.prog w = .ok (.pointer (some ⟨b, o + 0, none⟩)) w := fun b o w => by simp [Instr.fieldAt, Instr.sureAddr, fieldPlace, add_at]
theorem xfld62x1 : ∀ b o w, (Instr.fieldAt 62 (.pointer (some ⟨b, o, none⟩)) 1).run Tryd.prog w = .ok (.pointer (some ⟨b, o + 1, none⟩)) w := fun b o w => by simp [Instr.fieldAt, Instr.sureAddr, fieldPlace, add_at]
theorem xfld62x2 : ∀ b o w, (Instr.fieldAt 62 (.pointer (some ⟨b, o, none⟩)) 2).run Tryd.prog w = .ok (.pointer (some ⟨b, o + 2, none⟩)) w := fun b o w => by simp [Instr.fieldAt, Instr.sureAddr, fieldPlace, add_at]
theorem xfld62x3 : ∀ b o w, (Instr.fieldAt 62 (.pointer (some ⟨b, o, none⟩)) 3).run Tryd.prog w = .ok (.pointer (some ⟨b, o + 3, none⟩)) w := fun b o w => by simp [Instr.fieldAt, Instr.sureAddr, fieldPlace, add_at]
theorem xfld63x0 : ∀ b o w, (Instr.fieldAt 63 (.pointer (some ⟨b, o, none⟩)) 0).run Tryd.prog w = .ok (.pointer (some ⟨b, o + 0, none⟩)) w := fun b o w => by simp [Instr.fieldAt, Instr.sureAddr, fieldPlace, add_at]
theorem xfld63x1 : ∀ b o w, (Instr.fieldAt 63 (.pointer (some ⟨b, o, none⟩)) 1).run Tryd.prog w = .ok (.pointer (some ⟨b, o + 1, none⟩)) w := fun b o w => by simp [Instr.fieldAt, Instr.sureAddr, fieldPlace, add_at]
theorem xfld63x2 : ∀ b o w, (Instr.fieldAt 63 (.pointer (some ⟨b, o, none⟩)) 2).run Tryd.prog w = .ok (.pointer (some ⟨b, o + 2, none⟩)) w := fun b o w => by simp [Instr.fieldAt, Instr.sureAddr, fieldPlace, add_at]
theorem xfld63x3 : ∀ b o w, (Instr.fieldAt 63 (.pointer (some ⟨b, o, none⟩)) 3).run Tryd.prog w = .ok (.pointer (some ⟨b, o + 3, none⟩)) w := fun b o w => by simp [Instr.fieldAt, Instr.sureAddr, fieldPlace, add_at]
theorem xelt68 : Elt Tryd.prog 68 54 Tryd.t54 (.agg #[.string ⟨#[]⟩, .string ⟨#[]⟩, .int .i64 0, .int .i64 0]) 4 48 := ⟨Tryd.underlying68, by kernel_rfl, rfl, rfl, rfl, rfl, by decide⟩
theorem xelt71 : Elt Tryd.prog 71 5 Tryd.t5 (.int .u8 0) 1 1 := ⟨Tryd.underlying71, by kernel_rfl, rfl, rfl, rfl, rfl, by decide⟩
theorem xfv54x0 {x0 x1 x2 x3 : Value} (w : World) : (Instr.field 54 (.agg #[x0, x1, x2, x3]) 0).run Tryd.prog w = .ok (x0) w := by kernel_rfl
theorem xbld31x  (w : World) : (Instr.build 31 (List.toArray [])).run Tryd.prog w = .ok (.agg #[.bool false, .slice none 0 0]) w := by
  simp [Instr.build, Instr.fill, cells_agg]
theorem xbld54x  (w : World) : (Instr.build 54 (List.toArray [])).run Tryd.prog w = .ok (.agg #[.string ⟨#[]⟩, .string ⟨#[]⟩, .int .i64 0, .int .i64 0]) w := by
  simp [Instr.build, Instr.fill, cells_agg]
theorem xbld54x0x1x2x3 {x0 x1 x2 x3 : Value} (h0 : x0.oneCell' = true) (h1 : x1.oneCell' = true) (h2 : x2.oneCell' = true) (h3 : x3.oneCell' = true) (w : World) : (Instr.build 54 (List.toArray [(0, x0), (1, x1), (2, x2), (3, x3)])).run Tryd.prog w = .ok (.agg #[x0, x1, x2, x3]) w := by
  have e0 := cells_one h0
  have e1 := cells_one h1
  have e2 := cells_one h2
  have e3 := cells_one h3
  simp [Instr.build, Instr.fill, cells_agg, e0, e1, e2, e3]
theorem xbld63x  (w : World) : (Instr.build 63 (List.toArray [])).run Tryd.prog w = .ok (.agg #[.string ⟨#[]⟩, .string ⟨#[]⟩, .int .i64 0, .int .i64 0]) w := by
  simp [Instr.build, Instr.fill, cells_agg]
theorem xbld63x0x1x2x3 {x0 x1 x2 x3 : Value} (h0 : x0.oneCell' = true) (h1 : x1.oneCell' = true) (h2 : x2.oneCell' = true) (h3 : x3.oneCell' = true) (w : World) : (Instr.build 63 (List.toArray [(0, x0), (1, x1), (2, x2), (3, x3)])).run Tryd.prog w = .ok (.agg #[x0, x1, x2, x3]) w := by
  have e0 := cells_one h0
  have e1 := cells_one h1
  have e2 := cells_one h2
  have e3 := cells_one h3
  simp [Instr.build, Instr.fill, cells_agg, e0, e1, e2, e3]
end Go.Proofs.YtadmofdamcajkaaDoor
