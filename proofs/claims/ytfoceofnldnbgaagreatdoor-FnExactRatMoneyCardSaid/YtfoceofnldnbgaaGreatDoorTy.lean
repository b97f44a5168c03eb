/- Closed facts on the types of this seat. Conditions: none. -/
import Derived.Test.YtfoceofnldnbgaaGreatDoorSx
set_option linter.unusedVariables false
set_option linter.unusedSimpArgs false
namespace Go.Proofs.YtfoceofnldnbgaaGreatDoor
open Go Go.RowKit
abbrev intT : TypeId := 3
abbrev strT : TypeId := 9
theorem xelt22 : Elt Tryz.prog 22 3 Tryz.t3 (.int .i64 0) 1 8 := ⟨Tryz.underlying22, by kernel_rfl, rfl, rfl, rfl, rfl, by decide⟩
theorem xfld24x0 : ∀ b o w, (Instr.fieldAt 24 (.pointer (some ⟨b, o, none⟩)) 0).run Tryz.prog w = .ok (.pointer (some ⟨b, o + 0, none⟩)) w := fun b o w => by simp [Instr.fieldAt, Instr.sureAddr, fieldPlace, add_at]
theorem xfld24x1 : ∀ b o w, (Instr.fieldAt 24 (.pointer (some ⟨b, o, none⟩)) 1).run Tryz.prog w = .ok (.pointer (some ⟨b, o + 1, none⟩)) w := fun b o w => by simp [Instr.fieldAt, Instr.sureAddr, fieldPlace, add_at]
theorem xfld25x0 : ∀ b o w, (Instr.fieldAt 25 (.pointer (some ⟨b, o, none⟩)) 0).run Tryz.prog w = .ok (.pointer (some ⟨b, o + 0, none⟩)) w := fun b o w => by simp [Instr.fieldAt, Instr.sureAddr, fieldPlace, add_at]
theorem xfld25x1 : ∀ b o w, (Instr.fieldAt 25 (.pointer (some ⟨b, o, none⟩)) 1).run Tryz.prog w = .ok (.pointer (some ⟨b, o + 2, none⟩)) w := fun b o w => by simp [Instr.fieldAt, Instr.sureAddr, fieldPlace, add_at]
theorem xfld26x0 : ∀ b o w, (Instr.fieldAt 26 (.pointer (some ⟨b, o, none⟩)) 0).run Tryz.prog w = .ok (.pointer (some ⟨b, o + 0, none⟩)) w := fun b o w => by simp [Instr.fieldAt, Instr.sureAddr, fieldPlace, add_at]
theorem xfld26x1 : ∀ b o w, (Instr.fieldAt 26 (.pointer (some ⟨b, o, none⟩)) 1).run Tryz.prog w = .ok (.pointer (some ⟨b, o + 2, none⟩)) w := fun b o w => by simp [Instr.fieldAt, Instr.sureAddr, fieldPlace, add_at]
theorem xfld28x0 : ∀ b o w, (Instr.fieldAt 28 (.pointer (some ⟨b, o, none⟩)) 0).run Tryz.prog w = .ok (.pointer (some ⟨b, o + 0, none⟩)) w := fun b o w => by simp [Instr.fieldAt, Instr.sureAddr, fieldPlace, add_at]
theorem xfld28x1 : ∀ b o w, (Instr.fieldAt 28 (.pointer (some ⟨b, o, none⟩)) 1).run Tryz.prog w = .ok (.pointer (some ⟨b, o + 1, none⟩)) w := fun b o w => by simp [Instr.fieldAt, Instr.sureAddr, fieldPlace, add_at]
theorem xfld29x0 : ∀ b o w, (Instr.fieldAt 29 (.pointer (some ⟨b, o, none⟩)) 0).run Tryz.prog w = .ok (.pointer (some ⟨b, o + 0, none⟩)) w := fun b o w => by simp [Instr.fieldAt, Instr.sureAddr, fieldPlace, add_at]
theorem xfld29x1 : ∀ b o w, (Instr.fieldAt 29 (.pointer (some ⟨b, o, none⟩)) 1).run Tryz.prog w = .ok (.pointer (some ⟨b, o + 1, none⟩)) w := fun b o w => by simp [Instr.fieldAt, Instr.sureAddr, fieldPlace, add_at]
theorem xfld30x0 : ∀ b o w, (Instr.fieldAt 30 (.pointer (some ⟨b, o, none⟩)) 0).run Tryz.prog w = .ok (.pointer (some ⟨b, o + 0, none⟩)) w := fun b o w => by simp [Instr.fieldAt, Instr.sureAddr, fieldPlace, add_at]
theorem xfld30x1 : ∀ b o w, (Instr.fieldAt 30 (.pointer (some ⟨b, o, none⟩)) 1).run Tryz.prog w = .ok (.pointer (some ⟨b, o + 1, none⟩)) w := fun b o w => by simp [Instr.fieldAt, Instr.sureAddr, fieldPlace, add_at]
theorem xfld31x0 : ∀ b o w, (Instr.fieldAt 31 (.pointer (some ⟨b, o, none⟩)) 0).run Tryz.prog w = .ok (.pointer (some ⟨b, o + 0, none⟩)) w := fun b o w => by simp [Instr.fieldAt, Instr.sureAddr, fieldPlace, add_at]
theorem xfld31x1 : ∀ b o w, (Instr.fieldAt 31 (.pointer (some ⟨b, o, none⟩)) 1).run Tryz.prog w = .ok (.pointer (some ⟨b, o + 2, none⟩)) w := fun b o w => by simp [Instr.fieldAt, Instr.sureAddr, fieldPlace, add_at]
theorem xfld32x0 : ∀ b o w, (Instr.fieldAt 32 (.pointer (some ⟨b, o, none⟩)) 0).run Tryz.prog w = .ok (.pointer (some ⟨b, o + 0, none⟩)) w := fun b o w => by simp [Instr.fieldAt, Instr.sureAddr, fieldPlace, add_at]
theorem xfld32x1 : ∀ b o w, (Instr.fieldAt 32 (.pointer (some ⟨b, o, none⟩)) 1).run Tryz.prog w = .ok (.pointer (some ⟨b, o + 2, none⟩)) w := fun b o w => by simp [Instr.fieldAt, Instr.sureAddr, fieldPlace, add_at]
theorem xfld81x0 : ∀ b o w, (Instr.fieldAt 81 (.pointer (some ⟨b, o, none⟩)) 0).run Tryz.prog w = .ok (.pointer (some ⟨b, o + 0, none⟩)) w := fun b o w => by simp [Instr.fieldAt, Instr.sureAddr, fieldPlace, add_at]
theorem xfld81x1 : ∀ b o w, (Instr.fieldAt 81 (.pointer (some ⟨b, o, none⟩)) 1).run Tryz.prog w = .ok (.pointer (some ⟨b, o + 1, none⟩)) w := fun b o w => by simp [Instr.fieldAt, Instr.sureAddr, fieldPlace, add_at]
theorem xfld81x2 : ∀ b o w, (Instr.fieldAt 81 (.pointer (some ⟨b, o, none⟩)) 2).run Tryz.prog w = .ok (.pointer (some ⟨b, o + 2, none⟩)) w := fun b o w => by simp [Instr.fieldAt, Instr.sureAddr, fieldPlace, add_at]
theorem xfld81x3 : ∀ b o w, (Instr.fieldAt 81 (.pointer (some ⟨b, o, none⟩)) 3).run Tryz.prog w = .ok (.pointer (some ⟨b, o + 3, none⟩)) w := fun b o w => by simp [Instr.fieldAt, Instr.sureAddr, fieldPlace, add_at]
theorem xfld84x0 : ∀ b o w, (Instr.fieldAt 84 (.pointer (some ⟨b, o, none⟩)) 0).run Tryz.prog w = .ok (.pointer (some ⟨b, o + 0, none⟩)) w := fun b o w => by simp [Instr.fieldAt, Instr.sureAddr, fieldPlace, add_at]
theorem xfld84x1 : ∀ b o w, (Instr.fieldAt 84 (.pointer (some ⟨b, o, none⟩)) 1).run Tryz.prog w = .ok (.pointer (some ⟨b, o + 1, none⟩)) w := fun b o w => by simp [Instr.fieldAt, Instr.sureAddr, fieldPlace, add_at]
theorem xfld85x0 : ∀ b o w, (Instr.fieldAt 85 (.pointer (some ⟨b, o, none⟩)) 0).run Tryz.prog w = .ok (.pointer (some ⟨b, o + 0, none⟩)) w := fun b o w => by simp [Instr.fieldAt, Instr.sureAddr, fieldPlace, add_at]
theorem xfld85x1 : ∀ b o w, (Instr.fieldAt 85 (.pointer (some ⟨b, o, none⟩)) 1).run Tryz.prog w = .ok (.pointer (some ⟨b, o + 1, none⟩)) w := fun b o w => by simp [Instr.fieldAt, Instr.sureAddr, fieldPlace, add_at]
theorem xfld92x0 : ∀ b o w, (Instr.fieldAt 92 (.pointer (some ⟨b, o, none⟩)) 0).run Tryz.prog w = .ok (.pointer (some ⟨b, o + 0, none⟩)) w := fun b o w => by simp [Instr.fieldAt, Instr.sureAddr, fieldPlace, add_at]
theorem xfld92x1 : ∀ b o w, (Instr.fieldAt 92 (.pointer (some ⟨b, o, none⟩)) 1).run Tryz.prog w = .ok (.pointer (some ⟨b, o + 1, none⟩)) w := fun b o w => by simp [Instr.fieldAt, Instr.sureAddr, fieldPlace, add_at]
theorem xfld92x2 : ∀ b o w, (Instr.fieldAt 92 (.pointer (some ⟨b, o, none⟩)) 2).run Tryz.prog w = .ok (.pointer (some ⟨b, o + 2, none⟩)) w := fun b o w => by simp [Instr.fieldAt, Instr.sureAddr, fieldPlace, add_at]
theorem xfld92x3 : ∀ b o w, (Instr.fieldAt 92 (.pointer (some ⟨b, o, none⟩)) 3).run Tryz.prog w = .ok (.pointer (some ⟨b, o + 3, none⟩)) w := fun b o w => by simp [Instr.fieldAt, Instr.sureAddr, fieldPlace, add_at]
theorem xfld93x0 : ∀ b o w, (Instr.fieldAt 93 (.pointer (some ⟨b, o, none⟩)) 0).run Tryz.prog w = .ok (.pointer (some ⟨b, o + 0, none⟩)) w := fun b o w => by simp [Instr.fieldAt, Instr.sureAddr, fieldPlace, add_at]
theorem xfld93x1 : ∀ b o w, (Instr.fieldAt 93 (.pointer (some ⟨b, o, none⟩)) 1).run Tryz.prog w = .ok (.pointer (some ⟨b, o + 1, none⟩)) w := fun b o w => by simp [Instr.fieldAt, Instr.sureAddr, fieldPlace, add_at]
theorem xfld93x2 : ∀ b o w, (Instr.fieldAt 93 (.pointer (some ⟨b, o, none⟩)) 2).run Tryz.prog w = .ok (.pointer (some ⟨b, o + 2, none⟩)) w := fun b o w => by simp [Instr.fieldAt, Instr.sureAddr, fieldPlace, add_at]
theorem xfld93x3 : ∀ b o w, (Instr.fieldAt 93 (.pointer (some ⟨b, o, none⟩)) 3).run Tryz.prog w = .ok (.pointer (some ⟨b, o + 3, none⟩)) w := fun b o w => by simp [Instr.fieldAt, Instr.sureAddr, fieldPlace, add_at]
theorem xelt98 : Elt Tryz.prog 98 81 Tryz.t81 (.agg #[.string ⟨#[]⟩, .string ⟨#[]⟩, .int .i64 0, .int .i64 0]) 4 48 := ⟨Tryz.underlying98, by kernel_rfl, rfl, rfl, rfl, rfl, by decide⟩
theorem xfv81x0 {x0 x1 x2 x3 : Value} (w : World) : (Instr.field 81 (.agg #[x0, x1, x2, x3]) 0).run Tryz.prog w = .ok (x0) w := by kernel_rfl
theorem xfv85x1 {x0 x1 : Value} (w : World) : (Instr.field 85 (.agg #[x0, x1]) 1).run Tryz.prog w = .ok (x1) w := by kernel_rfl
theorem xbld28x  (w : World) : (Instr.build 28 (List.toArray [])).run Tryz.prog w = .ok (.agg #[.bool false, .slice none 0 0]) w := by
  simp [Instr.build, Instr.fill, cells_agg]
theorem xbld28x0x1 {x0 x1 : Value} (h0 : x0.oneCell' = true) (h1 : x1.oneCell' = true) (w : World) : (Instr.build 28 (List.toArray [(0, x0), (1, x1)])).run Tryz.prog w = .ok (.agg #[x0, x1]) w := by
  have e0 := cells_one h0
  have e1 := cells_one h1
  simp [Instr.build, Instr.fill, cells_agg, e0, e1]
theorem xbld30x  (w : World) : (Instr.build 30 (List.toArray [])).run Tryz.prog w = .ok (.agg #[.string ⟨#[]⟩, .bool false, .slice none 0 0]) w := by
  simp [Instr.build, Instr.fill, cells_agg]
theorem xbld30x0x1 {x0 y1x0 y1x1 : Value} (h0 : x0.oneCell' = true) (w : World) : (Instr.build 30 (List.toArray [(0, x0), (1, .agg #[y1x0, y1x1])])).run Tryz.prog w = .ok (.agg #[x0, y1x0, y1x1]) w := by
  have e0 := cells_one h0
  simp [Instr.build, Instr.fill, cells_agg, e0]
theorem xbld32x  (w : World) : (Instr.build 32 (List.toArray [])).run Tryz.prog w = .ok (.agg #[.bool false, .slice none 0 0, .slice none 0 0]) w := by
  simp [Instr.build, Instr.fill, cells_agg]
theorem xbld32x0x1 {y0x0 y0x1 x1 : Value} (h1 : x1.oneCell' = true) (w : World) : (Instr.build 32 (List.toArray [(0, .agg #[y0x0, y0x1]), (1, x1)])).run Tryz.prog w = .ok (.agg #[y0x0, y0x1, x1]) w := by
  have e1 := cells_one h1
  simp [Instr.build, Instr.fill, cells_agg, e1]
theorem xbld81x  (w : World) : (Instr.build 81 (List.toArray [])).run Tryz.prog w = .ok (.agg #[.string ⟨#[]⟩, .string ⟨#[]⟩, .int .i64 0, .int .i64 0]) w := by
  simp [Instr.build, Instr.fill, cells_agg]
theorem xbld81x0x1x2x3 {x0 x1 x2 x3 : Value} (h0 : x0.oneCell' = true) (h1 : x1.oneCell' = true) (h2 : x2.oneCell' = true) (h3 : x3.oneCell' = true) (w : World) : (Instr.build 81 (List.toArray [(0, x0), (1, x1), (2, x2), (3, x3)])).run Tryz.prog w = .ok (.agg #[x0, x1, x2, x3]) w := by
  have e0 := cells_one h0
  have e1 := cells_one h1
  have e2 := cells_one h2
  have e3 := cells_one h3
  simp [Instr.build, Instr.fill, cells_agg, e0, e1, e2, e3]
theorem xbld85x0x1 {x0 x1 : Value} (h0 : x0.oneCell' = true) (h1 : x1.oneCell' = true) (w : World) : (Instr.build 85 (List.toArray [(0, x0), (1, x1)])).run Tryz.prog w = .ok (.agg #[x0, x1]) w := by
  have e0 := cells_one h0
  have e1 := cells_one h1
  simp [Instr.build, Instr.fill, cells_agg, e0, e1]
theorem xbld86x0x1x2x3x4x5x6 {y0x0 y0x1 y1x0 y1x1 y2x0 y2x1 y3x0 y3x1 y4x0 y4x1 y5x0 y5x1 y6x0 y6x1 : Value} (w : World) : (Instr.build 86 (List.toArray [(0, .agg #[y0x0, y0x1]), (1, .agg #[y1x0, y1x1]), (2, .agg #[y2x0, y2x1]), (3, .agg #[y3x0, y3x1]), (4, .agg #[y4x0, y4x1]), (5, .agg #[y5x0, y5x1]), (6, .agg #[y6x0, y6x1])])).run Tryz.prog w = .ok (.agg #[y0x0, y0x1, y1x0, y1x1, y2x0, y2x1, y3x0, y3x1, y4x0, y4x1, y5x0, y5x1, y6x0, y6x1]) w := by
  simp [Instr.build, Instr.fill, cells_agg]
theorem xbld93x  (w : World) : (Instr.build 93 (List.toArray [])).run Tryz.prog w = .ok (.agg #[.string ⟨#[]⟩, .string ⟨#[]⟩, .int .i64 0, .int .i64 0]) w := by
  simp [Instr.build, Instr.fill, cells_agg]
theorem xbld93x0x1x2x3 {x0 x1 x2 x3 : Value} (h0 : x0.oneCell' = true) (h1 : x1.oneCell' = true) (h2 : x2.oneCell' = true) (h3 : x3.oneCell' = true) (w : World) : (Instr.build 93 (List.toArray [(0, x0), (1, x1), (2, x2), (3, x3)])).run Tryz.prog w = .ok (.agg #[x0, x1, x2, x3]) w := by
  have e0 := cells_one h0
  have e1 := cells_one h1
  have e2 := cells_one h2
  have e3 := cells_one h3
  simp [Instr.build, Instr.fill, cells_agg, e0, e1, e2, e3]
end Go.Proofs.YtfoceofnldnbgaaGreatDoor
