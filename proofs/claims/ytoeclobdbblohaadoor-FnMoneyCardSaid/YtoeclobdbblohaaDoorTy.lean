/- Closed facts on the types of this seat. Conditions: none. -/
import Derived.Test.YtoeclobdbblohaaDoorSx
set_option linter.unusedVariables false
set_option linter.unusedSimpArgs false
namespace Go.Proofs.YtoeclobdbblohaaDoor
open Go Go.RowKit
abbrev intT : TypeId := 3
abbrev strT : TypeId := 9
theorem xelt22 : Elt Tryd.prog 22 3 Tryd.t3 (.int .i64 0) 1 8 := ⟨Tryd.underlying22, by kernel_rfl, rfl, rfl, rfl, rfl, by decide⟩
theorem xfld24x0 : ∀ b o w, (Instr.fieldAt 24 (.pointer (some ⟨b, o, none⟩)) 0).run Tryd.prog w = .ok (.pointer (some ⟨b, o + 0, none⟩)) w := fun b o w => by simp [Instr.fieldAt, Instr.sureAddr, fieldPlace, add_at]
theorem xfld24x1 : ∀ b o w, (Instr.fieldAt 24 (.pointer (some ⟨b, o, none⟩)) 1).run Tryd.prog w = .ok (.pointer (some ⟨b, o + 1, none⟩)) w := fun b o w => by simp [Instr.fieldAt, Instr.sureAddr, fieldPlace, add_at]
theorem xfld25x0 : ∀ b o w, (Instr.fieldAt 25 (.pointer (some ⟨b, o, none⟩)) 0).run Tryd.prog w = .ok (.pointer (some ⟨b, o + 0, none⟩)) w := fun b o w => by simp [Instr.fieldAt, Instr.sureAddr, fieldPlace, add_at]
theorem xfld25x1 : ∀ b o w, (Instr.fieldAt 25 (.pointer (some ⟨b, o, none⟩)) 1).run Tryd.prog w = .ok (.pointer (some ⟨b, o + 1, none⟩)) w := fun b o w => by simp [Instr.fieldAt, Instr.sureAddr, fieldPlace, add_at]
theorem xfld26x0 : ∀ b o w, (Instr.fieldAt 26 (.pointer (some ⟨b, o, none⟩)) 0).run Tryd.prog w = .ok (.pointer (some ⟨b, o + 0, none⟩)) w := fun b o w => by simp [Instr.fieldAt, Instr.sureAddr, fieldPlace, add_at]
theorem xfld26x1 : ∀ b o w, (Instr.fieldAt 26 (.pointer (some ⟨b, o, none⟩)) 1).run Tryd.prog w = .ok (.pointer (some ⟨b, o + 1, none⟩)) w := fun b o w => by simp [Instr.fieldAt, Instr.sureAddr, fieldPlace, add_at]
theorem xfld32x0 : ∀ b o w, (Instr.fieldAt 32 (.pointer (some ⟨b, o, none⟩)) 0).run Tryd.prog w = .ok (.pointer (some ⟨b, o + 0, none⟩)) w := fun b o w => by simp [Instr.fieldAt, Instr.sureAddr, fieldPlace, add_at]
theorem xfld32x1 : ∀ b o w, (Instr.fieldAt 32 (.pointer (some ⟨b, o, none⟩)) 1).run Tryd.prog w = .ok (.pointer (some ⟨b, o + 2, none⟩)) w := fun b o w => by simp [Instr.fieldAt, Instr.sureAddr, fieldPlace, add_at]
theorem xfld33x0 : ∀ b o w, (Instr.fieldAt 33 (.pointer (some ⟨b, o, none⟩)) 0).run Tryd.prog w = .ok (.pointer (some ⟨b, o + 0, none⟩)) w := fun b o w => by simp [Instr.fieldAt, Instr.sureAddr, fieldPlace, add_at]
theorem xfld33x1 : ∀ b o w, (Instr.fieldAt 33 (.pointer (some ⟨b, o, none⟩)) 1).run Tryd.prog w = .ok (.pointer (some ⟨b, o + 2, none⟩)) w := fun b o w => by simp [Instr.fieldAt, Instr.sureAddr, fieldPlace, add_at]
theorem xfld34x0 : ∀ b o w, (Instr.fieldAt 34 (.pointer (some ⟨b, o, none⟩)) 0).run Tryd.prog w = .ok (.pointer (some ⟨b, o + 0, none⟩)) w := fun b o w => by simp [Instr.fieldAt, Instr.sureAddr, fieldPlace, add_at]
theorem xfld34x1 : ∀ b o w, (Instr.fieldAt 34 (.pointer (some ⟨b, o, none⟩)) 1).run Tryd.prog w = .ok (.pointer (some ⟨b, o + 1, none⟩)) w := fun b o w => by simp [Instr.fieldAt, Instr.sureAddr, fieldPlace, add_at]
theorem xfld34x2 : ∀ b o w, (Instr.fieldAt 34 (.pointer (some ⟨b, o, none⟩)) 2).run Tryd.prog w = .ok (.pointer (some ⟨b, o + 2, none⟩)) w := fun b o w => by simp [Instr.fieldAt, Instr.sureAddr, fieldPlace, add_at]
theorem xfld35x0 : ∀ b o w, (Instr.fieldAt 35 (.pointer (some ⟨b, o, none⟩)) 0).run Tryd.prog w = .ok (.pointer (some ⟨b, o + 0, none⟩)) w := fun b o w => by simp [Instr.fieldAt, Instr.sureAddr, fieldPlace, add_at]
theorem xfld35x1 : ∀ b o w, (Instr.fieldAt 35 (.pointer (some ⟨b, o, none⟩)) 1).run Tryd.prog w = .ok (.pointer (some ⟨b, o + 1, none⟩)) w := fun b o w => by simp [Instr.fieldAt, Instr.sureAddr, fieldPlace, add_at]
theorem xfld35x2 : ∀ b o w, (Instr.fieldAt 35 (.pointer (some ⟨b, o, none⟩)) 2).run Tryd.prog w = .ok (.pointer (some ⟨b, o + 2, none⟩)) w := fun b o w => by simp [Instr.fieldAt, Instr.sureAddr, fieldPlace, add_at]
theorem xelt40 : Elt Tryd.prog 40 5 Tryd.t5 (.int .u8 0) 1 1 := ⟨Tryd.underlying40, by kernel_rfl, rfl, rfl, rfl, rfl, by decide⟩
theorem xelt51 : Elt Tryd.prog 51 26 Tryd.t26 (.agg #[.string ⟨#[]⟩, .bool false, .slice none 0 0]) 3 48 := ⟨Tryd.underlying51, by kernel_rfl, rfl, rfl, rfl, rfl, by decide⟩
theorem xelt54 : Elt Tryd.prog 54 9 Tryd.t9 (.string ⟨#[]⟩) 1 16 := ⟨Tryd.underlying54, by kernel_rfl, rfl, rfl, rfl, rfl, by decide⟩
theorem xfld87x0 : ∀ b o w, (Instr.fieldAt 87 (.pointer (some ⟨b, o, none⟩)) 0).run Tryd.prog w = .ok (.pointer (some ⟨b, o + 0, none⟩)) w := fun b o w => by simp [Instr.fieldAt, Instr.sureAddr, fieldPlace, add_at]
theorem xfld87x1 : ∀ b o w, (Instr.fieldAt 87 (.pointer (some ⟨b, o, none⟩)) 1).run Tryd.prog w = .ok (.pointer (some ⟨b, o + 1, none⟩)) w := fun b o w => by simp [Instr.fieldAt, Instr.sureAddr, fieldPlace, add_at]
theorem xfld87x2 : ∀ b o w, (Instr.fieldAt 87 (.pointer (some ⟨b, o, none⟩)) 2).run Tryd.prog w = .ok (.pointer (some ⟨b, o + 2, none⟩)) w := fun b o w => by simp [Instr.fieldAt, Instr.sureAddr, fieldPlace, add_at]
theorem xelt89 : Elt Tryd.prog 89 92 Tryd.t92 (.agg #[.string ⟨#[]⟩, .string ⟨#[]⟩, .int .i64 0, .int .i64 0]) 4 48 := ⟨Tryd.underlying89, by kernel_rfl, rfl, rfl, rfl, rfl, by decide⟩
theorem xfld92x0 : ∀ b o w, (Instr.fieldAt 92 (.pointer (some ⟨b, o, none⟩)) 0).run Tryd.prog w = .ok (.pointer (some ⟨b, o + 0, none⟩)) w := fun b o w => by simp [Instr.fieldAt, Instr.sureAddr, fieldPlace, add_at]
theorem xfld92x1 : ∀ b o w, (Instr.fieldAt 92 (.pointer (some ⟨b, o, none⟩)) 1).run Tryd.prog w = .ok (.pointer (some ⟨b, o + 1, none⟩)) w := fun b o w => by simp [Instr.fieldAt, Instr.sureAddr, fieldPlace, add_at]
theorem xfld92x2 : ∀ b o w, (Instr.fieldAt 92 (.pointer (some ⟨b, o, none⟩)) 2).run Tryd.prog w = .ok (.pointer (some ⟨b, o + 2, none⟩)) w := fun b o w => by simp [Instr.fieldAt, Instr.sureAddr, fieldPlace, add_at]
theorem xfld92x3 : ∀ b o w, (Instr.fieldAt 92 (.pointer (some ⟨b, o, none⟩)) 3).run Tryd.prog w = .ok (.pointer (some ⟨b, o + 3, none⟩)) w := fun b o w => by simp [Instr.fieldAt, Instr.sureAddr, fieldPlace, add_at]
theorem xfld97x0 : ∀ b o w, (Instr.fieldAt 97 (.pointer (some ⟨b, o, none⟩)) 0).run Tryd.prog w = .ok (.pointer (some ⟨b, o + 0, none⟩)) w := fun b o w => by simp [Instr.fieldAt, Instr.sureAddr, fieldPlace, add_at]
theorem xfld97x1 : ∀ b o w, (Instr.fieldAt 97 (.pointer (some ⟨b, o, none⟩)) 1).run Tryd.prog w = .ok (.pointer (some ⟨b, o + 1, none⟩)) w := fun b o w => by simp [Instr.fieldAt, Instr.sureAddr, fieldPlace, add_at]
theorem xfld97x2 : ∀ b o w, (Instr.fieldAt 97 (.pointer (some ⟨b, o, none⟩)) 2).run Tryd.prog w = .ok (.pointer (some ⟨b, o + 2, none⟩)) w := fun b o w => by simp [Instr.fieldAt, Instr.sureAddr, fieldPlace, add_at]
theorem xfld97x3 : ∀ b o w, (Instr.fieldAt 97 (.pointer (some ⟨b, o, none⟩)) 3).run Tryd.prog w = .ok (.pointer (some ⟨b, o + 3, none⟩)) w := fun b o w => by simp [Instr.fieldAt, Instr.sureAddr, fieldPlace, add_at]
theorem xfld98x0 : ∀ b o w, (Instr.fieldAt 98 (.pointer (some ⟨b, o, none⟩)) 0).run Tryd.prog w = .ok (.pointer (some ⟨b, o + 0, none⟩)) w := fun b o w => by simp [Instr.fieldAt, Instr.sureAddr, fieldPlace, add_at]
theorem xfld98x1 : ∀ b o w, (Instr.fieldAt 98 (.pointer (some ⟨b, o, none⟩)) 1).run Tryd.prog w = .ok (.pointer (some ⟨b, o + 1, none⟩)) w := fun b o w => by simp [Instr.fieldAt, Instr.sureAddr, fieldPlace, add_at]
theorem xfld98x2 : ∀ b o w, (Instr.fieldAt 98 (.pointer (some ⟨b, o, none⟩)) 2).run Tryd.prog w = .ok (.pointer (some ⟨b, o + 2, none⟩)) w := fun b o w => by simp [Instr.fieldAt, Instr.sureAddr, fieldPlace, add_at]
theorem xfld98x3 : ∀ b o w, (Instr.fieldAt 98 (.pointer (some ⟨b, o, none⟩)) 3).run Tryd.prog w = .ok (.pointer (some ⟨b, o + 3, none⟩)) w := fun b o w => by simp [Instr.fieldAt, Instr.sureAddr, fieldPlace, add_at]
theorem xfv92x0 {x0 x1 x2 x3 : Value} (w : World) : (Instr.field 92 (.agg #[x0, x1, x2, x3]) 0).run Tryd.prog w = .ok (x0) w := by kernel_rfl
theorem xfv92x2 {x0 x1 x2 x3 : Value} (w : World) : (Instr.field 92 (.agg #[x0, x1, x2, x3]) 2).run Tryd.prog w = .ok (x2) w := by kernel_rfl
theorem xbld24x  (w : World) : (Instr.build 24 (List.toArray [])).run Tryd.prog w = .ok (.agg #[.bool false, .slice none 0 0]) w := by
  simp [Instr.build, Instr.fill, cells_agg]
theorem xbld24x0x1 {x0 x1 : Value} (h0 : x0.oneCell' = true) (h1 : x1.oneCell' = true) (w : World) : (Instr.build 24 (List.toArray [(0, x0), (1, x1)])).run Tryd.prog w = .ok (.agg #[x0, x1]) w := by
  have e0 := cells_one h0
  have e1 := cells_one h1
  simp [Instr.build, Instr.fill, cells_agg, e0, e1]
theorem xbld26x  (w : World) : (Instr.build 26 (List.toArray [])).run Tryd.prog w = .ok (.agg #[.string ⟨#[]⟩, .bool false, .slice none 0 0]) w := by
  simp [Instr.build, Instr.fill, cells_agg]
theorem xbld26x0x1 {x0 y1x0 y1x1 : Value} (h0 : x0.oneCell' = true) (w : World) : (Instr.build 26 (List.toArray [(0, x0), (1, .agg #[y1x0, y1x1])])).run Tryd.prog w = .ok (.agg #[x0, y1x0, y1x1]) w := by
  have e0 := cells_one h0
  simp [Instr.build, Instr.fill, cells_agg, e0]
theorem xbld33x  (w : World) : (Instr.build 33 (List.toArray [])).run Tryd.prog w = .ok (.agg #[.bool false, .slice none 0 0, .int .i64 0]) w := by
  simp [Instr.build, Instr.fill, cells_agg]
theorem xbld33x0x1 {y0x0 y0x1 x1 : Value} (h1 : x1.oneCell' = true) (w : World) : (Instr.build 33 (List.toArray [(0, .agg #[y0x0, y0x1]), (1, x1)])).run Tryd.prog w = .ok (.agg #[y0x0, y0x1, x1]) w := by
  have e1 := cells_one h1
  simp [Instr.build, Instr.fill, cells_agg, e1]
theorem xbld35x  (w : World) : (Instr.build 35 (List.toArray [])).run Tryd.prog w = .ok (.agg #[.string ⟨#[]⟩, .string ⟨#[]⟩, .bool false, .slice none 0 0, .int .i64 0]) w := by
  simp [Instr.build, Instr.fill, cells_agg]
theorem xbld35x0x1x2 {x0 x1 y2x0 y2x1 y2x2 : Value} (h0 : x0.oneCell' = true) (h1 : x1.oneCell' = true) (w : World) : (Instr.build 35 (List.toArray [(0, x0), (1, x1), (2, .agg #[y2x0, y2x1, y2x2])])).run Tryd.prog w = .ok (.agg #[x0, x1, y2x0, y2x1, y2x2]) w := by
  have e0 := cells_one h0
  have e1 := cells_one h1
  simp [Instr.build, Instr.fill, cells_agg, e0, e1]
theorem xbld87x0x2 {x0 x2 : Value} (h0 : x0.oneCell' = true) (h2 : x2.oneCell' = true) (w : World) : (Instr.build 87 (List.toArray [(0, x0), (2, x2)])).run Tryd.prog w = .ok (.agg #[x0, .int .i64 0, x2]) w := by
  have e0 := cells_one h0
  have e2 := cells_one h2
  simp [Instr.build, Instr.fill, cells_agg, e0, e2]
theorem xbld92x  (w : World) : (Instr.build 92 (List.toArray [])).run Tryd.prog w = .ok (.agg #[.string ⟨#[]⟩, .string ⟨#[]⟩, .int .i64 0, .int .i64 0]) w := by
  simp [Instr.build, Instr.fill, cells_agg]
theorem xbld92x0x1x2x3 {x0 x1 x2 x3 : Value} (h0 : x0.oneCell' = true) (h1 : x1.oneCell' = true) (h2 : x2.oneCell' = true) (h3 : x3.oneCell' = true) (w : World) : (Instr.build 92 (List.toArray [(0, x0), (1, x1), (2, x2), (3, x3)])).run Tryd.prog w = .ok (.agg #[x0, x1, x2, x3]) w := by
  have e0 := cells_one h0
  have e1 := cells_one h1
  have e2 := cells_one h2
  have e3 := cells_one h3
  simp [Instr.build, Instr.fill, cells_agg, e0, e1, e2, e3]
theorem xbld98x  (w : World) : (Instr.build 98 (List.toArray [])).run Tryd.prog w = .ok (.agg #[.string ⟨#[]⟩, .string ⟨#[]⟩, .int .i64 0, .int .i64 0]) w := by
  simp [Instr.build, Instr.fill, cells_agg]
theorem xbld98x0x1x2x3 {x0 x1 x2 x3 : Value} (h0 : x0.oneCell' = true) (h1 : x1.oneCell' = true) (h2 : x2.oneCell' = true) (h3 : x3.oneCell' = true) (w : World) : (Instr.build 98 (List.toArray [(0, x0), (1, x1), (2, x2), (3, x3)])).run Tryd.prog w = .ok (.agg #[x0, x1, x2, x3]) w := by
  have e0 := cells_one h0
  have e1 := cells_one h1
  have e2 := cells_one h2
  have e3 := cells_one h3
  simp [Instr.build, Instr.fill, cells_agg, e0, e1, e2, e3]
end Go.Proofs.YtoeclobdbblohaaDoor
