/- Closed facts on the types of this seat. Conditions: none. -/
import Derived.Test.YtoeclobdbblohaaGreatDoorSx
set_option linter.unusedVariables false
set_option linter.unusedSimpArgs false
namespace Go.Proofs.YtoeclobdbblohaaGreatDoor
open Go Go.RowKit
abbrev intT : TypeId := 3
abbrev strT : TypeId := 9
theorem xelt22 : Elt Tryz.prog 22 5 Tryz.t5 (.int .u8 0) 1 1 := ⟨Tryz.underlying22, by kernel_rfl, rfl, rfl, rfl, rfl, by decide⟩
theorem xelt23 : Elt Tryz.prog 23 3 Tryz.t3 (.int .i64 0) 1 8 := ⟨Tryz.underlying23, by kernel_rfl, rfl, rfl, rfl, rfl, by decide⟩
theorem xfld25x0 : ∀ b o w, (Instr.fieldAt 25 (.pointer (some ⟨b, o, none⟩)) 0).run Tryz.prog w = .ok (.pointer (some ⟨b, o + 0, none⟩)) w := fun b o w => by simp [Instr.fieldAt, Instr.sureAddr, fieldPlace, add_at]
theorem xfld25x1 : ∀ b o w, (Instr.fieldAt 25 (.pointer (some ⟨b, o, none⟩)) 1).run Tryz.prog w = .ok (.pointer (some ⟨b, o + 1, none⟩)) w := fun b o w => by simp [Instr.fieldAt, Instr.sureAddr, fieldPlace, add_at]
theorem xfld26x0 : ∀ b o w, (Instr.fieldAt 26 (.pointer (some ⟨b, o, none⟩)) 0).run Tryz.prog w = .ok (.pointer (some ⟨b, o + 0, none⟩)) w := fun b o w => by simp [Instr.fieldAt, Instr.sureAddr, fieldPlace, add_at]
theorem xfld26x1 : ∀ b o w, (Instr.fieldAt 26 (.pointer (some ⟨b, o, none⟩)) 1).run Tryz.prog w = .ok (.pointer (some ⟨b, o + 2, none⟩)) w := fun b o w => by simp [Instr.fieldAt, Instr.sureAddr, fieldPlace, add_at]
theorem xfld27x0 : ∀ b o w, (Instr.fieldAt 27 (.pointer (some ⟨b, o, none⟩)) 0).run Tryz.prog w = .ok (.pointer (some ⟨b, o + 0, none⟩)) w := fun b o w => by simp [Instr.fieldAt, Instr.sureAddr, fieldPlace, add_at]
theorem xfld27x1 : ∀ b o w, (Instr.fieldAt 27 (.pointer (some ⟨b, o, none⟩)) 1).run Tryz.prog w = .ok (.pointer (some ⟨b, o + 2, none⟩)) w := fun b o w => by simp [Instr.fieldAt, Instr.sureAddr, fieldPlace, add_at]
theorem xfld36x0 : ∀ b o w, (Instr.fieldAt 36 (.pointer (some ⟨b, o, none⟩)) 0).run Tryz.prog w = .ok (.pointer (some ⟨b, o + 0, none⟩)) w := fun b o w => by simp [Instr.fieldAt, Instr.sureAddr, fieldPlace, add_at]
theorem xfld36x1 : ∀ b o w, (Instr.fieldAt 36 (.pointer (some ⟨b, o, none⟩)) 1).run Tryz.prog w = .ok (.pointer (some ⟨b, o + 2, none⟩)) w := fun b o w => by simp [Instr.fieldAt, Instr.sureAddr, fieldPlace, add_at]
theorem xfld37x0 : ∀ b o w, (Instr.fieldAt 37 (.pointer (some ⟨b, o, none⟩)) 0).run Tryz.prog w = .ok (.pointer (some ⟨b, o + 0, none⟩)) w := fun b o w => by simp [Instr.fieldAt, Instr.sureAddr, fieldPlace, add_at]
theorem xfld37x1 : ∀ b o w, (Instr.fieldAt 37 (.pointer (some ⟨b, o, none⟩)) 1).run Tryz.prog w = .ok (.pointer (some ⟨b, o + 2, none⟩)) w := fun b o w => by simp [Instr.fieldAt, Instr.sureAddr, fieldPlace, add_at]
theorem xelt45 : Elt Tryz.prog 45 54 Tryz.t54 (.agg #[.string ⟨#[]⟩, .string ⟨#[]⟩, .bool false, .slice none 0 0, .int .i64 0]) 5 72 := ⟨Tryz.underlying45, by kernel_rfl, rfl, rfl, rfl, rfl, by decide⟩
theorem xfld46x0 : ∀ b o w, (Instr.fieldAt 46 (.pointer (some ⟨b, o, none⟩)) 0).run Tryz.prog w = .ok (.pointer (some ⟨b, o + 0, none⟩)) w := fun b o w => by simp [Instr.fieldAt, Instr.sureAddr, fieldPlace, add_at]
theorem xfld46x1 : ∀ b o w, (Instr.fieldAt 46 (.pointer (some ⟨b, o, none⟩)) 1).run Tryz.prog w = .ok (.pointer (some ⟨b, o + 1, none⟩)) w := fun b o w => by simp [Instr.fieldAt, Instr.sureAddr, fieldPlace, add_at]
theorem xfld47x0 : ∀ b o w, (Instr.fieldAt 47 (.pointer (some ⟨b, o, none⟩)) 0).run Tryz.prog w = .ok (.pointer (some ⟨b, o + 0, none⟩)) w := fun b o w => by simp [Instr.fieldAt, Instr.sureAddr, fieldPlace, add_at]
theorem xfld47x1 : ∀ b o w, (Instr.fieldAt 47 (.pointer (some ⟨b, o, none⟩)) 1).run Tryz.prog w = .ok (.pointer (some ⟨b, o + 1, none⟩)) w := fun b o w => by simp [Instr.fieldAt, Instr.sureAddr, fieldPlace, add_at]
theorem xfld53x0 : ∀ b o w, (Instr.fieldAt 53 (.pointer (some ⟨b, o, none⟩)) 0).run Tryz.prog w = .ok (.pointer (some ⟨b, o + 0, none⟩)) w := fun b o w => by simp [Instr.fieldAt, Instr.sureAddr, fieldPlace, add_at]
theorem xfld53x1 : ∀ b o w, (Instr.fieldAt 53 (.pointer (some ⟨b, o, none⟩)) 1).run Tryz.prog w = .ok (.pointer (some ⟨b, o + 1, none⟩)) w := fun b o w => by simp [Instr.fieldAt, Instr.sureAddr, fieldPlace, add_at]
theorem xfld53x2 : ∀ b o w, (Instr.fieldAt 53 (.pointer (some ⟨b, o, none⟩)) 2).run Tryz.prog w = .ok (.pointer (some ⟨b, o + 2, none⟩)) w := fun b o w => by simp [Instr.fieldAt, Instr.sureAddr, fieldPlace, add_at]
theorem xfld54x0 : ∀ b o w, (Instr.fieldAt 54 (.pointer (some ⟨b, o, none⟩)) 0).run Tryz.prog w = .ok (.pointer (some ⟨b, o + 0, none⟩)) w := fun b o w => by simp [Instr.fieldAt, Instr.sureAddr, fieldPlace, add_at]
theorem xfld54x1 : ∀ b o w, (Instr.fieldAt 54 (.pointer (some ⟨b, o, none⟩)) 1).run Tryz.prog w = .ok (.pointer (some ⟨b, o + 1, none⟩)) w := fun b o w => by simp [Instr.fieldAt, Instr.sureAddr, fieldPlace, add_at]
theorem xfld54x2 : ∀ b o w, (Instr.fieldAt 54 (.pointer (some ⟨b, o, none⟩)) 2).run Tryz.prog w = .ok (.pointer (some ⟨b, o + 2, none⟩)) w := fun b o w => by simp [Instr.fieldAt, Instr.sureAddr, fieldPlace, add_at]
theorem xelt65 : Elt Tryz.prog 65 9 Tryz.t9 (.string ⟨#[]⟩) 1 16 := ⟨Tryz.underlying65, by kernel_rfl, rfl, rfl, rfl, rfl, by decide⟩
theorem xfld92x0 : ∀ b o w, (Instr.fieldAt 92 (.pointer (some ⟨b, o, none⟩)) 0).run Tryz.prog w = .ok (.pointer (some ⟨b, o + 0, none⟩)) w := fun b o w => by simp [Instr.fieldAt, Instr.sureAddr, fieldPlace, add_at]
theorem xfld92x1 : ∀ b o w, (Instr.fieldAt 92 (.pointer (some ⟨b, o, none⟩)) 1).run Tryz.prog w = .ok (.pointer (some ⟨b, o + 1, none⟩)) w := fun b o w => by simp [Instr.fieldAt, Instr.sureAddr, fieldPlace, add_at]
theorem xfld92x2 : ∀ b o w, (Instr.fieldAt 92 (.pointer (some ⟨b, o, none⟩)) 2).run Tryz.prog w = .ok (.pointer (some ⟨b, o + 2, none⟩)) w := fun b o w => by simp [Instr.fieldAt, Instr.sureAddr, fieldPlace, add_at]
theorem xfld92x3 : ∀ b o w, (Instr.fieldAt 92 (.pointer (some ⟨b, o, none⟩)) 3).run Tryz.prog w = .ok (.pointer (some ⟨b, o + 3, none⟩)) w := fun b o w => by simp [Instr.fieldAt, Instr.sureAddr, fieldPlace, add_at]
theorem xfld97x0 : ∀ b o w, (Instr.fieldAt 97 (.pointer (some ⟨b, o, none⟩)) 0).run Tryz.prog w = .ok (.pointer (some ⟨b, o + 0, none⟩)) w := fun b o w => by simp [Instr.fieldAt, Instr.sureAddr, fieldPlace, add_at]
theorem xfld97x1 : ∀ b o w, (Instr.fieldAt 97 (.pointer (some ⟨b, o, none⟩)) 1).run Tryz.prog w = .ok (.pointer (some ⟨b, o + 1, none⟩)) w := fun b o w => by simp [Instr.fieldAt, Instr.sureAddr, fieldPlace, add_at]
theorem xfld97x2 : ∀ b o w, (Instr.fieldAt 97 (.pointer (some ⟨b, o, none⟩)) 2).run Tryz.prog w = .ok (.pointer (some ⟨b, o + 2, none⟩)) w := fun b o w => by simp [Instr.fieldAt, Instr.sureAddr, fieldPlace, add_at]
theorem xfld106x0 : ∀ b o w, (Instr.fieldAt 106 (.pointer (some ⟨b, o, none⟩)) 0).run Tryz.prog w = .ok (.pointer (some ⟨b, o + 0, none⟩)) w := fun b o w => by simp [Instr.fieldAt, Instr.sureAddr, fieldPlace, add_at]
theorem xfld106x1 : ∀ b o w, (Instr.fieldAt 106 (.pointer (some ⟨b, o, none⟩)) 1).run Tryz.prog w = .ok (.pointer (some ⟨b, o + 1, none⟩)) w := fun b o w => by simp [Instr.fieldAt, Instr.sureAddr, fieldPlace, add_at]
theorem xfld107x0 : ∀ b o w, (Instr.fieldAt 107 (.pointer (some ⟨b, o, none⟩)) 0).run Tryz.prog w = .ok (.pointer (some ⟨b, o + 0, none⟩)) w := fun b o w => by simp [Instr.fieldAt, Instr.sureAddr, fieldPlace, add_at]
theorem xfld107x1 : ∀ b o w, (Instr.fieldAt 107 (.pointer (some ⟨b, o, none⟩)) 1).run Tryz.prog w = .ok (.pointer (some ⟨b, o + 1, none⟩)) w := fun b o w => by simp [Instr.fieldAt, Instr.sureAddr, fieldPlace, add_at]
theorem xelt124 : Elt Tryz.prog 124 92 Tryz.t92 (.agg #[.string ⟨#[]⟩, .string ⟨#[]⟩, .int .i64 0, .int .i64 0]) 4 48 := ⟨Tryz.underlying124, by kernel_rfl, rfl, rfl, rfl, rfl, by decide⟩
theorem xfld129x0 : ∀ b o w, (Instr.fieldAt 129 (.pointer (some ⟨b, o, none⟩)) 0).run Tryz.prog w = .ok (.pointer (some ⟨b, o + 0, none⟩)) w := fun b o w => by simp [Instr.fieldAt, Instr.sureAddr, fieldPlace, add_at]
theorem xfld129x1 : ∀ b o w, (Instr.fieldAt 129 (.pointer (some ⟨b, o, none⟩)) 1).run Tryz.prog w = .ok (.pointer (some ⟨b, o + 1, none⟩)) w := fun b o w => by simp [Instr.fieldAt, Instr.sureAddr, fieldPlace, add_at]
theorem xfld129x2 : ∀ b o w, (Instr.fieldAt 129 (.pointer (some ⟨b, o, none⟩)) 2).run Tryz.prog w = .ok (.pointer (some ⟨b, o + 2, none⟩)) w := fun b o w => by simp [Instr.fieldAt, Instr.sureAddr, fieldPlace, add_at]
theorem xfld129x3 : ∀ b o w, (Instr.fieldAt 129 (.pointer (some ⟨b, o, none⟩)) 3).run Tryz.prog w = .ok (.pointer (some ⟨b, o + 3, none⟩)) w := fun b o w => by simp [Instr.fieldAt, Instr.sureAddr, fieldPlace, add_at]
theorem xfld130x0 : ∀ b o w, (Instr.fieldAt 130 (.pointer (some ⟨b, o, none⟩)) 0).run Tryz.prog w = .ok (.pointer (some ⟨b, o + 0, none⟩)) w := fun b o w => by simp [Instr.fieldAt, Instr.sureAddr, fieldPlace, add_at]
theorem xfld130x1 : ∀ b o w, (Instr.fieldAt 130 (.pointer (some ⟨b, o, none⟩)) 1).run Tryz.prog w = .ok (.pointer (some ⟨b, o + 1, none⟩)) w := fun b o w => by simp [Instr.fieldAt, Instr.sureAddr, fieldPlace, add_at]
theorem xfld130x2 : ∀ b o w, (Instr.fieldAt 130 (.pointer (some ⟨b, o, none⟩)) 2).run Tryz.prog w = .ok (.pointer (some ⟨b, o + 2, none⟩)) w := fun b o w => by simp [Instr.fieldAt, Instr.sureAddr, fieldPlace, add_at]
theorem xfld130x3 : ∀ b o w, (Instr.fieldAt 130 (.pointer (some ⟨b, o, none⟩)) 3).run Tryz.prog w = .ok (.pointer (some ⟨b, o + 3, none⟩)) w := fun b o w => by simp [Instr.fieldAt, Instr.sureAddr, fieldPlace, add_at]
theorem xfv92x0 {x0 x1 x2 x3 : Value} (w : World) : (Instr.field 92 (.agg #[x0, x1, x2, x3]) 0).run Tryz.prog w = .ok (x0) w := by kernel_rfl
theorem xbld25x  (w : World) : (Instr.build 25 (List.toArray [])).run Tryz.prog w = .ok (.agg #[.bool false, .slice none 0 0]) w := by
  simp [Instr.build, Instr.fill, cells_agg]
theorem xbld25x0x1 {x0 x1 : Value} (h0 : x0.oneCell' = true) (h1 : x1.oneCell' = true) (w : World) : (Instr.build 25 (List.toArray [(0, x0), (1, x1)])).run Tryz.prog w = .ok (.agg #[x0, x1]) w := by
  have e0 := cells_one h0
  have e1 := cells_one h1
  simp [Instr.build, Instr.fill, cells_agg, e0, e1]
theorem xbld27x  (w : World) : (Instr.build 27 (List.toArray [])).run Tryz.prog w = .ok (.agg #[.bool false, .slice none 0 0, .int .i64 0]) w := by
  simp [Instr.build, Instr.fill, cells_agg]
theorem xbld27x0x1 {y0x0 y0x1 x1 : Value} (h1 : x1.oneCell' = true) (w : World) : (Instr.build 27 (List.toArray [(0, .agg #[y0x0, y0x1]), (1, x1)])).run Tryz.prog w = .ok (.agg #[y0x0, y0x1, x1]) w := by
  have e1 := cells_one h1
  simp [Instr.build, Instr.fill, cells_agg, e1]
theorem xbld37x  (w : World) : (Instr.build 37 (List.toArray [])).run Tryz.prog w = .ok (.agg #[.bool false, .slice none 0 0, .slice none 0 0]) w := by
  simp [Instr.build, Instr.fill, cells_agg]
theorem xbld37x0x1 {y0x0 y0x1 x1 : Value} (h1 : x1.oneCell' = true) (w : World) : (Instr.build 37 (List.toArray [(0, .agg #[y0x0, y0x1]), (1, x1)])).run Tryz.prog w = .ok (.agg #[y0x0, y0x1, x1]) w := by
  have e1 := cells_one h1
  simp [Instr.build, Instr.fill, cells_agg, e1]
theorem xbld47x  (w : World) : (Instr.build 47 (List.toArray [])).run Tryz.prog w = .ok (.agg #[.string ⟨#[]⟩, .slice none 0 0]) w := by
  simp [Instr.build, Instr.fill, cells_agg]
theorem xbld47x0 {x0 : Value} (h0 : x0.oneCell' = true) (w : World) : (Instr.build 47 (List.toArray [(0, x0)])).run Tryz.prog w = .ok (.agg #[x0, .slice none 0 0]) w := by
  have e0 := cells_one h0
  simp [Instr.build, Instr.fill, cells_agg, e0]
theorem xbld54x  (w : World) : (Instr.build 54 (List.toArray [])).run Tryz.prog w = .ok (.agg #[.string ⟨#[]⟩, .string ⟨#[]⟩, .bool false, .slice none 0 0, .int .i64 0]) w := by
  simp [Instr.build, Instr.fill, cells_agg]
theorem xbld54x0x1x2 {x0 x1 y2x0 y2x1 y2x2 : Value} (h0 : x0.oneCell' = true) (h1 : x1.oneCell' = true) (w : World) : (Instr.build 54 (List.toArray [(0, x0), (1, x1), (2, .agg #[y2x0, y2x1, y2x2])])).run Tryz.prog w = .ok (.agg #[x0, x1, y2x0, y2x1, y2x2]) w := by
  have e0 := cells_one h0
  have e1 := cells_one h1
  simp [Instr.build, Instr.fill, cells_agg, e0, e1]
theorem xbld92x  (w : World) : (Instr.build 92 (List.toArray [])).run Tryz.prog w = .ok (.agg #[.string ⟨#[]⟩, .string ⟨#[]⟩, .int .i64 0, .int .i64 0]) w := by
  simp [Instr.build, Instr.fill, cells_agg]
theorem xbld92x0x1x2x3 {x0 x1 x2 x3 : Value} (h0 : x0.oneCell' = true) (h1 : x1.oneCell' = true) (h2 : x2.oneCell' = true) (h3 : x3.oneCell' = true) (w : World) : (Instr.build 92 (List.toArray [(0, x0), (1, x1), (2, x2), (3, x3)])).run Tryz.prog w = .ok (.agg #[x0, x1, x2, x3]) w := by
  have e0 := cells_one h0
  have e1 := cells_one h1
  have e2 := cells_one h2
  have e3 := cells_one h3
  simp [Instr.build, Instr.fill, cells_agg, e0, e1, e2, e3]
theorem xbld97x0x2 {x0 x2 : Value} (h0 : x0.oneCell' = true) (h2 : x2.oneCell' = true) (w : World) : (Instr.build 97 (List.toArray [(0, x0), (2, x2)])).run Tryz.prog w = .ok (.agg #[x0, .int .i64 0, x2]) w := by
  have e0 := cells_one h0
  have e2 := cells_one h2
  simp [Instr.build, Instr.fill, cells_agg, e0, e2]
theorem xbld107x0x1 {x0 x1 : Value} (h0 : x0.oneCell' = true) (h1 : x1.oneCell' = true) (w : World) : (Instr.build 107 (List.toArray [(0, x0), (1, x1)])).run Tryz.prog w = .ok (.agg #[x0, x1]) w := by
  have e0 := cells_one h0
  have e1 := cells_one h1
  simp [Instr.build, Instr.fill, cells_agg, e0, e1]
theorem xbld130x  (w : World) : (Instr.build 130 (List.toArray [])).run Tryz.prog w = .ok (.agg #[.string ⟨#[]⟩, .string ⟨#[]⟩, .int .i64 0, .int .i64 0]) w := by
  simp [Instr.build, Instr.fill, cells_agg]
theorem xbld130x0x1x2x3 {x0 x1 x2 x3 : Value} (h0 : x0.oneCell' = true) (h1 : x1.oneCell' = true) (h2 : x2.oneCell' = true) (h3 : x3.oneCell' = true) (w : World) : (Instr.build 130 (List.toArray [(0, x0), (1, x1), (2, x2), (3, x3)])).run Tryz.prog w = .ok (.agg #[x0, x1, x2, x3]) w := by
  have e0 := cells_one h0
  have e1 := cells_one h1
  have e2 := cells_one h2
  have e3 := cells_one h3
  simp [Instr.build, Instr.fill, cells_agg, e0, e1, e2, e3]
end Go.Proofs.YtoeclobdbblohaaGreatDoor
