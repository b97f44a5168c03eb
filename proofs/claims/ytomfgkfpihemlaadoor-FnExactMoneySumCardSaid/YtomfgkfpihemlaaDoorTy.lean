/- Closed facts on the types of this seat. Conditions: none. -/
import Derived.Test.YtomfgkfpihemlaaDoorSx
set_option linter.unusedVariables false
set_option linter.unusedSimpArgs false
namespace Go.Proofs.YtomfgkfpihemlaaDoor
open Go Go.RowKit
abbrev intT : TypeId := 3
abbrev strT : TypeId := 9
theorem xelt22 : Elt Tryd.prog 22 3 Tryd.t3 (.int .i64 0) 1 8 := ⟨Tryd.underlying22, by kernel_rfl, rfl, rfl, rfl, rfl, by decide⟩
theorem xfld24x0 : ∀ b o w, (Instr.fieldAt 24 (.pointer (some ⟨b, o, none⟩)) 0).run Tryd.prog w = .ok (.pointer (some ⟨b, o + 0, none⟩)) w := fun b o w => by simp [Instr.fieldAt, Instr.sureAddr, fieldPlace, add_at]
theorem xfld24x1 : ∀ b o w, (Instr.fieldAt 24 (.pointer (some ⟨b, o, none⟩)) 1).run Tryd.prog w = .ok (.pointer (some ⟨b, o + 1, none⟩)) w := fun b o w => by simp [Instr.fieldAt, Instr.sureAddr, fieldPlace, add_at]
theorem xfld25x0 : ∀ b o w, (Instr.fieldAt 25 (.pointer (some ⟨b, o, none⟩)) 0).run Tryd.prog w = .ok (.pointer (some ⟨b, o + 0, none⟩)) w := fun b o w => by simp [Instr.fieldAt, Instr.sureAddr, fieldPlace, add_at]
theorem xfld25x1 : ∀ b o w, (Instr.fieldAt 25 (.pointer (some ⟨b, o, none⟩)) 1).run Tryd.prog w = .ok (.pointer (some ⟨b, o + 1, none⟩)) w := fun b o w => by simp [Instr.fieldAt, Instr.sureAddr, fieldPlace, add_at]
theorem xfld26x0 : ∀ b o w, (Instr.fieldAt 26 (.pointer (some ⟨b, o, none⟩)) 0).run Tryd.prog w = .ok (.pointer (some ⟨b, o + 0, none⟩)) w := fun b o w => by simp [Instr.fieldAt, Instr.sureAddr, fieldPlace, add_at]
theorem xfld26x1 : ∀ b o w, (Instr.fieldAt 26 (.pointer (some ⟨b, o, none⟩)) 1).run Tryd.prog w = .ok (.pointer (some ⟨b, o + 1, none⟩)) w := fun b o w => by simp [Instr.fieldAt, Instr.sureAddr, fieldPlace, add_at]
theorem xfld29x0 : ∀ b o w, (Instr.fieldAt 29 (.pointer (some ⟨b, o, none⟩)) 0).run Tryd.prog w = .ok (.pointer (some ⟨b, o + 0, none⟩)) w := fun b o w => by simp [Instr.fieldAt, Instr.sureAddr, fieldPlace, add_at]
theorem xfld29x1 : ∀ b o w, (Instr.fieldAt 29 (.pointer (some ⟨b, o, none⟩)) 1).run Tryd.prog w = .ok (.pointer (some ⟨b, o + 1, none⟩)) w := fun b o w => by simp [Instr.fieldAt, Instr.sureAddr, fieldPlace, add_at]
theorem xfld30x0 : ∀ b o w, (Instr.fieldAt 30 (.pointer (some ⟨b, o, none⟩)) 0).run Tryd.prog w = .ok (.pointer (some ⟨b, o + 0, none⟩)) w := fun b o w => by simp [Instr.fieldAt, Instr.sureAddr, fieldPlace, add_at]
theorem xfld30x1 : ∀ b o w, (Instr.fieldAt 30 (.pointer (some ⟨b, o, none⟩)) 1).run Tryd.prog w = .ok (.pointer (some ⟨b, o + 1, none⟩)) w := fun b o w => by simp [Instr.fieldAt, Instr.sureAddr, fieldPlace, add_at]
theorem xfld31x0 : ∀ b o w, (Instr.fieldAt 31 (.pointer (some ⟨b, o, none⟩)) 0).run Tryd.prog w = .ok (.pointer (some ⟨b, o + 0, none⟩)) w := fun b o w => by simp [Instr.fieldAt, Instr.sureAddr, fieldPlace, add_at]
theorem xfld31x1 : ∀ b o w, (Instr.fieldAt 31 (.pointer (some ⟨b, o, none⟩)) 1).run Tryd.prog w = .ok (.pointer (some ⟨b, o + 1, none⟩)) w := fun b o w => by simp [Instr.fieldAt, Instr.sureAddr, fieldPlace, add_at]
theorem xfld35x0 : ∀ b o w, (Instr.fieldAt 35 (.pointer (some ⟨b, o, none⟩)) 0).run Tryd.prog w = .ok (.pointer (some ⟨b, o + 0, none⟩)) w := fun b o w => by simp [Instr.fieldAt, Instr.sureAddr, fieldPlace, add_at]
theorem xfld35x1 : ∀ b o w, (Instr.fieldAt 35 (.pointer (some ⟨b, o, none⟩)) 1).run Tryd.prog w = .ok (.pointer (some ⟨b, o + 2, none⟩)) w := fun b o w => by simp [Instr.fieldAt, Instr.sureAddr, fieldPlace, add_at]
theorem xfld36x0 : ∀ b o w, (Instr.fieldAt 36 (.pointer (some ⟨b, o, none⟩)) 0).run Tryd.prog w = .ok (.pointer (some ⟨b, o + 0, none⟩)) w := fun b o w => by simp [Instr.fieldAt, Instr.sureAddr, fieldPlace, add_at]
theorem xfld36x1 : ∀ b o w, (Instr.fieldAt 36 (.pointer (some ⟨b, o, none⟩)) 1).run Tryd.prog w = .ok (.pointer (some ⟨b, o + 2, none⟩)) w := fun b o w => by simp [Instr.fieldAt, Instr.sureAddr, fieldPlace, add_at]
theorem xfld45x0 : ∀ b o w, (Instr.fieldAt 45 (.pointer (some ⟨b, o, none⟩)) 0).run Tryd.prog w = .ok (.pointer (some ⟨b, o + 0, none⟩)) w := fun b o w => by simp [Instr.fieldAt, Instr.sureAddr, fieldPlace, add_at]
theorem xfld45x1 : ∀ b o w, (Instr.fieldAt 45 (.pointer (some ⟨b, o, none⟩)) 1).run Tryd.prog w = .ok (.pointer (some ⟨b, o + 2, none⟩)) w := fun b o w => by simp [Instr.fieldAt, Instr.sureAddr, fieldPlace, add_at]
theorem xfld46x0 : ∀ b o w, (Instr.fieldAt 46 (.pointer (some ⟨b, o, none⟩)) 0).run Tryd.prog w = .ok (.pointer (some ⟨b, o + 0, none⟩)) w := fun b o w => by simp [Instr.fieldAt, Instr.sureAddr, fieldPlace, add_at]
theorem xfld46x1 : ∀ b o w, (Instr.fieldAt 46 (.pointer (some ⟨b, o, none⟩)) 1).run Tryd.prog w = .ok (.pointer (some ⟨b, o + 2, none⟩)) w := fun b o w => by simp [Instr.fieldAt, Instr.sureAddr, fieldPlace, add_at]
theorem xfld47x0 : ∀ b o w, (Instr.fieldAt 47 (.pointer (some ⟨b, o, none⟩)) 0).run Tryd.prog w = .ok (.pointer (some ⟨b, o + 0, none⟩)) w := fun b o w => by simp [Instr.fieldAt, Instr.sureAddr, fieldPlace, add_at]
theorem xfld47x1 : ∀ b o w, (Instr.fieldAt 47 (.pointer (some ⟨b, o, none⟩)) 1).run Tryd.prog w = .ok (.pointer (some ⟨b, o + 1, none⟩)) w := fun b o w => by simp [Instr.fieldAt, Instr.sureAddr, fieldPlace, add_at]
theorem xfld47x2 : ∀ b o w, (Instr.fieldAt 47 (.pointer (some ⟨b, o, none⟩)) 2).run Tryd.prog w = .ok (.pointer (some ⟨b, o + 2, none⟩)) w := fun b o w => by simp [Instr.fieldAt, Instr.sureAddr, fieldPlace, add_at]
theorem xfld48x0 : ∀ b o w, (Instr.fieldAt 48 (.pointer (some ⟨b, o, none⟩)) 0).run Tryd.prog w = .ok (.pointer (some ⟨b, o + 0, none⟩)) w := fun b o w => by simp [Instr.fieldAt, Instr.sureAddr, fieldPlace, add_at]
theorem xfld48x1 : ∀ b o w, (Instr.fieldAt 48 (.pointer (some ⟨b, o, none⟩)) 1).run Tryd.prog w = .ok (.pointer (some ⟨b, o + 1, none⟩)) w := fun b o w => by simp [Instr.fieldAt, Instr.sureAddr, fieldPlace, add_at]
theorem xfld48x2 : ∀ b o w, (Instr.fieldAt 48 (.pointer (some ⟨b, o, none⟩)) 2).run Tryd.prog w = .ok (.pointer (some ⟨b, o + 2, none⟩)) w := fun b o w => by simp [Instr.fieldAt, Instr.sureAddr, fieldPlace, add_at]
theorem xfld51x0 : ∀ b o w, (Instr.fieldAt 51 (.pointer (some ⟨b, o, none⟩)) 0).run Tryd.prog w = .ok (.pointer (some ⟨b, o + 0, none⟩)) w := fun b o w => by simp [Instr.fieldAt, Instr.sureAddr, fieldPlace, add_at]
theorem xfld51x1 : ∀ b o w, (Instr.fieldAt 51 (.pointer (some ⟨b, o, none⟩)) 1).run Tryd.prog w = .ok (.pointer (some ⟨b, o + 2, none⟩)) w := fun b o w => by simp [Instr.fieldAt, Instr.sureAddr, fieldPlace, add_at]
theorem xfld52x0 : ∀ b o w, (Instr.fieldAt 52 (.pointer (some ⟨b, o, none⟩)) 0).run Tryd.prog w = .ok (.pointer (some ⟨b, o + 0, none⟩)) w := fun b o w => by simp [Instr.fieldAt, Instr.sureAddr, fieldPlace, add_at]
theorem xfld52x1 : ∀ b o w, (Instr.fieldAt 52 (.pointer (some ⟨b, o, none⟩)) 1).run Tryd.prog w = .ok (.pointer (some ⟨b, o + 2, none⟩)) w := fun b o w => by simp [Instr.fieldAt, Instr.sureAddr, fieldPlace, add_at]
theorem xfld53x0 : ∀ b o w, (Instr.fieldAt 53 (.pointer (some ⟨b, o, none⟩)) 0).run Tryd.prog w = .ok (.pointer (some ⟨b, o + 0, none⟩)) w := fun b o w => by simp [Instr.fieldAt, Instr.sureAddr, fieldPlace, add_at]
theorem xfld53x1 : ∀ b o w, (Instr.fieldAt 53 (.pointer (some ⟨b, o, none⟩)) 1).run Tryd.prog w = .ok (.pointer (some ⟨b, o + 1, none⟩)) w := fun b o w => by simp [Instr.fieldAt, Instr.sureAddr, fieldPlace, add_at]
theorem xfld53x2 : ∀ b o w, (Instr.fieldAt 53 (.pointer (some ⟨b, o, none⟩)) 2).run Tryd.prog w = .ok (.pointer (some ⟨b, o + 2, none⟩)) w := fun b o w => by simp [Instr.fieldAt, Instr.sureAddr, fieldPlace, add_at]
theorem xfld54x0 : ∀ b o w, (Instr.fieldAt 54 (.pointer (some ⟨b, o, none⟩)) 0).run Tryd.prog w = .ok (.pointer (some ⟨b, o + 0, none⟩)) w := fun b o w => by simp [Instr.fieldAt, Instr.sureAddr, fieldPlace, add_at]
theorem xfld54x1 : ∀ b o w, (Instr.fieldAt 54 (.pointer (some ⟨b, o, none⟩)) 1).run Tryd.prog w = .ok (.pointer (some ⟨b, o + 1, none⟩)) w := fun b o w => by simp [Instr.fieldAt, Instr.sureAddr, fieldPlace, add_at]
theorem xfld54x2 : ∀ b o w, (Instr.fieldAt 54 (.pointer (some ⟨b, o, none⟩)) 2).run Tryd.prog w = .ok (.pointer (some ⟨b, o + 2, none⟩)) w := fun b o w => by simp [Instr.fieldAt, Instr.sureAddr, fieldPlace, add_at]
theorem xelt64 : Elt Tryd.prog 64 48 Tryd.t48 (.agg #[.string ⟨#[]⟩, .string ⟨#[]⟩, .bool false, .slice none 0 0, .int .i64 0]) 5 72 := ⟨Tryd.underlying64, by kernel_rfl, rfl, rfl, rfl, rfl, by decide⟩
theorem xfld65x0 : ∀ b o w, (Instr.fieldAt 65 (.pointer (some ⟨b, o, none⟩)) 0).run Tryd.prog w = .ok (.pointer (some ⟨b, o + 0, none⟩)) w := fun b o w => by simp [Instr.fieldAt, Instr.sureAddr, fieldPlace, add_at]
theorem xfld65x1 : ∀ b o w, (Instr.fieldAt 65 (.pointer (some ⟨b, o, none⟩)) 1).run Tryd.prog w = .ok (.pointer (some ⟨b, o + 1, none⟩)) w := fun b o w => by simp [Instr.fieldAt, Instr.sureAddr, fieldPlace, add_at]
theorem xfld66x0 : ∀ b o w, (Instr.fieldAt 66 (.pointer (some ⟨b, o, none⟩)) 0).run Tryd.prog w = .ok (.pointer (some ⟨b, o + 0, none⟩)) w := fun b o w => by simp [Instr.fieldAt, Instr.sureAddr, fieldPlace, add_at]
theorem xfld66x1 : ∀ b o w, (Instr.fieldAt 66 (.pointer (some ⟨b, o, none⟩)) 1).run Tryd.prog w = .ok (.pointer (some ⟨b, o + 1, none⟩)) w := fun b o w => by simp [Instr.fieldAt, Instr.sureAddr, fieldPlace, add_at]
theorem xelt69 : Elt Tryd.prog 69 54 Tryd.t54 (.agg #[.string ⟨#[]⟩, .string ⟨#[]⟩, .bool false, .slice none 0 0, .int .i64 0]) 5 72 := ⟨Tryd.underlying69, by kernel_rfl, rfl, rfl, rfl, rfl, by decide⟩
theorem xfld70x0 : ∀ b o w, (Instr.fieldAt 70 (.pointer (some ⟨b, o, none⟩)) 0).run Tryd.prog w = .ok (.pointer (some ⟨b, o + 0, none⟩)) w := fun b o w => by simp [Instr.fieldAt, Instr.sureAddr, fieldPlace, add_at]
theorem xfld70x1 : ∀ b o w, (Instr.fieldAt 70 (.pointer (some ⟨b, o, none⟩)) 1).run Tryd.prog w = .ok (.pointer (some ⟨b, o + 1, none⟩)) w := fun b o w => by simp [Instr.fieldAt, Instr.sureAddr, fieldPlace, add_at]
theorem xfld71x0 : ∀ b o w, (Instr.fieldAt 71 (.pointer (some ⟨b, o, none⟩)) 0).run Tryd.prog w = .ok (.pointer (some ⟨b, o + 0, none⟩)) w := fun b o w => by simp [Instr.fieldAt, Instr.sureAddr, fieldPlace, add_at]
theorem xfld71x1 : ∀ b o w, (Instr.fieldAt 71 (.pointer (some ⟨b, o, none⟩)) 1).run Tryd.prog w = .ok (.pointer (some ⟨b, o + 1, none⟩)) w := fun b o w => by simp [Instr.fieldAt, Instr.sureAddr, fieldPlace, add_at]
theorem xelt78 : Elt Tryd.prog 78 26 Tryd.t26 (.agg #[.string ⟨#[]⟩, .bool false, .slice none 0 0]) 3 48 := ⟨Tryd.underlying78, by kernel_rfl, rfl, rfl, rfl, rfl, by decide⟩
theorem xelt81 : Elt Tryd.prog 81 31 Tryd.t31 (.agg #[.string ⟨#[]⟩, .bool false, .slice none 0 0]) 3 48 := ⟨Tryd.underlying81, by kernel_rfl, rfl, rfl, rfl, rfl, by decide⟩
theorem xfld92x0 : ∀ b o w, (Instr.fieldAt 92 (.pointer (some ⟨b, o, none⟩)) 0).run Tryd.prog w = .ok (.pointer (some ⟨b, o + 0, none⟩)) w := fun b o w => by simp [Instr.fieldAt, Instr.sureAddr, fieldPlace, add_at]
theorem xfld92x1 : ∀ b o w, (Instr.fieldAt 92 (.pointer (some ⟨b, o, none⟩)) 1).run Tryd.prog w = .ok (.pointer (some ⟨b, o + 1, none⟩)) w := fun b o w => by simp [Instr.fieldAt, Instr.sureAddr, fieldPlace, add_at]
theorem xfld92x2 : ∀ b o w, (Instr.fieldAt 92 (.pointer (some ⟨b, o, none⟩)) 2).run Tryd.prog w = .ok (.pointer (some ⟨b, o + 2, none⟩)) w := fun b o w => by simp [Instr.fieldAt, Instr.sureAddr, fieldPlace, add_at]
theorem xfld92x3 : ∀ b o w, (Instr.fieldAt 92 (.pointer (some ⟨b, o, none⟩)) 3).run Tryd.prog w = .ok (.pointer (some ⟨b, o + 3, none⟩)) w := fun b o w => by simp [Instr.fieldAt, Instr.sureAddr, fieldPlace, add_at]
theorem xfld93x0 : ∀ b o w, (Instr.fieldAt 93 (.pointer (some ⟨b, o, none⟩)) 0).run Tryd.prog w = .ok (.pointer (some ⟨b, o + 0, none⟩)) w := fun b o w => by simp [Instr.fieldAt, Instr.sureAddr, fieldPlace, add_at]
theorem xfld93x1 : ∀ b o w, (Instr.fieldAt 93 (.pointer (some ⟨b, o, none⟩)) 1).run Tryd.prog w = .ok (.pointer (some ⟨b, o + 1, none⟩)) w := fun b o w => by simp [Instr.fieldAt, Instr.sureAddr, fieldPlace, add_at]
theorem xfld93x2 : ∀ b o w, (Instr.fieldAt 93 (.pointer (some ⟨b, o, none⟩)) 2).run Tryd.prog w = .ok (.pointer (some ⟨b, o + 2, none⟩)) w := fun b o w => by simp [Instr.fieldAt, Instr.sureAddr, fieldPlace, add_at]
theorem xfld93x3 : ∀ b o w, (Instr.fieldAt 93 (.pointer (some ⟨b, o, none⟩)) 3).run Tryd.prog w = .ok (.pointer (some ⟨b, o + 3, none⟩)) w := fun b o w => by simp [Instr.fieldAt, Instr.sureAddr, fieldPlace, add_at]
theorem xfld113x0 : ∀ b o w, (Instr.fieldAt 113 (.pointer (some ⟨b, o, none⟩)) 0).run Tryd.prog w = .ok (.pointer (some ⟨b, o + 0, none⟩)) w := fun b o w => by simp [Instr.fieldAt, Instr.sureAddr, fieldPlace, add_at]
theorem xfld113x1 : ∀ b o w, (Instr.fieldAt 113 (.pointer (some ⟨b, o, none⟩)) 1).run Tryd.prog w = .ok (.pointer (some ⟨b, o + 1, none⟩)) w := fun b o w => by simp [Instr.fieldAt, Instr.sureAddr, fieldPlace, add_at]
theorem xfld114x0 : ∀ b o w, (Instr.fieldAt 114 (.pointer (some ⟨b, o, none⟩)) 0).run Tryd.prog w = .ok (.pointer (some ⟨b, o + 0, none⟩)) w := fun b o w => by simp [Instr.fieldAt, Instr.sureAddr, fieldPlace, add_at]
theorem xfld114x1 : ∀ b o w, (Instr.fieldAt 114 (.pointer (some ⟨b, o, none⟩)) 1).run Tryd.prog w = .ok (.pointer (some ⟨b, o + 1, none⟩)) w := fun b o w => by simp [Instr.fieldAt, Instr.sureAddr, fieldPlace, add_at]
theorem xfld119x0 : ∀ b o w, (Instr.fieldAt 119 (.pointer (some ⟨b, o, none⟩)) 0).run Tryd.prog w = .ok (.pointer (some ⟨b, o + 0, none⟩)) w := fun b o w => by simp [Instr.fieldAt, Instr.sureAddr, fieldPlace, add_at]
theorem xfld119x1 : ∀ b o w, (Instr.fieldAt 119 (.pointer (some ⟨b, o, none⟩)) 1).run Tryd.prog w = .ok (.pointer (some ⟨b, o + 1, none⟩)) w := fun b o w => by simp [Instr.fieldAt, Instr.sureAddr, fieldPlace, add_at]
theorem xfld119x2 : ∀ b o w, (Instr.fieldAt 119 (.pointer (some ⟨b, o, none⟩)) 2).run Tryd.prog w = .ok (.pointer (some ⟨b, o + 2, none⟩)) w := fun b o w => by simp [Instr.fieldAt, Instr.sureAddr, fieldPlace, add_at]
theorem xfld119x3 : ∀ b o w, (Instr.fieldAt 119 (.pointer (some ⟨b, o, none⟩)) 3).run Tryd.prog w = .ok (.pointer (some ⟨b, o + 3, none⟩)) w := fun b o w => by simp [Instr.fieldAt, Instr.sureAddr, fieldPlace, add_at]
theorem xelt133 : Elt Tryd.prog 133 5 Tryd.t5 (.int .u8 0) 1 1 := ⟨Tryd.underlying133, by kernel_rfl, rfl, rfl, rfl, rfl, by decide⟩
theorem xelt134 : Elt Tryd.prog 134 119 Tryd.t119 (.agg #[.string ⟨#[]⟩, .string ⟨#[]⟩, .int .i64 0, .int .i64 0]) 4 48 := ⟨Tryd.underlying134, by kernel_rfl, rfl, rfl, rfl, rfl, by decide⟩
theorem xfv119x0 {x0 x1 x2 x3 : Value} (w : World) : (Instr.field 119 (.agg #[x0, x1, x2, x3]) 0).run Tryd.prog w = .ok (x0) w := by kernel_rfl
theorem xfv119x2 {x0 x1 x2 x3 : Value} (w : World) : (Instr.field 119 (.agg #[x0, x1, x2, x3]) 2).run Tryd.prog w = .ok (x2) w := by kernel_rfl
theorem xbld29x  (w : World) : (Instr.build 29 (List.toArray [])).run Tryd.prog w = .ok (.agg #[.bool false, .slice none 0 0]) w := by
  simp [Instr.build, Instr.fill, cells_agg]
theorem xbld29x0x1 {x0 x1 : Value} (h0 : x0.oneCell' = true) (h1 : x1.oneCell' = true) (w : World) : (Instr.build 29 (List.toArray [(0, x0), (1, x1)])).run Tryd.prog w = .ok (.agg #[x0, x1]) w := by
  have e0 := cells_one h0
  have e1 := cells_one h1
  simp [Instr.build, Instr.fill, cells_agg, e0, e1]
theorem xbld29x1 {x1 : Value} (h1 : x1.oneCell' = true) (w : World) : (Instr.build 29 (List.toArray [(1, x1)])).run Tryd.prog w = .ok (.agg #[.bool false, x1]) w := by
  have e1 := cells_one h1
  simp [Instr.build, Instr.fill, cells_agg, e1]
theorem xbld31x  (w : World) : (Instr.build 31 (List.toArray [])).run Tryd.prog w = .ok (.agg #[.string ⟨#[]⟩, .bool false, .slice none 0 0]) w := by
  simp [Instr.build, Instr.fill, cells_agg]
theorem xbld31x0x1 {x0 y1x0 y1x1 : Value} (h0 : x0.oneCell' = true) (w : World) : (Instr.build 31 (List.toArray [(0, x0), (1, .agg #[y1x0, y1x1])])).run Tryd.prog w = .ok (.agg #[x0, y1x0, y1x1]) w := by
  have e0 := cells_one h0
  simp [Instr.build, Instr.fill, cells_agg, e0]
theorem xbld36x  (w : World) : (Instr.build 36 (List.toArray [])).run Tryd.prog w = .ok (.agg #[.bool false, .slice none 0 0, .slice none 0 0]) w := by
  simp [Instr.build, Instr.fill, cells_agg]
theorem xbld36x0x1 {y0x0 y0x1 x1 : Value} (h1 : x1.oneCell' = true) (w : World) : (Instr.build 36 (List.toArray [(0, .agg #[y0x0, y0x1]), (1, x1)])).run Tryd.prog w = .ok (.agg #[y0x0, y0x1, x1]) w := by
  have e1 := cells_one h1
  simp [Instr.build, Instr.fill, cells_agg, e1]
theorem xbld52x  (w : World) : (Instr.build 52 (List.toArray [])).run Tryd.prog w = .ok (.agg #[.bool false, .slice none 0 0, .int .i64 0]) w := by
  simp [Instr.build, Instr.fill, cells_agg]
theorem xbld93x  (w : World) : (Instr.build 93 (List.toArray [])).run Tryd.prog w = .ok (.agg #[.string ⟨#[]⟩, .string ⟨#[]⟩, .int .i64 0, .int .i64 0]) w := by
  simp [Instr.build, Instr.fill, cells_agg]
theorem xbld93x0x1x2x3 {x0 x1 x2 x3 : Value} (h0 : x0.oneCell' = true) (h1 : x1.oneCell' = true) (h2 : x2.oneCell' = true) (h3 : x3.oneCell' = true) (w : World) : (Instr.build 93 (List.toArray [(0, x0), (1, x1), (2, x2), (3, x3)])).run Tryd.prog w = .ok (.agg #[x0, x1, x2, x3]) w := by
  have e0 := cells_one h0
  have e1 := cells_one h1
  have e2 := cells_one h2
  have e3 := cells_one h3
  simp [Instr.build, Instr.fill, cells_agg, e0, e1, e2, e3]
theorem xbld114x0x1 {x0 x1 : Value} (h0 : x0.oneCell' = true) (h1 : x1.oneCell' = true) (w : World) : (Instr.build 114 (List.toArray [(0, x0), (1, x1)])).run Tryd.prog w = .ok (.agg #[x0, x1]) w := by
  have e0 := cells_one h0
  have e1 := cells_one h1
  simp [Instr.build, Instr.fill, cells_agg, e0, e1]
theorem xbld119x  (w : World) : (Instr.build 119 (List.toArray [])).run Tryd.prog w = .ok (.agg #[.string ⟨#[]⟩, .string ⟨#[]⟩, .int .i64 0, .int .i64 0]) w := by
  simp [Instr.build, Instr.fill, cells_agg]
theorem xbld119x0x1x2x3 {x0 x1 x2 x3 : Value} (h0 : x0.oneCell' = true) (h1 : x1.oneCell' = true) (h2 : x2.oneCell' = true) (h3 : x3.oneCell' = true) (w : World) : (Instr.build 119 (List.toArray [(0, x0), (1, x1), (2, x2), (3, x3)])).run Tryd.prog w = .ok (.agg #[x0, x1, x2, x3]) w := by
  have e0 := cells_one h0
  have e1 := cells_one h1
  have e2 := cells_one h2
  have e3 := cells_one h3
  simp [Instr.build, Instr.fill, cells_agg, e0, e1, e2, e3]
end Go.Proofs.YtomfgkfpihemlaaDoor
