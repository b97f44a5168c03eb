/- Closed facts on the types of this seat. Conditions: none. -/
import Derived.Test.YtgmoahoocakpmaaSx
set_option linter.unusedVariables false
set_option linter.unusedSimpArgs false
namespace Go.Proofs.Ytgmoahoocakpmaa
open Go Go.RowKit
abbrev intT : TypeId := 3
abbrev strT : TypeId := 9
theorem xelt22 : Elt Try.prog 22 5 Try.t5 (.int .u8 0) 1 1 := ⟨Try.underlying22, by kernel_rfl, rfl, rfl, rfl, rfl, by decide⟩
theorem xelt23 : Elt Try.prog 23 3 Try.t3 (.int .i64 0) 1 8 := ⟨Try.underlying23, by kernel_rfl, rfl, rfl, rfl, rfl, by decide⟩
theorem xfld25x0 : ∀ b o w, (Instr.fieldAt 25 (.pointer (some ⟨b, o, none⟩)) 0).run Try.prog w = .ok (.pointer (some ⟨b, o + 0, none⟩)) w := fun b o w => by simp [Instr.fieldAt, Instr.sureAddr, fieldPlace, add_at]
theorem xfld25x1 : ∀ b o w, (Instr.fieldAt 25 (.pointer (some ⟨b, o, none⟩)) 1).run Try.prog w = .ok (.pointer (some ⟨b, o + 1, none⟩)) w := fun b o w => by simp [Instr.fieldAt, Instr.sureAddr, fieldPlace, add_at]
theorem xfld26x0 : ∀ b o w, (Instr.fieldAt 26 (.pointer (some ⟨b, o, none⟩)) 0).run Try.prog w = .ok (.pointer (some ⟨b, o + 0, none⟩)) w := fun b o w => by simp [Instr.fieldAt, Instr.sureAddr, fieldPlace, add_at]
theorem xfld26x1 : ∀ b o w, (Instr.fieldAt 26 (.pointer (some ⟨b, o, none⟩)) 1).run Try.prog w = .ok (.pointer (some ⟨b, o + 2, none⟩)) w := fun b o w => by simp [Instr.fieldAt, Instr.sureAddr, fieldPlace, add_at]
theorem xfld27x0 : ∀ b o w, (Instr.fieldAt 27 (.pointer (some ⟨b, o, none⟩)) 0).run Try.prog w = .ok (.pointer (some ⟨b, o + 0, none⟩)) w := fun b o w => by simp [Instr.fieldAt, Instr.sureAddr, fieldPlace, add_at]
theorem xfld27x1 : ∀ b o w, (Instr.fieldAt 27 (.pointer (some ⟨b, o, none⟩)) 1).run Try.prog w = .ok (.pointer (some ⟨b, o + 2, none⟩)) w := fun b o w => by simp [Instr.fieldAt, Instr.sureAddr, fieldPlace, add_at]
theorem xfld61x0 : ∀ b o w, (Instr.fieldAt 61 (.pointer (some ⟨b, o, none⟩)) 0).run Try.prog w = .ok (.pointer (some ⟨b, o + 0, none⟩)) w := fun b o w => by simp [Instr.fieldAt, Instr.sureAddr, fieldPlace, add_at]
theorem xfld61x1 : ∀ b o w, (Instr.fieldAt 61 (.pointer (some ⟨b, o, none⟩)) 1).run Try.prog w = .ok (.pointer (some ⟨b, o + 1, none⟩)) w := fun b o w => by simp [Instr.fieldAt, Instr.sureAddr, fieldPlace, add_at]
theorem xfld62x0 : ∀ b o w, (Instr.fieldAt 62 (.pointer (some ⟨b, o, none⟩)) 0).run Try.prog w = .ok (.pointer (some ⟨b, o + 0, none⟩)) w := fun b o w => by simp [Instr.fieldAt, Instr.sureAddr, fieldPlace, add_at]
theorem xfld62x1 : ∀ b o w, (Instr.fieldAt 62 (.pointer (some ⟨b, o, none⟩)) 1).run Try.prog w = .ok (.pointer (some ⟨b, o + 1, none⟩)) w := fun b o w => by simp [Instr.fieldAt, Instr.sureAddr, fieldPlace, add_at]
theorem xfld75x0 : ∀ b o w, (Instr.fieldAt 75 (.pointer (some ⟨b, o, none⟩)) 0).run Try.prog w = .ok (.pointer (some ⟨b, o + 0, none⟩)) w := fun b o w => by simp [Instr.fieldAt, Instr.sureAddr, fieldPlace, add_at]
theorem xfld75x1 : ∀ b o w, (Instr.fieldAt 75 (.pointer (some ⟨b, o, none⟩)) 1).run Try.prog w = .ok (.pointer (some ⟨b, o + 1, none⟩)) w := fun b o w => by simp [Instr.fieldAt, Instr.sureAddr, fieldPlace, add_at]
theorem xfld75x2 : ∀ b o w, (Instr.fieldAt 75 (.pointer (some ⟨b, o, none⟩)) 2).run Try.prog w = .ok (.pointer (some ⟨b, o + 2, none⟩)) w := fun b o w => by simp [Instr.fieldAt, Instr.sureAddr, fieldPlace, add_at]
theorem xfv62x0 {x0 x1 : Value} (w : World) : (Instr.field 62 (.agg #[x0, x1]) 0).run Try.prog w = .ok (x0) w := by kernel_rfl
theorem xfv62x1 {x0 x1 : Value} (w : World) : (Instr.field 62 (.agg #[x0, x1]) 1).run Try.prog w = .ok (x1) w := by kernel_rfl
theorem xbld25x  (w : World) : (Instr.build 25 (List.toArray [])).run Try.prog w = .ok (.agg #[.bool false, .slice none 0 0]) w := by
  simp [Instr.build, Instr.fill, cells_agg]
theorem xbld25x0x1 {x0 x1 : Value} (h0 : x0.oneCell' = true) (h1 : x1.oneCell' = true) (w : World) : (Instr.build 25 (List.toArray [(0, x0), (1, x1)])).run Try.prog w = .ok (.agg #[x0, x1]) w := by
  have e0 := cells_one h0
  have e1 := cells_one h1
  simp [Instr.build, Instr.fill, cells_agg, e0, e1]
theorem xbld25x1 {x1 : Value} (h1 : x1.oneCell' = true) (w : World) : (Instr.build 25 (List.toArray [(1, x1)])).run Try.prog w = .ok (.agg #[.bool false, x1]) w := by
  have e1 := cells_one h1
  simp [Instr.build, Instr.fill, cells_agg, e1]
theorem xbld27x  (w : World) : (Instr.build 27 (List.toArray [])).run Try.prog w = .ok (.agg #[.bool false, .slice none 0 0, .slice none 0 0]) w := by
  simp [Instr.build, Instr.fill, cells_agg]
theorem xbld27x0x1 {y0x0 y0x1 x1 : Value} (h1 : x1.oneCell' = true) (w : World) : (Instr.build 27 (List.toArray [(0, .agg #[y0x0, y0x1]), (1, x1)])).run Try.prog w = .ok (.agg #[y0x0, y0x1, x1]) w := by
  have e1 := cells_one h1
  simp [Instr.build, Instr.fill, cells_agg, e1]
theorem xbld27x1 {x1 : Value} (h1 : x1.oneCell' = true) (w : World) : (Instr.build 27 (List.toArray [(1, x1)])).run Try.prog w = .ok (.agg #[.bool false, .slice none 0 0, x1]) w := by
  have e1 := cells_one h1
  simp [Instr.build, Instr.fill, cells_agg, e1]
theorem xbld62x0x1 {x0 x1 : Value} (h0 : x0.oneCell' = true) (h1 : x1.oneCell' = true) (w : World) : (Instr.build 62 (List.toArray [(0, x0), (1, x1)])).run Try.prog w = .ok (.agg #[x0, x1]) w := by
  have e0 := cells_one h0
  have e1 := cells_one h1
  simp [Instr.build, Instr.fill, cells_agg, e0, e1]
theorem xbld63x0x1x2x3x4x5x6 {y0x0 y0x1 y1x0 y1x1 y2x0 y2x1 y3x0 y3x1 y4x0 y4x1 y5x0 y5x1 y6x0 y6x1 : Value} (w : World) : (Instr.build 63 (List.toArray [(0, .agg #[y0x0, y0x1]), (1, .agg #[y1x0, y1x1]), (2, .agg #[y2x0, y2x1]), (3, .agg #[y3x0, y3x1]), (4, .agg #[y4x0, y4x1]), (5, .agg #[y5x0, y5x1]), (6, .agg #[y6x0, y6x1])])).run Try.prog w = .ok (.agg #[y0x0, y0x1, y1x0, y1x1, y2x0, y2x1, y3x0, y3x1, y4x0, y4x1, y5x0, y5x1, y6x0, y6x1]) w := by
  simp [Instr.build, Instr.fill, cells_agg]
theorem xbld75x0x2 {x0 x2 : Value} (h0 : x0.oneCell' = true) (h2 : x2.oneCell' = true) (w : World) : (Instr.build 75 (List.toArray [(0, x0), (2, x2)])).run Try.prog w = .ok (.agg #[x0, .int .i64 0, x2]) w := by
  have e0 := cells_one h0
  have e2 := cells_one h2
  simp [Instr.build, Instr.fill, cells_agg, e0, e2]
end Go.Proofs.Ytgmoahoocakpmaa
