/- Closed facts on the types of this seat. Conditions: none. -/
import Derived.Test.YtjkeefmpjocilaaSx
set_option linter.unusedVariables false
set_option linter.unusedSimpArgs false
namespace Go.Proofs.Ytjkeefmpjocilaa
open Go Go.RowKit
abbrev intT : TypeId := 3
abbrev strT : TypeId := 9
theorem xelt22 : Elt Try.prog 22 5 Try.t5 (.int .u8 0) 1 1 := ⟨Try.underlying22, by kernel_rfl, rfl, rfl, rfl, rfl, by decide⟩
theorem xelt23 : Elt Try.prog 23 3 Try.t3 (.int .i64 0) 1 8 := ⟨Try.underlying23, by kernel_rfl, rfl, rfl, rfl, rfl, by decide⟩
theorem xfld25x0 : ∀ b o w, (Instr.fieldAt 25 (.pointer (some ⟨b, o, none⟩)) 0).run Try.prog w = .ok (.pointer (some ⟨b, o + 0, none⟩)) w := fun b o w => by simp [Instr.fieldAt, Instr.sureAddr, fieldPlace, add_at]
theorem xfld25x1 : ∀ b o w, (Instr.fieldAt 25 (.pointer (some ⟨b, o, none⟩)) 1).run Try.prog w = .ok (.pointer (some ⟨b, o + 1, none⟩)) w := fun b o w => by simp [Instr.fieldAt, Instr.sureAddr, fieldPlace, add_at]
theorem xelt28 : Elt Try.prog 28 25 Try.t25 (.agg #[.bool false, .slice none 0 0]) 2 32 := ⟨Try.underlying28, by kernel_rfl, rfl, rfl, rfl, rfl, by decide⟩
theorem xfld34x0 : ∀ b o w, (Instr.fieldAt 34 (.pointer (some ⟨b, o, none⟩)) 0).run Try.prog w = .ok (.pointer (some ⟨b, o + 0, none⟩)) w := fun b o w => by simp [Instr.fieldAt, Instr.sureAddr, fieldPlace, add_at]
theorem xfld34x1 : ∀ b o w, (Instr.fieldAt 34 (.pointer (some ⟨b, o, none⟩)) 1).run Try.prog w = .ok (.pointer (some ⟨b, o + 2, none⟩)) w := fun b o w => by simp [Instr.fieldAt, Instr.sureAddr, fieldPlace, add_at]
theorem xfld35x0 : ∀ b o w, (Instr.fieldAt 35 (.pointer (some ⟨b, o, none⟩)) 0).run Try.prog w = .ok (.pointer (some ⟨b, o + 0, none⟩)) w := fun b o w => by simp [Instr.fieldAt, Instr.sureAddr, fieldPlace, add_at]
theorem xfld35x1 : ∀ b o w, (Instr.fieldAt 35 (.pointer (some ⟨b, o, none⟩)) 1).run Try.prog w = .ok (.pointer (some ⟨b, o + 2, none⟩)) w := fun b o w => by simp [Instr.fieldAt, Instr.sureAddr, fieldPlace, add_at]
theorem xfld52x0 : ∀ b o w, (Instr.fieldAt 52 (.pointer (some ⟨b, o, none⟩)) 0).run Try.prog w = .ok (.pointer (some ⟨b, o + 0, none⟩)) w := fun b o w => by simp [Instr.fieldAt, Instr.sureAddr, fieldPlace, add_at]
theorem xfld52x1 : ∀ b o w, (Instr.fieldAt 52 (.pointer (some ⟨b, o, none⟩)) 1).run Try.prog w = .ok (.pointer (some ⟨b, o + 1, none⟩)) w := fun b o w => by simp [Instr.fieldAt, Instr.sureAddr, fieldPlace, add_at]
theorem xfld52x2 : ∀ b o w, (Instr.fieldAt 52 (.pointer (some ⟨b, o, none⟩)) 2).run Try.prog w = .ok (.pointer (some ⟨b, o + 2, none⟩)) w := fun b o w => by simp [Instr.fieldAt, Instr.sureAddr, fieldPlace, add_at]
theorem xelt60 : Elt Try.prog 60 23 Try.t23 (.slice none 0 0) 1 24 := ⟨Try.underlying60, by kernel_rfl, rfl, rfl, rfl, rfl, by decide⟩
theorem xelt61 : Elt Try.prog 61 66 Try.t66 (.agg #[.int .i64 0, .slice none 0 0]) 2 32 := ⟨Try.underlying61, by kernel_rfl, rfl, rfl, rfl, rfl, by decide⟩
theorem xfld65x0 : ∀ b o w, (Instr.fieldAt 65 (.pointer (some ⟨b, o, none⟩)) 0).run Try.prog w = .ok (.pointer (some ⟨b, o + 0, none⟩)) w := fun b o w => by simp [Instr.fieldAt, Instr.sureAddr, fieldPlace, add_at]
theorem xfld65x1 : ∀ b o w, (Instr.fieldAt 65 (.pointer (some ⟨b, o, none⟩)) 1).run Try.prog w = .ok (.pointer (some ⟨b, o + 1, none⟩)) w := fun b o w => by simp [Instr.fieldAt, Instr.sureAddr, fieldPlace, add_at]
theorem xfld66x0 : ∀ b o w, (Instr.fieldAt 66 (.pointer (some ⟨b, o, none⟩)) 0).run Try.prog w = .ok (.pointer (some ⟨b, o + 0, none⟩)) w := fun b o w => by simp [Instr.fieldAt, Instr.sureAddr, fieldPlace, add_at]
theorem xfld66x1 : ∀ b o w, (Instr.fieldAt 66 (.pointer (some ⟨b, o, none⟩)) 1).run Try.prog w = .ok (.pointer (some ⟨b, o + 1, none⟩)) w := fun b o w => by simp [Instr.fieldAt, Instr.sureAddr, fieldPlace, add_at]
theorem xfld98x0 : ∀ b o w, (Instr.fieldAt 98 (.pointer (some ⟨b, o, none⟩)) 0).run Try.prog w = .ok (.pointer (some ⟨b, o + 0, none⟩)) w := fun b o w => by simp [Instr.fieldAt, Instr.sureAddr, fieldPlace, add_at]
theorem xfld98x1 : ∀ b o w, (Instr.fieldAt 98 (.pointer (some ⟨b, o, none⟩)) 1).run Try.prog w = .ok (.pointer (some ⟨b, o + 1, none⟩)) w := fun b o w => by simp [Instr.fieldAt, Instr.sureAddr, fieldPlace, add_at]
theorem xfld99x0 : ∀ b o w, (Instr.fieldAt 99 (.pointer (some ⟨b, o, none⟩)) 0).run Try.prog w = .ok (.pointer (some ⟨b, o + 0, none⟩)) w := fun b o w => by simp [Instr.fieldAt, Instr.sureAddr, fieldPlace, add_at]
theorem xfld99x1 : ∀ b o w, (Instr.fieldAt 99 (.pointer (some ⟨b, o, none⟩)) 1).run Try.prog w = .ok (.pointer (some ⟨b, o + 1, none⟩)) w := fun b o w => by simp [Instr.fieldAt, Instr.sureAddr, fieldPlace, add_at]
theorem xfv99x1 {x0 x1 : Value} (w : World) : (Instr.field 99 (.agg #[x0, x1]) 1).run Try.prog w = .ok (x1) w := by kernel_rfl
theorem xbld25x  (w : World) : (Instr.build 25 (List.toArray [])).run Try.prog w = .ok (.agg #[.bool false, .slice none 0 0]) w := by
  simp [Instr.build, Instr.fill, cells_agg]
theorem xbld25x0x1 {x0 x1 : Value} (h0 : x0.oneCell' = true) (h1 : x1.oneCell' = true) (w : World) : (Instr.build 25 (List.toArray [(0, x0), (1, x1)])).run Try.prog w = .ok (.agg #[x0, x1]) w := by
  have e0 := cells_one h0
  have e1 := cells_one h1
  simp [Instr.build, Instr.fill, cells_agg, e0, e1]
theorem xbld35x  (w : World) : (Instr.build 35 (List.toArray [])).run Try.prog w = .ok (.agg #[.bool false, .slice none 0 0, .slice none 0 0]) w := by
  simp [Instr.build, Instr.fill, cells_agg]
theorem xbld35x0x1 {y0x0 y0x1 x1 : Value} (h1 : x1.oneCell' = true) (w : World) : (Instr.build 35 (List.toArray [(0, .agg #[y0x0, y0x1]), (1, x1)])).run Try.prog w = .ok (.agg #[y0x0, y0x1, x1]) w := by
  have e1 := cells_one h1
  simp [Instr.build, Instr.fill, cells_agg, e1]
theorem xbld52x0x2 {x0 x2 : Value} (h0 : x0.oneCell' = true) (h2 : x2.oneCell' = true) (w : World) : (Instr.build 52 (List.toArray [(0, x0), (2, x2)])).run Try.prog w = .ok (.agg #[x0, .int .i64 0, x2]) w := by
  have e0 := cells_one h0
  have e2 := cells_one h2
  simp [Instr.build, Instr.fill, cells_agg, e0, e2]
theorem xbld66x0x1 {x0 x1 : Value} (h0 : x0.oneCell' = true) (h1 : x1.oneCell' = true) (w : World) : (Instr.build 66 (List.toArray [(0, x0), (1, x1)])).run Try.prog w = .ok (.agg #[x0, x1]) w := by
  have e0 := cells_one h0
  have e1 := cells_one h1
  simp [Instr.build, Instr.fill, cells_agg, e0, e1]
theorem xbld99x0x1 {x0 x1 : Value} (h0 : x0.oneCell' = true) (h1 : x1.oneCell' = true) (w : World) : (Instr.build 99 (List.toArray [(0, x0), (1, x1)])).run Try.prog w = .ok (.agg #[x0, x1]) w := by
  have e0 := cells_one h0
  have e1 := cells_one h1
  simp [Instr.build, Instr.fill, cells_agg, e0, e1]
theorem xbld100x0x1x2x3x4x5x6 {y0x0 y0x1 y1x0 y1x1 y2x0 y2x1 y3x0 y3x1 y4x0 y4x1 y5x0 y5x1 y6x0 y6x1 : Value} (w : World) : (Instr.build 100 (List.toArray [(0, .agg #[y0x0, y0x1]), (1, .agg #[y1x0, y1x1]), (2, .agg #[y2x0, y2x1]), (3, .agg #[y3x0, y3x1]), (4, .agg #[y4x0, y4x1]), (5, .agg #[y5x0, y5x1]), (6, .agg #[y6x0, y6x1])])).run Try.prog w = .ok (.agg #[y0x0, y0x1, y1x0, y1x1, y2x0, y2x1, y3x0, y3x1, y4x0, y4x1, y5x0, y5x1, y6x0, y6x1]) w := by
  simp [Instr.build, Instr.fill, cells_agg]
end Go.Proofs.Ytjkeefmpjocilaa
