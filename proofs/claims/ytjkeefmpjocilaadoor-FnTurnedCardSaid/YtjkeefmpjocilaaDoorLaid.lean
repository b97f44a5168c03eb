/- What the listed variable of currencies reads as, and the cells that read so. Conditions: none. -/
import Derived.Test.YtjkeefmpjocilaaDoorCur
import Derived.ProofKit
import Derived.OpenShut
import Derived.JoinedOf
import Derived.ChangeVars
import Derived.LaidLaws
import Derived.WalkSmall
set_option linter.unusedVariables false
set_option linter.unusedSimpArgs false
namespace Go.Proofs.YtjkeefmpjocilaaDoor
open Go Go.RowKit
set_option maxRecDepth 100000
theorem curVar : Tryd.prog.globalNamed "loop.example/g00793/impl.currencies" = some 0 := by kernel_rfl
theorem curType : (Tryd.prog.globals[0]?).map (·.type) = some 111 := by kernel_rfl
theorem curCellsA : Tryd.prog.cellsOf 111 = 80 := by kernel_rfl
theorem curCellsR : Tryd.prog.cellsOf 105 = 4 := by kernel_rfl
theorem curCellsS : Tryd.prog.cellsOf 9 = 1 := by kernel_rfl
theorem curCellsI : Tryd.prog.cellsOf 3 = 1 := by kernel_rfl
def crData {H : Type} (c : Cr) : DataW H := .agg [.lit (.string c.code.data.toList), .lit (.string c.number.data.toList), .lit (.int .i64 c.places), .lit (.int .i64 c.cash)]
theorem laid_is {H : Type} : (Rows.laid_loop_example_g00793_impl_currencies : DataW H) = .agg (tabI.map crData) := rfl
theorem str_of_trod {H : Type} {enc : TypeId × Value → H} {w : World} {base : Nat} {sp : Nat → Bool} {held : Bool} {fuel : Nat} {c : List Value} {s : List UInt8} {p : List MemPlace}
    (h : DataW.trod enc Tryd.prog w base sp held fuel 9 c = some (.lit (.string s), p)) : c = [.string ⟨s.toArray⟩] := by
  cases fuel with
  | zero => simp [DataW.trod] at h
  | succ fuel =>
    unfold DataW.trod at h
    rw [Tryd.underlying9] at h
    split at h <;> simp_all
    obtain ⟨h1, h2, _⟩ := h
    rw [← h2]
theorem int_of_trod {H : Type} {enc : TypeId × Value → H} {w : World} {base : Nat} {sp : Nat → Bool} {held : Bool} {fuel : Nat} {c : List Value} {k : Int} {p : List MemPlace}
    (h : DataW.trod enc Tryd.prog w base sp held fuel 3 c = some (.lit (.int .i64 k), p)) : c = [.int .i64 k] := by
  cases fuel with
  | zero => simp [DataW.trod] at h
  | succ fuel =>
    unfold DataW.trod at h
    rw [Tryd.underlying3] at h
    split at h <;> simp_all
theorem cr_of_trod {H : Type} {enc : TypeId × Value → H} {w : World} {base : Nat} {sp : Nat → Bool} {held : Bool} {fuel : Nat} {l : List Value} {c : Cr} {p : List MemPlace}
    (h : DataW.trod enc Tryd.prog w base sp held fuel 105 l = some (crData c, p)) : l = c.cells := by
  cases fuel with
  | zero => simp [DataW.trod] at h
  | succ fuel =>
    simp only [DataW.trod, Tryd.underlying105, curCellsR, curCellsS, curCellsI] at h
    split at h
    · rename_i hl
      obtain ⟨c0, c1, c2, c3, rfl⟩ : ∃ c0 c1 c2 c3, l = [c0, c1, c2, c3] := by
        match l, hl with
        | [a, b, c, d], _ => exact ⟨a, b, c, d, rfl⟩
      simp only [Option.map_eq_some_iff, List.mapM_cons, List.mapM_nil, Option.bind_eq_bind, Option.bind_eq_some_iff, Option.pure_def, Option.some.injEq] at h
      obtain ⟨xs, ⟨y0, h0, _, ⟨y1, h1, _, ⟨y2, h2, _, ⟨y3, h3, _, rfl, rfl⟩, rfl⟩, rfl⟩, rfl⟩, hx⟩ := h
      simp [crData] at hx
      obtain ⟨⟨e0, e1, e2, e3⟩, _⟩ := hx
      obtain ⟨y0, p0⟩ := y0; obtain ⟨y1, p1⟩ := y1; obtain ⟨y2, p2⟩ := y2; obtain ⟨y3, p3⟩ := y3
      simp only at e0 e1 e2 e3
      subst e0; subst e1; subst e2; subst e3
      rw [curCellsS] at h0 h1
      rw [curCellsI] at h2 h3
      have g0 := str_of_trod h0
      have g1 := str_of_trod h1
      have g2 := int_of_trod h2
      have g3 := int_of_trod h3
      simp at g0 g1 g2 g3
      simp [Cr.cells, g0, g1, g2, g3]
    · cases h
theorem tab_of_trod {H : Type} {enc : TypeId × Value → H} {w : World} {base : Nat} {sp : Nat → Bool} {held : Bool} {fuel : Nat} {cs : List Value} {p : List MemPlace}
    (h : DataW.trod enc Tryd.prog w base sp held fuel 111 cs = some (Rows.laid_loop_example_g00793_impl_currencies, p)) : cs = crCells tabI := by
  obtain ⟨xs, m, _, hx, hl, hxs, hi⟩ := DataW.trod_array (n := 20) Tryd.underlying111 h
  rw [laid_is] at hx
  simp only [Prod.mk.injEq, DataW.agg.injEq] at hx
  obtain ⟨hx, _⟩ := hx
  rw [curCellsA] at hl
  have row : ∀ i, i < 20 → (cs.drop (i * 4)).take 4 = (tabI.getD i cr0).cells := by
    intro i hi20
    have h1 := hi i hi20
    rw [curCellsR] at h1
    have hlt : i < xs.length := by omega
    rw [List.getElem?_eq_getElem hlt] at h1
    have h2 : xs[i].1 = crData (tabI.getD i cr0) := by
      have h3 : (xs.map (·.1))[i]? = (tabI.map crData)[i]? := by rw [hx]
      have ht : i < tabI.length := by rw [show tabI.length = 20 from rfl]; exact hi20
      rw [List.getElem?_map, List.getElem?_map, List.getElem?_eq_getElem hlt, List.getElem?_eq_getElem ht] at h3
      simp only [Option.map_some, Option.some.injEq] at h3
      rw [h3]; simp [List.getElem?_eq_getElem ht]
    have h4 : xs[i] = (crData (tabI.getD i cr0), xs[i].2) := by rw [← h2]
    rw [h4] at h1
    exact cr_of_trod h1
  apply List.ext_getElem?
  intro q
  by_cases hq : q < 80
  · have e : q = (q / 4) * 4 + q % 4 := by omega
    have h1 := row (q / 4) (by omega)
    have h2 : ((cs.drop ((q / 4) * 4)).take 4)[q % 4]? = cs[q]? := by
      rw [List.getElem?_take_of_lt (by omega), List.getElem?_drop, ← e]
    have h3 := crCells_at tabI (q / 4) (q % 4) (by rw [show tabI.length = 20 from rfl]; omega) (by omega)
    rw [← e] at h3
    rw [← h2, h1, h3]
  · rw [List.getElem?_eq_none (by omega), List.getElem?_eq_none (by rw [crCells_len, show tabI.length = 20 from rfl]; omega)]
theorem laid_cells {W : World} (h : laidMet Tryd.prog [("loop.example/g00793/impl.currencies", Rows.laid_loop_example_g00793_impl_currencies)] W) : W.var? Tryd.prog "loop.example/g00793/impl.currencies" = some (crCells tabI).toArray := by
  obtain ⟨ps, ⟨g, t, cs, fuel, p, q, hg, ht, hvar, hd, _, _⟩, _⟩ := h
  obtain rfl := Option.some.inj (curVar.symm.trans hg)
  obtain rfl := Option.some.inj (curType.symm.trans ht)
  rw [hvar]
  have := tab_of_trod hd
  congr 1
  apply Array.ext'
  simpa using this
theorem glob_of_var {W : World} (h : W.var? Tryd.prog "loop.example/g00793/impl.currencies" = some (crCells tabI).toArray) : Glob W := by
  unfold World.var? at h
  rw [curVar] at h
  simp only [Option.bind_some] at h
  split at h
  · rename_i cs T fz hh
    simp at h
    exact ⟨T, fz, by rw [hh, h]⟩
  · cases h
theorem reads_tab {H : Type} (enc : TypeId × Value → H) (W : World) (sp : Nat → Bool) : DataW.trod enc Tryd.prog W 0 sp true 4 111 (crCells tabI) = some (Rows.laid_loop_example_g00793_impl_currencies, []) := by kernel_rfl
noncomputable def laidWorld (os : Os) : World :=
  { World.holding Tryd.prog os ⟨#[], #[], []⟩ with heap := (World.holding Tryd.prog os ⟨#[], #[], []⟩).heap.modify 0 fun
      | .cells _ t frozen => .cells (crCells tabI).toArray t frozen
      | o => o }
end Go.Proofs.YtjkeefmpjocilaaDoor
