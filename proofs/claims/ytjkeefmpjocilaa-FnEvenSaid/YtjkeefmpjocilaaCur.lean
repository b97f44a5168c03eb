/- The tables of currencies, and the variable that holds one. Conditions: none. -/
import Derived.Test.YtjkeefmpjocilaaSx
set_option linter.unusedVariables false
set_option linter.unusedSimpArgs false
namespace Go.Proofs.Ytjkeefmpjocilaa
open Go Go.RowKit
/-! ### the tables of currencies -/
structure Cr where
  code : ByteArray
  number : ByteArray
  places : Int
  cash : Int
  deriving DecidableEq
def Cr.cells (c : Cr) : List Value := [.string c.code, .string c.number, .int .i64 c.places, .int .i64 c.cash]
def cr0 : Cr := ⟨⟨#[]⟩, ⟨#[]⟩, 0, 0⟩
def crCells (l : List Cr) : List Value := l.flatMap Cr.cells
def tabI : List Cr := [⟨⟨#[67, 72, 70]⟩, ⟨#[55, 53, 54]⟩, 2, 5⟩, ⟨⟨#[69, 85, 82]⟩, ⟨#[57, 55, 56]⟩, 2, 1⟩, ⟨⟨#[85, 83, 68]⟩, ⟨#[56, 52, 48]⟩, 2, 1⟩, ⟨⟨#[71, 66, 80]⟩, ⟨#[56, 50, 54]⟩, 2, 1⟩, ⟨⟨#[74, 80, 89]⟩, ⟨#[51, 57, 50]⟩, 0, 1⟩, ⟨⟨#[83, 69, 75]⟩, ⟨#[55, 53, 50]⟩, 2, 100⟩, ⟨⟨#[78, 79, 75]⟩, ⟨#[53, 55, 56]⟩, 2, 100⟩, ⟨⟨#[68, 75, 75]⟩, ⟨#[50, 48, 56]⟩, 2, 50⟩, ⟨⟨#[67, 90, 75]⟩, ⟨#[50, 48, 51]⟩, 2, 100⟩, ⟨⟨#[72, 85, 70]⟩, ⟨#[51, 52, 56]⟩, 2, 500⟩, ⟨⟨#[80, 76, 78]⟩, ⟨#[57, 56, 53]⟩, 2, 1⟩, ⟨⟨#[67, 65, 68]⟩, ⟨#[49, 50, 52]⟩, 2, 5⟩, ⟨⟨#[65, 85, 68]⟩, ⟨#[48, 51, 54]⟩, 2, 5⟩, ⟨⟨#[78, 90, 68]⟩, ⟨#[53, 53, 52]⟩, 2, 10⟩, ⟨⟨#[75, 87, 68]⟩, ⟨#[52, 49, 52]⟩, 3, 5⟩, ⟨⟨#[66, 72, 68]⟩, ⟨#[48, 52, 56]⟩, 3, 5⟩, ⟨⟨#[84, 78, 68]⟩, ⟨#[55, 56, 56]⟩, 3, 10⟩, ⟨⟨#[73, 83, 75]⟩, ⟨#[51, 53, 50]⟩, 0, 1⟩, ⟨⟨#[75, 82, 87]⟩, ⟨#[52, 49, 48]⟩, 0, 10⟩, ⟨⟨#[67, 76, 70]⟩, ⟨#[57, 57, 48]⟩, 4, 1⟩]
def tabS : List Cr := [⟨⟨#[65, 85, 68]⟩, ⟨#[48, 51, 54]⟩, 2, 5⟩, ⟨⟨#[66, 72, 68]⟩, ⟨#[48, 52, 56]⟩, 3, 5⟩, ⟨⟨#[67, 65, 68]⟩, ⟨#[49, 50, 52]⟩, 2, 5⟩, ⟨⟨#[67, 72, 70]⟩, ⟨#[55, 53, 54]⟩, 2, 5⟩, ⟨⟨#[67, 76, 70]⟩, ⟨#[57, 57, 48]⟩, 4, 1⟩, ⟨⟨#[67, 90, 75]⟩, ⟨#[50, 48, 51]⟩, 2, 100⟩, ⟨⟨#[68, 75, 75]⟩, ⟨#[50, 48, 56]⟩, 2, 50⟩, ⟨⟨#[69, 85, 82]⟩, ⟨#[57, 55, 56]⟩, 2, 1⟩, ⟨⟨#[71, 66, 80]⟩, ⟨#[56, 50, 54]⟩, 2, 1⟩, ⟨⟨#[72, 85, 70]⟩, ⟨#[51, 52, 56]⟩, 2, 500⟩, ⟨⟨#[73, 83, 75]⟩, ⟨#[51, 53, 50]⟩, 0, 1⟩, ⟨⟨#[74, 80, 89]⟩, ⟨#[51, 57, 50]⟩, 0, 1⟩, ⟨⟨#[75, 82, 87]⟩, ⟨#[52, 49, 48]⟩, 0, 10⟩, ⟨⟨#[75, 87, 68]⟩, ⟨#[52, 49, 52]⟩, 3, 5⟩, ⟨⟨#[78, 79, 75]⟩, ⟨#[53, 55, 56]⟩, 2, 100⟩, ⟨⟨#[78, 90, 68]⟩, ⟨#[53, 53, 52]⟩, 2, 10⟩, ⟨⟨#[80, 76, 78]⟩, ⟨#[57, 56, 53]⟩, 2, 1⟩, ⟨⟨#[83, 69, 75]⟩, ⟨#[55, 53, 50]⟩, 2, 100⟩, ⟨⟨#[84, 78, 68]⟩, ⟨#[55, 56, 56]⟩, 3, 10⟩, ⟨⟨#[85, 83, 68]⟩, ⟨#[56, 52, 48]⟩, 2, 1⟩]
theorem crCells_len (l : List Cr) : (crCells l).length = l.length * 4 := by
  induction l with
  | nil => rfl
  | cons c l ih => simp only [crCells, List.flatMap_cons, List.length_append, List.length_cons]; simp only [crCells] at ih; rw [ih]; simp [Cr.cells]; omega
theorem crCells_at (l : List Cr) (k j : Nat) (hk : k < l.length) (hj : j < 4) : (crCells l)[k * 4 + j]? = (l.getD k cr0).cells[j]? := by
  induction l generalizing k with
  | nil => simp at hk
  | cons c l ih =>
    cases k with
    | zero =>
      simp only [crCells, List.flatMap_cons, Nat.zero_mul, Nat.zero_add, List.getD_cons_zero]
      rw [List.getElem?_append_left (by simpa [Cr.cells] using hj)]
    | succ k =>
      simp only [crCells, List.flatMap_cons, List.getD_cons_succ]
      rw [List.getElem?_append_right (by simp [Cr.cells]; omega)]
      have e : (k + 1) * 4 + j - c.cells.length = k * 4 + j := by simp [Cr.cells]; omega
      rw [e]
      exact ih k (by simpa using hk)
theorem cr_look {l : List Cr} {k : Nat} (hk : k < l.length) : ∀ j u, [Value.string (l.getD k cr0).code, .string (l.getD k cr0).number, .int .i64 (l.getD k cr0).places, .int .i64 (l.getD k cr0).cash][j]? = some u → (crCells l)[k * 4 + j]? = some u := fun j u hj => by
  have hj4 : j < 4 := by
    rcases Nat.lt_or_ge j 4 with h | h
    · exact h
    · rw [List.getElem?_eq_none (by simpa using h)] at hj; cases hj
  rw [crCells_at l k j hk hj4]; exact hj
def byCode (l : List Cr) (s : ByteArray) : Option Cr := l.find? fun c => decide (c.code = s)
def byNum (l : List Cr) (s : ByteArray) : Option Cr := l.find? fun c => decide (c.number = s)
theorem find_at {l : List Cr} {p : Cr → Bool} {k : Nat} (hk : k < l.length) (hn : ∀ i, i < k → p (l.getD i cr0) = false) (hp : p (l.getD k cr0) = true) : l.find? p = some (l.getD k cr0) := by
  induction l generalizing k with
  | nil => simp at hk
  | cons c l ih =>
    cases k with
    | zero => simp at hp; simp [hp]
    | succ k =>
      have h0 := hn 0 (by omega)
      simp at h0
      rw [List.find?_cons_of_neg (by simp [h0])]
      simp only [List.getD_cons_succ] at hp ⊢
      exact ih (by simpa using hk) (fun i hi => by have := hn (i + 1) (by omega); simpa using this) hp
theorem find_none {l : List Cr} {p : Cr → Bool} (hn : ∀ i, i < l.length → p (l.getD i cr0) = false) : l.find? p = none := by
  rw [List.find?_eq_none]
  intro c hc
  obtain ⟨i, hi, rfl⟩ := List.getElem_of_mem hc
  have := hn i hi
  simpa [List.getElem?_eq_getElem hi] using this
theorem byNum_at {l : List Cr} {s : ByteArray} {k : Nat} (hk : k < l.length) (hn : ∀ i, i < k → ¬ (l.getD i cr0).number = s) (hp : (l.getD k cr0).number = s) : byNum l s = some (l.getD k cr0) :=
  find_at hk (fun i hi => by simpa using hn i hi) (by simpa using hp)
theorem byNum_none {l : List Cr} {s : ByteArray} (hn : ∀ i, i < l.length → ¬ (l.getD i cr0).number = s) : byNum l s = none := find_none fun i hi => by simpa using hn i hi
theorem byCode_at {l : List Cr} {s : ByteArray} {k : Nat} (hk : k < l.length) (hn : ∀ i, i < k → ¬ (l.getD i cr0).code = s) (hp : (l.getD k cr0).code = s) : byCode l s = some (l.getD k cr0) :=
  find_at hk (fun i hi => by simpa using hn i hi) (by simpa using hp)
theorem byCode_none {l : List Cr} {s : ByteArray} (hn : ∀ i, i < l.length → ¬ (l.getD i cr0).code = s) : byCode l s = none := find_none fun i hi => by simpa using hn i hi
theorem upto_succ {p : Nat → Prop} {k : Nat} (h : ∀ i, i < k → ¬ p i) (hk : ¬ p k) : ∀ i, i < k + 1 → ¬ p i := fun i hi => by
  by_cases e : i = k
  · subst e; exact hk
  · exact h i (by omega)
theorem two_tables {α : Type} [DecidableEq α] (f : Cr → α) (a b : List Cr) (hab : ∀ x ∈ a.map f, (a.find? fun c => decide (f c = x)) = b.find? fun c => decide (f c = x)) (hba : (b.map f).all (fun x => (a.map f).any fun y => decide (y = x)) = true) (s : α) :
    (a.find? fun c => decide (f c = s)) = b.find? fun c => decide (f c = s) := by
  have hba' : ∀ x ∈ b.map f, x ∈ a.map f := fun x hx => by
    have h1 := List.all_eq_true.1 hba x hx
    obtain ⟨y, hy, e⟩ := List.any_eq_true.1 h1
    have e' : y = x := by simpa using e
    rw [← e']; exact hy
  by_cases h : s ∈ a.map f
  · exact hab s h
  · rw [List.find?_eq_none.2, List.find?_eq_none.2]
    · intro c hc; simp only [decide_eq_true_eq]; rintro rfl; exact h (hba' _ (List.mem_map_of_mem hc))
    · intro c hc; simp only [decide_eq_true_eq]; rintro rfl; exact h (List.mem_map_of_mem hc)
theorem byNum_eq (s : ByteArray) : byNum tabI s = byNum tabS s :=
  two_tables Cr.number tabI tabS (by decide +kernel) (by decide +kernel) s
theorem byCode_eq (s : ByteArray) : byCode tabI s = byCode tabS s :=
  two_tables Cr.code tabI tabS (by decide +kernel) (by decide +kernel) s
def curOf (s : ByteArray) : Cr := (byCode tabI s).getD cr0
theorem curOf_some {s : ByteArray} {k : Nat} (hk : k < tabI.length) (hn : ∀ i, i < k → ¬ (tabI.getD i cr0).code = s) (hp : (tabI.getD k cr0).code = s) : curOf s = tabI.getD k cr0 := by
  unfold curOf; rw [byCode_at hk hn hp]; rfl
theorem curOf_someS {s : ByteArray} {k : Nat} (hk : k < tabS.length) (hn : ∀ i, i < k → ¬ (tabS.getD i cr0).code = s) (hp : (tabS.getD k cr0).code = s) : curOf s = tabS.getD k cr0 := by
  unfold curOf; rw [byCode_eq, byCode_at hk hn hp]; rfl
theorem curOf_none {s : ByteArray} (hn : ∀ i, i < tabI.length → ¬ (tabI.getD i cr0).code = s) : curOf s = cr0 := by
  unfold curOf; rw [byCode_none hn]; rfl
theorem curOf_noneS {s : ByteArray} (hn : ∀ i, i < tabS.length → ¬ (tabS.getD i cr0).code = s) : curOf s = cr0 := by
  unfold curOf; rw [byCode_eq, byCode_none hn]; rfl
/-- a code is known -/
def Known (s : ByteArray) : Prop := (byCode tabI s).isSome = true
instance (s : ByteArray) : Decidable (Known s) := by unfold Known; infer_instance
theorem known_some {s : ByteArray} {k : Nat} (hk : k < tabI.length) (hn : ∀ i, i < k → ¬ (tabI.getD i cr0).code = s) (hp : (tabI.getD k cr0).code = s) : Known s := by
  unfold Known; rw [byCode_at hk hn hp]; rfl
theorem known_none {s : ByteArray} (hn : ∀ i, i < tabI.length → ¬ (tabI.getD i cr0).code = s) : ¬ Known s := by
  unfold Known; rw [byCode_none hn]; decide
theorem known_iff (s : ByteArray) : Known s ↔ (curOf s).code ≠ ⟨#[]⟩ := by
  unfold Known curOf
  constructor
  · intro h
    cases e : byCode tabI s with
    | none => rw [e] at h; cases h
    | some c =>
      have hc : c ∈ tabI := List.mem_of_find?_eq_some e
      have : ∀ c ∈ tabI, c.code ≠ ⟨#[]⟩ := by decide +kernel
      exact this c hc
  · intro h
    cases e : byCode tabI s with
    | none => rw [e] at h; exact absurd rfl h
    | some c => rfl
def numOf (s : ByteArray) : ByteArray := ((byNum tabI s).getD cr0).code
/-- the variable of the table holds what it was laid with -/
def Glob (w : World) : Prop := ∃ T fz, w.heap[0]? = some (.cells (crCells tabI).toArray T fz)
theorem Glob.chg {w w' : World} {l h : Nat} (hg : Glob w) (hc : Chg l h w w') (ho : 0 < l ∨ h ≤ 0) : Glob w' := by
  obtain ⟨T, fz, h1⟩ := hg
  refine ⟨T, fz, (hc.block 0 ?_ ho).trans h1⟩
  rcases Nat.lt_or_ge 0 w.heap.size with h' | h'
  · exact h'
  · simp [Array.getElem?_eq_none h'] at h1
theorem Glob.ext {w w' : World} (hg : Glob w) (hc : Chg 0 0 w w') : Glob w' := hg.chg hc (.inr (Nat.le_refl _))
theorem Glob.load {P : Program} {w : World} {T : TypeId} (hg : Glob w) (hA : ∀ w, (isAgg T).run P w = .ok true w) (hS : ∀ w, (sizeOf T).run P w = .ok 80 w) : (loadVar T ⟨0, 0, none⟩).run P w = .ok (.agg (crCells tabI).toArray) w := by
  obtain ⟨T', fz, h1⟩ := hg
  refine run_loadA (cs := crCells tabI) hA (fun w => by rw [hS w]; rfl) fun j v hj => ?_
  rw [add_at]
  simp [World.cell?, h1, hj]
theorem px_indexCr {P : Program} {n : Nat} {fr : Fr} {w : World} {ty : TypeId} {pos : String} {aft : Array Edge} {dst : Option Tmp} {g : Option (Nat × Bool)} {x y : Operand} {T e : TypeId} {l : List Cr} {i : Int} {j m : Nat} (hx : ev fr x = some (.agg (crCells l).toArray)) (hy : ev fr y = some (.int .i64 i)) (hj : i = (j : Int)) (hT : P.underlying T = some (.array m e)) (hm : m = l.length) (hS : ∀ w, (sizeOf e).run P w = .ok 4 w) (hA : ∀ w, (isAgg e).run P w = .ok true w) (h1 : j < l.length) :
    Px P n fr ⟨dst, .index T x y, ty, pos, aft, g⟩ (.agg #[.string (l.getD j cr0).code, .string (l.getD j cr0).number, .int .i64 (l.getD j cr0).places, .int .i64 (l.getD j cr0).cash]) w := fun a ha => by
  subst hj; subst hm
  have key : (List.take 4 (List.drop (j * 4) (crCells l))).toArray = #[.string (l.getD j cr0).code, .string (l.getD j cr0).number, .int .i64 (l.getD j cr0).places, .int .i64 (l.getD j cr0).cash] := by
    apply Array.ext'
    show List.take 4 (List.drop (j * 4) (crCells l)) = _
    apply List.ext_getElem?
    intro q
    by_cases hq : q < 4
    · rw [List.getElem?_take_of_lt (by omega), List.getElem?_drop, crCells_at l j q h1 hq]; rfl
    · rw [List.getElem?_eq_none (by rw [List.length_take]; omega), List.getElem?_eq_none (by simp; omega)]
  simp only [List.getD_eq_getElem?_getD] at key ⊢
  simp [execOp, ha.ev hx, ha.ev hy, Instr.index, asIntOf, run_underlying hT, h1, part, hS, hA, key]
end Go.Proofs.Ytjkeefmpjocilaa
