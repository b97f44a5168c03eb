/- Plain lemmas on numbers and lists; no program in sight. Conditions: none. -/
import Derived.Test.YtjkeefmpjocilaaNatSi
import Derived.Test.YtjkeefmpjocilaaSxG
import Derived.Test.YtjkeefmpjocilaaSxW
set_option linter.unusedVariables false
set_option linter.unusedSimpArgs false
namespace Go.Proofs.Ytjkeefmpjocilaa
open Go Go.RowKit
/-! ### rows of an index and a slice of limbs that is only read: they are stored into; what they point at lies apart -/
def ptCells (ix : List Nat) (ps : List Value) : List Value := ix.flatMap fun (i : Nat) => [Value.int .i64 ((i : Nat) : Int), ps.getD i vz]
theorem ptCells_len (ix : List Nat) (ps : List Value) : (ptCells ix ps).length = ix.length * 2 := by
  induction ix with
  | nil => rfl
  | cons a l ih => unfold ptCells at *; simp only [List.flatMap_cons, List.length_append, List.length_cons, List.length_nil, ih]; omega
theorem ptCells_at {ps : List Value} : ∀ {ix : List Nat} {j q : Nat}, j < ix.length → q < 2 → (ptCells ix ps)[j * 2 + q]? = ([.int .i64 ((ix.getD j 0 : Nat) : Int), ps.getD (ix.getD j 0) vz] : List Value)[q]?
  | [], _, _, h, _ => by simp at h
  | a :: l, 0, q, _, hq => by
    unfold ptCells
    simp only [List.flatMap_cons, Nat.zero_mul, Nat.zero_add, List.getD_cons_zero]
    exact List.getElem?_append_left (by simpa using hq)
  | a :: l, j + 1, q, h, hq => by
    have := ptCells_at (ps := ps) (ix := l) (j := j) (q := q) (by simpa using h) hq
    unfold ptCells at *
    simp only [List.flatMap_cons, List.getD_cons_succ]
    rw [List.getElem?_append_right (by simp only [List.length_cons, List.length_nil]; omega), ← this]
    congr 1
    simp only [List.length_cons, List.length_nil]; omega
theorem pt_look {ix : List Nat} {ps : List Value} {j : Nat} (h : j < ix.length) : ∀ q u, ([.int .i64 ((ix.getD j 0 : Nat) : Int), ps.getD (ix.getD j 0) vz] : List Value)[q]? = some u → (ptCells ix ps)[j * 2 + q]? = some u := fun q u hu => by
  have hq : q < 2 := by
    rcases Nat.lt_or_ge q 2 with h | h
    · exact h
    · rw [List.getElem?_eq_none (by simpa using h)] at hu; cases hu
  rw [ptCells_at h hq]; exact hu
theorem ptCells_set {ps : List Value} {a : Nat} : ∀ {ix : List Nat} {j : Nat}, j < ix.length → (ptCells ix ps).take (j * 2) ++ [.int .i64 ((a : Nat) : Int), ps.getD a vz] ++ (ptCells ix ps).drop (j * 2 + 2) = ptCells (ix.set j a) ps
  | [], _, h => by simp at h
  | b :: l, 0, _ => by simp [ptCells]
  | b :: l, j + 1, h => by
    have := ptCells_set (ps := ps) (a := a) (ix := l) (j := j) (by simpa using h)
    have e1 : ptCells (b :: l) ps = [.int .i64 ((b : Nat) : Int), ps.getD b vz] ++ ptCells l ps := by simp [ptCells]
    have e2 : ptCells ((b :: l).set (j + 1) a) ps = [.int .i64 ((b : Nat) : Int), ps.getD b vz] ++ ptCells (l.set j a) ps := by simp [ptCells]
    rw [e1, e2, ← this, show (j + 1) * 2 = j * 2 + 2 by omega]
    simp only [List.cons_append, List.nil_append, List.take_succ_cons, List.drop_succ_cons, List.append_assoc]
theorem ptCells_snoc {ix : List Nat} {ps : List Value} {a : Nat} : ptCells (ix ++ [a]) ps = ptCells ix ps ++ [.int .i64 ((a : Nat) : Int), ps.getD a vz] := by simp [ptCells]
theorem ptCells_app {ix : List Nat} {ps : List Value} {v : Value} (h : ∀ i ∈ ix, i < ps.length) : ptCells ix (ps ++ [v]) = ptCells ix ps := by
  unfold ptCells
  induction ix with
  | nil => rfl
  | cons a l ih =>
    simp only [List.flatMap_cons]
    rw [ih (fun i hi => h i (List.mem_cons_of_mem _ hi))]
    congr 1
    have := h a (List.mem_cons_self ..)
    simp [List.getElem?_append_left this]
theorem one_pt {ix : List Nat} {ps : List Value} (h : ∀ u ∈ ps, u.oneCell' = true) : ∀ u ∈ ptCells ix ps, u.oneCell' = true := fun u hu => by
  unfold ptCells at hu
  obtain ⟨i, _, hi⟩ := List.mem_flatMap.1 hu
  simp only [List.mem_cons, List.not_mem_nil, or_false] at hi
  rcases hi with rfl | rfl
  · rfl
  · simp only [List.getD_eq_getElem?_getD]
    cases e : ps[i]? with
    | none => rfl
    | some v => exact h v (List.mem_of_getElem? e)
/-- a slice of limbs apart from an interval of blocks, below t -/
def Nst (w : World) (l h t : Nat) (v : Value) (zs : List Int) : Prop := ∃ A B, Sl w A B v zs ∧ (B ≤ l ∨ h ≤ A) ∧ B ≤ t
theorem Nst.ext {w w' : World} {l h t : Nat} {v : Value} {zs : List Int} (hs : Nst w l h t v zs) (hc : Chg 0 0 w w') : Nst w' l h t v zs := by
  obtain ⟨A, B, h1, h2⟩ := hs; exact ⟨A, B, h1.ext hc, h2⟩
theorem Nst.chg {w w' : World} {l h t : Nat} {v : Value} {zs : List Int} (hs : Nst w l h t v zs) (hc : Chg l h w w') : Nst w' l h t v zs := by
  obtain ⟨A, B, h1, h2⟩ := hs; exact ⟨A, B, h1.chg hc h2.1, h2⟩
theorem Nst.far {w w' : World} {l h t l2 h2 : Nat} {v : Value} {zs : List Int} (hs : Nst w l h t v zs) (hc : Chg l2 h2 w w') (ho : t ≤ l2) : Nst w' l h t v zs := by
  obtain ⟨A, B, h1, h2⟩ := hs; exact ⟨A, B, h1.chg hc (.inl (by omega)), h2⟩
theorem Nst.fit {w : World} {l h t : Nat} {v : Value} {zs : List Int} (hs : Nst w l h t v zs) : Sl w 0 w.heap.size v zs := by
  obtain ⟨A, B, h1, _⟩ := hs; exact (h1.mono (Nat.zero_le _) (Nat.le_refl _)).fit
theorem Nst.one {w : World} {l h t : Nat} {v : Value} {zs : List Int} (hs : Nst w l h t v zs) : v.oneCell' = true := by
  obtain ⟨A, B, h1, _⟩ := hs; exact h1.one
/-- to an interval that is new -/
theorem Nst.new {w : World} {l h t l' h' : Nat} {v : Value} {zs : List Int} (hs : Nst w l h t v zs) (hl : w.heap.size ≤ l') : Nst w l' h' w.heap.size v zs := by
  obtain ⟨A, B, h1, _⟩ := hs; exact ⟨A, w.heap.size, h1.fit, .inl hl, Nat.le_refl _⟩
theorem Nst.of {w : World} {l h t A B : Nat} {v : Value} {zs : List Int} (hs : Sl w A B v zs) (h1 : B ≤ l ∨ h ≤ A) (h2 : B ≤ t) : Nst w l h t v zs := ⟨A, B, hs, h1, h2⟩
theorem Nst.up {w : World} {l h t t' : Nat} {v : Value} {zs : List Int} (hs : Nst w l h t v zs) (hl : t ≤ t') : Nst w l h t' v zs := by
  obtain ⟨A, B, h1, h2, h3⟩ := hs; exact ⟨A, B, h1, h2, by omega⟩
structure PtO (w : World) (lo hi t : Nat) (v : Value) (e : TypeId) (ix : List Nat) (ps : List Value) (r : Nat → Nat) : Prop where
  own : Own w lo hi v e ix.length 2 (ptCells ix ps)
  mem : ∀ i ∈ ix, i < ps.length
  nest : ∀ i, i < ps.length → Nst w lo hi t (ps.getD i vz) (dg (r i))
theorem PtO.ext {w w' : World} {lo hi t : Nat} {v : Value} {e : TypeId} {ix : List Nat} {ps : List Value} {r : Nat → Nat} (hs : PtO w lo hi t v e ix ps r) (hc : Chg 0 0 w w') : PtO w' lo hi t v e ix ps r :=
  ⟨hs.own.ext hc, hs.mem, fun i hi => (hs.nest i hi).ext hc⟩
theorem PtO.chg {w w' : World} {lo hi t l2 h2 : Nat} {v : Value} {e : TypeId} {ix : List Nat} {ps : List Value} {r : Nat → Nat} (hs : PtO w lo hi t v e ix ps r) (hc : Chg l2 h2 w w') (ho : hi ≤ l2 ∧ t ≤ l2) : PtO w' lo hi t v e ix ps r :=
  ⟨hs.own.chg hc (.inl ho.1), hs.mem, fun i hi => (hs.nest i hi).far hc ho.2⟩
theorem PtO.wide {w : World} {lo hi t lo' hi' : Nat} {v : Value} {e : TypeId} {ix : List Nat} {ps : List Value} {r : Nat → Nat} (hs : PtO w lo hi t v e ix ps r) (hl : lo' ≤ lo) (hh : hi ≤ hi') (ht : t ≤ lo') : PtO w lo' hi' t v e ix ps r :=
  ⟨hs.own.mono hl hh, hs.mem, fun i hi => by obtain ⟨A, B, h1, _, h3⟩ := hs.nest i hi; exact ⟨A, B, h1, .inl (by omega), h3⟩⟩
theorem PtO.sv {w : World} {lo hi t : Nat} {v : Value} {e : TypeId} {ix : List Nat} {ps : List Value} {r : Nat → Nat} (hs : PtO w lo hi t v e ix ps r) : Sv w lo hi v ix.length 2 (ptCells ix ps) := hs.own.sv
theorem PtO.ones {w : World} {lo hi t : Nat} {v : Value} {e : TypeId} {ix : List Nat} {ps : List Value} {r : Nat → Nat} (hs : PtO w lo hi t v e ix ps r) : ∀ u ∈ ptCells ix ps, u.oneCell' = true := one_pt fun u hu => by
  obtain ⟨i, hi, rfl⟩ := List.getElem_of_mem hu
  have := (hs.nest i hi).one
  rw [show ps.getD i vz = ps[i] by simp [List.getElem?_eq_getElem hi]] at this; exact this
theorem PtO.lt {w : World} {lo hi t : Nat} {v : Value} {e : TypeId} {ix : List Nat} {ps : List Value} {r : Nat → Nat} (hs : PtO w lo hi t v e ix ps r) {j : Nat} (h : j < ix.length) : ix.getD j 0 < ps.length := by
  apply hs.mem; rw [show ix.getD j 0 = ix[j] by simp [List.getElem?_eq_getElem h]]; exact List.getElem_mem h
theorem PtO.rest {w : World} {lo hi t : Nat} {v : Value} {e : TypeId} {ix : List Nat} {ps : List Value} {r : Nat → Nat} (hs : PtO w lo hi t v e ix ps r) {j : Nat} (h : j < ix.length) : Sl w 0 w.heap.size (ps.getD (ix.getD j 0) vz) (dg (r (ix.getD j 0))) := (hs.nest _ (hs.lt h)).fit
section
variable {P : Program} {n : Nat} {Q : Exit → Act → World → Prop} {fr fr' : Fr} {w : World} {ops : Array Oper} {rest : List Oper} {d : Nat} {ty : TypeId} {pos : String} {aft : Array Edge} {dst : Option Tmp} {g : Option (Nat × Bool)}
theorem sx_storePt {x y : Operand} {T e : TypeId} {lo hi t j a : Nat} {v : Value} {ix : List Nat} {ps : List Value} {r : Nat → Nat} (hx : ev fr x = some (.pointer (some ⟨vblk v, voff v + j * 2, none⟩))) (hy : ev fr y = some (.agg #[.int .i64 ((a : Nat) : Int), ps.getD a vz]))
    (hs : PtO w lo hi t v e ix ps r) (hj : j < ix.length) (ha : a < ps.length) (hS : ∀ w, (sizeOf T).run P w = .ok 2 w)
    (h : ∀ w', w'.heap.size = w.heap.size → PtO w' lo hi t v e (ix.set j a) ps r → Chg lo hi w w' → wl P n ops Q rest fr w') : wl P n ops Q (⟨none, .store T x y, ty, pos, aft, none⟩ :: rest) fr w := by
  have hlen := ptCells_len ix ps
  refine sx_storeOA (j := j * 2) (vs := [.int .i64 ((a : Nat) : Int), ps.getD a vz]) hx hy hs.own rfl (by simp) (by rw [hlen]; simp only [List.length_cons, List.length_nil]; omega) hS (fun u hu => ?_) (fun w' h1 h2 h3 => ?_)
  · simp only [List.mem_cons, List.not_mem_nil, or_false] at hu
    rcases hu with rfl | rfl
    · rfl
    · exact (hs.nest a ha).one
  · refine h w' h1 ⟨?_, fun i hi => ?_, fun i hi => (hs.nest i hi).chg h3⟩ h3
    · have := h2
      simp only [List.length_cons, List.length_nil] at this
      rw [ptCells_set hj] at this
      rw [List.length_set]; exact this
    · rcases List.mem_or_eq_of_mem_set hi with h4 | h4
      · exact hs.mem i h4
      · subst h4; exact ha
theorem run_neNilIn (k : Nat) {T e : TypeId} {a : Addr} {m cap : Nat} (hT : P.underlying T = some (.slice e)) : (Op.equalIn (k + 1) T (.slice (some a) m cap) (.slice none 0 0)).run P w = .ok false w := by
  simp [Op.equalIn, run_underlying hT]
theorem run_neNil {T e : TypeId} {a : Addr} {m cap : Nat} (hT : P.underlying T = some (.slice e)) : (Op.equal T (.slice (some a) m cap) (.slice none 0 0)).run P w = .ok false w := run_neNilIn 9999 hT
theorem px_neNil {x y : Operand} {T U e : TypeId} {v : Value} {m k lo hi : Nat} {xs : List Value} (hT : P.underlying T = some (.slice e)) (hx : ev fr x = some v) (hy : ev fr y = some (.slice none 0 0)) (hs : Sv w lo hi v m k xs) (h0 : 0 < m) : Px P n fr ⟨dst, .binOp .eql T x y U, ty, pos, aft, g⟩ (.bool false) w := by
  rcases hs.2 with ⟨rfl, _⟩ | ⟨b, off, cap, cs, T', fz, rfl, _, _, _, _⟩
  · omega
  · intro c ha
    simp [execOp, ha.ev hx, ha.ev hy, eqGuard, binOp, run_neNil hT]
theorem px_shrU1 {x y : Operand} {T U : TypeId} {a : Int} (hx : ev fr x = some (.int .u64 a)) (hy : ev fr y = some (.int .u64 1)) : Px P n fr ⟨dst, .binOp .shr T x y U, ty, pos, aft, g⟩ (.int .u64 (a / 2)) w := fun c ha => by
  have e : a.fdiv 2 = a / 2 := Int.fdiv_eq_ediv_of_nonneg a (by decide)
  simp [execOp, ha.ev hx, ha.ev hy, eqGuard, binOp, Op.shift, IntKind.bits, e]
end
end Go.Proofs.Ytjkeefmpjocilaa
