/- Plain lemmas on numbers and lists; no program in sight. Conditions: none. -/
import Derived.Test.YtjkeefmpjocilaaSxQ
import Derived.Test.YtjkeefmpjocilaaNatSj
set_option linter.unusedVariables false
set_option linter.unusedSimpArgs false
namespace Go.Proofs.Ytjkeefmpjocilaa
open Go Go.RowKit
/-! ### rows of slices, and rows of a sign and a slice -/
theorem Own.some {w : World} {lo hi : Nat} {v : Value} {e : TypeId} {n k : Nat} {xs : List Value} (h : Own w lo hi v e n k xs) : ∃ ys, Own w lo hi v e n k ys ∧ ys.length = n * k := ⟨_, h, h.1⟩
/-- a slice of limbs apart from two intervals of blocks, below t -/
def Ns2 (w : World) (l1 h1 l2 h2 t : Nat) (v : Value) (zs : List Int) : Prop := ∃ A B, Sl w A B v zs ∧ (B ≤ l1 ∨ h1 ≤ A) ∧ (B ≤ l2 ∨ h2 ≤ A) ∧ B ≤ t
section
variable {w w' : World} {l1 h1 l2 h2 t : Nat} {v : Value} {zs : List Int}
theorem Ns2.ext (hs : Ns2 w l1 h1 l2 h2 t v zs) (hc : Chg 0 0 w w') : Ns2 w' l1 h1 l2 h2 t v zs := by
  obtain ⟨A, B, a, b⟩ := hs; exact ⟨A, B, a.ext hc, b⟩
theorem Ns2.chg1 (hs : Ns2 w l1 h1 l2 h2 t v zs) (hc : Chg l1 h1 w w') : Ns2 w' l1 h1 l2 h2 t v zs := by
  obtain ⟨A, B, a, b⟩ := hs; exact ⟨A, B, a.chg hc b.1, b⟩
theorem Ns2.chg2 (hs : Ns2 w l1 h1 l2 h2 t v zs) (hc : Chg l2 h2 w w') : Ns2 w' l1 h1 l2 h2 t v zs := by
  obtain ⟨A, B, a, b⟩ := hs; exact ⟨A, B, a.chg hc b.2.1, b⟩
theorem Ns2.far {l h : Nat} (hs : Ns2 w l1 h1 l2 h2 t v zs) (hc : Chg l h w w') (ho : t ≤ l) : Ns2 w' l1 h1 l2 h2 t v zs := by
  obtain ⟨A, B, a, b, c, d⟩ := hs; exact ⟨A, B, a.chg hc (.inl (by omega)), b, c, d⟩
theorem Ns2.re {l2' h2' t' : Nat} (hs : Ns2 w l1 h1 l2 h2 t v zs) (h : (l2' = l2 ∧ h2' = h2) ∨ t ≤ l2') (ht : t ≤ t') : Ns2 w l1 h1 l2' h2' t' v zs := by
  obtain ⟨A, B, a, b, c, d⟩ := hs
  refine ⟨A, B, a, b, ?_, by omega⟩
  rcases h with ⟨rfl, rfl⟩ | h
  · exact c
  · exact .inl (by omega)
theorem Ns2.of {A B : Nat} (hs : Sl w A B v zs) (a : B ≤ l1 ∨ h1 ≤ A) (b : B ≤ l2 ∨ h2 ≤ A) (c : B ≤ t) : Ns2 w l1 h1 l2 h2 t v zs := ⟨A, B, hs, a, b, c⟩
theorem Ns2.to1 (hs : Ns2 w l1 h1 l2 h2 t v zs) : Nst w l1 h1 t v zs := by obtain ⟨A, B, a, b, _, d⟩ := hs; exact ⟨A, B, a, b, d⟩
theorem Ns2.to2 (hs : Ns2 w l1 h1 l2 h2 t v zs) : Nst w l2 h2 t v zs := by obtain ⟨A, B, a, _, c, d⟩ := hs; exact ⟨A, B, a, c, d⟩
end
theorem all_set {P : Nat → Value → Prop} {ms : List Value} {k : Nat} {q : Value} (h : ∀ i, i < k → P i (ms.getD i vz)) (hk : P k q) (hl : k < ms.length) : ∀ i, i < k + 1 → P i ((ms.set k q).getD i vz) := fun i hi => by
  by_cases e : i = k
  · subst e; rw [show (ms.set i q).getD i vz = q by simp [hl]]; exact hk
  · rw [show (ms.set k q).getD i vz = ms.getD i vz by simp [List.getElem?_set_ne (Ne.symm e)]]; exact h i (by omega)
theorem all_snoc {P : Nat → Value → Prop} {ps : List Value} {k : Nat} {q : Value} (h : ∀ i, i < k → P i (ps.getD i vz)) (hk : P k q) (hl : ps.length = k) : ∀ i, i < k + 1 → P i ((ps ++ [q]).getD i vz) := fun i hi => by
  by_cases e : i = k
  · subst e; rw [show (ps ++ [q]).getD i vz = q by simp [← hl]]; exact hk
  · rw [show (ps ++ [q]).getD i vz = ps.getD i vz by simp [List.getElem?_append_left (show i < ps.length by omega)]]; exact h i (by omega)
theorem all_put {P P' : Nat → Value → Prop} {ms : List Value} {n a : Nat} {q : Value} (h : ∀ i, i < n → P i (ms.getD i vz)) (ha : P' a q) (hx : ∀ i v, i < n → i ≠ a → P i v → P' i v) (hl : a < ms.length) : ∀ i, i < n → P' i ((ms.set a q).getD i vz) := fun i hi => by
  by_cases e : i = a
  · subst e; rw [show (ms.set i q).getD i vz = q by simp [hl]]; exact ha
  · rw [show (ms.set a q).getD i vz = ms.getD i vz by simp [List.getElem?_set_ne (Ne.symm e)]]; exact hx i _ hi e (h i hi)
theorem vs_at {ms : List Value} {i : Nat} (h : i < ms.length) : ms[i]? = some (ms.getD i vz) := by simp [List.getElem?_eq_getElem h]
theorem pt_lookT {ix : List Nat} {ps : List Value} {j m : Nat} (hm : j < m) (h : j < ix.length) : ∀ q u, ([.int .i64 ((ix.getD j 0 : Nat) : Int), ps.getD (ix.getD j 0) vz] : List Value)[q]? = some u → ((ptCells ix ps).take (m * 2))[j * 2 + q]? = some u := fun q u hu => by
  have hq : q < 2 := by
    rcases Nat.lt_or_ge q 2 with h | h
    · exact h
    · rw [List.getElem?_eq_none (by simpa using h)] at hu; cases hu
  rw [List.getElem?_take_of_lt (by omega)]
  exact pt_look h q u hu
/-- cells of n rows of a sign and a slice -/
def sgc (f : Nat → Int) (vs : List Value) (n : Nat) : List Value := (List.range n).flatMap fun (i : Nat) => [Value.bool (ng (f i)), vs.getD i vz]
theorem sgc_succ {f : Nat → Int} {vs : List Value} {n : Nat} : sgc f vs (n + 1) = sgc f vs n ++ [Value.bool (ng (f n)), vs.getD n vz] := by
  unfold sgc; rw [List.range_succ, List.flatMap_append]; simp
theorem sgc_len {f : Nat → Int} {vs : List Value} : ∀ n, (sgc f vs n).length = n * 2
  | 0 => rfl
  | n + 1 => by rw [sgc_succ, List.length_append, sgc_len n]; simp only [List.length_cons, List.length_nil]; omega
theorem sgc_at {f : Nat → Int} {vs : List Value} {i q : Nat} (hq : q < 2) : ∀ n, i < n → (sgc f vs n)[i * 2 + q]? = ([Value.bool (ng (f i)), vs.getD i vz] : List Value)[q]?
  | 0, h => by omega
  | n + 1, h => by
    rw [sgc_succ]
    by_cases e : i = n
    · subst e; rw [List.getElem?_append_right (by rw [sgc_len]; omega), sgc_len]; congr 1; omega
    · rw [List.getElem?_append_left (by rw [sgc_len]; omega)]; exact sgc_at hq n (by omega)
theorem sgc_congr {f g : Nat → Int} {vs : List Value} : ∀ n, (∀ i, i < n → f i = g i) → sgc f vs n = sgc g vs n
  | 0, _ => rfl
  | n + 1, h => by rw [sgc_succ, sgc_succ, sgc_congr n (fun i hi => h i (by omega)), h n (by omega)]
def sgCells (xs : List Int) (vs : List Value) : List Value := sgc (fun i => xs.getD i 0) vs xs.length
theorem sg_look {xs : List Int} {vs : List Value} {i : Nat} (h : i < xs.length) : ∀ q u, ([Value.bool (ng (xs.getD i 0)), vs.getD i vz] : List Value)[q]? = some u → (sgCells xs vs)[i * 2 + q]? = some u := fun q u hu => by
  have hq : q < 2 := by
    rcases Nat.lt_or_ge q 2 with h | h
    · exact h
    · rw [List.getElem?_eq_none (by simpa using h)] at hu; cases hu
  unfold sgCells; rw [sgc_at (f := fun i => xs.getD i 0) hq _ h]; exact hu
structure SgS (w : World) (lo hi : Nat) (v : Value) (xs : List Int) (vs : List Value) : Prop where
  len : vs.length = xs.length
  sv : Sv w lo hi v xs.length 2 (sgCells xs vs)
  nest : ∀ i, i < xs.length → Sl w lo hi (vs.getD i vz) (dg (xs.getD i 0).natAbs)
theorem SgS.chg {w w' : World} {lo hi l h : Nat} {v : Value} {xs : List Int} {vs : List Value} (hs : SgS w lo hi v xs vs) (hc : Chg l h w w') (ho : hi ≤ l ∨ h ≤ lo) : SgS w' lo hi v xs vs := ⟨hs.len, hs.sv.chg hc ho, fun i hi => (hs.nest i hi).chg hc ho⟩
theorem SgS.ext {w w' : World} {lo hi : Nat} {v : Value} {xs : List Int} {vs : List Value} (hs : SgS w lo hi v xs vs) (hc : Chg 0 0 w w') : SgS w' lo hi v xs vs := hs.chg hc (.inr (Nat.zero_le _))
theorem SgS.one {w : World} {lo hi : Nat} {v : Value} {xs : List Int} {vs : List Value} (hs : SgS w lo hi v xs vs) : v.oneCell' = true := hs.sv.one
theorem SgS.mono {w : World} {lo hi lo' hi' : Nat} {v : Value} {xs : List Int} {vs : List Value} (hs : SgS w lo hi v xs vs) (hl : lo' ≤ lo) (hh : hi ≤ hi') : SgS w lo' hi' v xs vs := ⟨hs.len, hs.sv.mono hl hh, fun i h => (hs.nest i h).mono hl hh⟩
theorem pt_more {ps : List Value} {k : Nat} {v : Value} (hl : ps.length = k) : ptCells (List.range (k + 1)) (ps ++ [v]) = ptCells (List.range k) ps ++ [.int .i64 ((k : Nat) : Int), v] := by
  rw [List.range_succ, ptCells_snoc, ptCells_app (fun i hi => by have := List.mem_range.1 hi; omega)]
  congr 2
  subst hl; simp
theorem perm_lt {ix : List Nat} {n k : Nat} (hP : ix.Perm (List.range n)) (h : k < ix.length) : ix.getD k 0 < n := by
  have : ix.getD k 0 ∈ ix := by rw [gD h]; exact List.getElem_mem h
  exact List.mem_range.1 (hP.mem_iff.1 this)
theorem sgs_of {w : World} {lo hi n : Nat} {v : Value} {e : TypeId} {x : Int} {ws : List Int} {ms : List Value} (hO : Own w lo hi v e n 2 (sgc (shr x ws) ms n)) (hn : n = ws.length) (hl : ms.length = ws.length) (hq : ∀ i, i < ws.length → Sl w 0 w.heap.size (ms.getD i vz) (dg (mg x.natAbs ws i))) : SgS w 0 w.heap.size v (shrs x ws) ms := by
  subst hn
  have e : sgCells (shrs x ws) ms = sgc (shr x ws) ms ws.length := by
    unfold sgCells; rw [shrs_len]; exact sgc_congr _ fun i hi => shrs_get hi
  refine ⟨by rw [shrs_len]; exact hl, ?_, fun i hi => ?_⟩
  · rw [e, shrs_len]; exact (hO.sv.mono (Nat.zero_le _) (Nat.le_refl _)).fit
  · rw [shrs_len] at hi; rw [shrs_get hi, shr_abs]; exact hq i hi
section
variable {P : Program} {n : Nat} {fr : Fr} {w : World} {ty : TypeId} {pos : String} {aft : Array Edge} {dst : Option Tmp} {g : Option (Nat × Bool)}
theorem px_index1w {w2 : World} {x y : Operand} {T e : TypeId} {lo hi m : Nat} {i : Int} {j : Nat} {xs : List Value} {v : Value} (hx : ev fr x = some v) (hy : ev fr y = some (.int .i64 i)) (hj : i = (j : Int)) (hT : P.underlying T = some (.slice e)) (hS : ∀ w, (sizeOf e).run P w = .ok 1 w)
    (hs : Sv w2 lo hi v m 1 xs) (h1 : j < m) : Px P n fr ⟨dst, .indexAddr T x y, ty, pos, aft, g⟩ (.pointer (some ⟨vblk v, voff v + j, none⟩)) w := by
  have := px_indexKw (P := P) (n := n) (fr := fr) (w := w) (ty := ty) (pos := pos) (aft := aft) (dst := dst) (g := g) hx hy hj hT hS hs h1
  rwa [Nat.mul_one] at this
end
end Go.Proofs.Ytjkeefmpjocilaa
