/- Plain lemmas on numbers and lists; no program in sight. Conditions: none. -/
import Derived.Test.YtjkeefmpjocilaaDoorSxB
set_option linter.unusedVariables false
set_option linter.unusedSimpArgs false
namespace Go.Proofs.YtjkeefmpjocilaaDoor
open Go Go.RowKit
/-! ### slices of money -/
abbrev Mt := ByteArray × Bool × List Int
abbrev mt0 : Mt := (⟨#[]⟩, false, [])
abbrev MB (r : Mt) : Prop := r.1.size ≤ 9223372036854775807 ∧ r.2.2.length ≤ 9223372036854775807
abbrev mtc (r : Mt) (v : Value) : List Value := [.string r.1, .bool r.2.1, v]
def mtCells : List Mt → List Value → List Value
  | r :: ts, v :: vs => mtc r v ++ mtCells ts vs
  | _, _ => []
theorem mtCells_len : ∀ {ts : List Mt} {vs : List Value}, vs.length = ts.length → (mtCells ts vs).length = ts.length * 3
  | [], [], _ => rfl
  | r :: ts, v :: vs, h => by
    have := mtCells_len (ts := ts) (vs := vs) (by simpa using h)
    simp only [mtCells, List.length_append, List.length_cons, List.length_nil, this]; omega
theorem mtCells_at : ∀ {ts : List Mt} {vs : List Value} {i q : Nat}, vs.length = ts.length → i < ts.length → q < 3 → (mtCells ts vs)[i * 3 + q]? = (mtc (ts.getD i mt0) (vs.getD i vz))[q]?
  | [], _, _, _, _, h, _ => by simp at h
  | r :: ts, [], _, _, h, _, _ => by simp at h
  | r :: ts, v :: vs, 0, q, _, _, hq => by
    simp only [mtCells, Nat.zero_mul, Nat.zero_add, List.getD_cons_zero]
    exact List.getElem?_append_left (by simpa using hq)
  | r :: ts, v :: vs, i + 1, q, hl, hi, hq => by
    have h := mtCells_at (ts := ts) (vs := vs) (i := i) (q := q) (by simpa using hl) (by simpa using hi) hq
    simp only [mtCells, List.getD_cons_succ]
    rw [List.getElem?_append_right (by simp only [List.length_cons, List.length_nil]; omega), ← h]
    congr 1
    simp only [List.length_cons, List.length_nil]; omega
theorem mt_look {ts : List Mt} {vs : List Value} {i : Nat} (hl : vs.length = ts.length) (hi : i < ts.length) : ∀ j u, (mtc (ts.getD i mt0) (vs.getD i vz))[j]? = some u → (mtCells ts vs)[i * 3 + j]? = some u := fun j u hj => by
  have : j < 3 := by
    rcases Nat.lt_or_ge j 3 with h | h
    · exact h
    · rw [List.getElem?_eq_none (by simpa using h)] at hj; cases hj
  rw [mtCells_at hl hi this]; exact hj
theorem mt_look1 {ts : List Mt} {vs : List Value} {i q : Nat} {u : Value} (hl : vs.length = ts.length) (hi : i < ts.length) (hq : (mtc (ts.getD i mt0) (vs.getD i vz))[q]? = some u) : (mtCells ts vs)[i * 3 + q]? = some u := mt_look hl hi q u hq
structure MtS (w : World) (lo hi : Nat) (v : Value) (ts : List Mt) (vs : List Value) : Prop where
  len : vs.length = ts.length
  sv : Sv w lo hi v ts.length 3 (mtCells ts vs)
  nest : ∀ i, i < ts.length → Sl w lo hi (vs.getD i vz) (ts.getD i mt0).2.2
theorem MtS.chg {w w' : World} {lo hi l h : Nat} {v : Value} {ts : List Mt} {vs : List Value} (hs : MtS w lo hi v ts vs) (hc : Chg l h w w') (ho : hi ≤ l ∨ h ≤ lo) : MtS w' lo hi v ts vs := ⟨hs.len, hs.sv.chg hc ho, fun i hi => (hs.nest i hi).chg hc ho⟩
theorem MtS.ext {w w' : World} {lo hi : Nat} {v : Value} {ts : List Mt} {vs : List Value} (hs : MtS w lo hi v ts vs) (hc : Chg 0 0 w w') : MtS w' lo hi v ts vs := hs.chg hc (.inr (Nat.zero_le _))
theorem MtS.mono {w : World} {lo hi lo' hi' : Nat} {v : Value} {ts : List Mt} {vs : List Value} (hs : MtS w lo hi v ts vs) (hl : lo' ≤ lo) (hh : hi ≤ hi') : MtS w lo' hi' v ts vs := ⟨hs.len, hs.sv.mono hl hh, fun i h => (hs.nest i h).mono hl hh⟩
theorem MtS.fit {w : World} {lo hi : Nat} {v : Value} {ts : List Mt} {vs : List Value} (hs : MtS w lo hi v ts vs) : MtS w lo w.heap.size v ts vs := ⟨hs.len, hs.sv.fit, fun i h => (hs.nest i h).fit⟩
theorem MtS.one {w : World} {lo hi : Nat} {v : Value} {ts : List Mt} {vs : List Value} (hs : MtS w lo hi v ts vs) : v.oneCell' = true := hs.sv.one
theorem MtS.nil (w : World) (lo hi : Nat) : MtS w lo hi (.slice none 0 0) [] [] := ⟨rfl, Sv.nil _ _ _ _, fun _ h => by simp at h⟩
theorem mtCells_snoc : ∀ {ts : List Mt} {vs : List Value} {r : Mt} {v : Value}, vs.length = ts.length → mtCells (ts ++ [r]) (vs ++ [v]) = mtCells ts vs ++ mtc r v
  | [], [], _, _, _ => by simp [mtCells]
  | a :: ts, b :: vs, r, v, h => by
    simp only [List.cons_append, mtCells, mtCells_snoc (ts := ts) (vs := vs) (r := r) (v := v) (by simpa using h), List.append_assoc]
  | [], _ :: _, _, _, h => by simp at h
  | _ :: _, [], _, _, h => by simp at h
theorem mt_take_snoc {ts : List Mt} {k : Nat} (h : k < ts.length) : ts.take (k + 1) = ts.take k ++ [ts.getD k mt0] := by
  rw [List.take_succ_eq_append_getElem h]; simp [List.getElem?_eq_getElem h]
theorem mt_take_succ_eq {ts us : List Mt} {k : Nat} (h : ts.take k = us.take k) (h1 : k < ts.length) (h2 : k < us.length) (e : ts.getD k mt0 = us.getD k mt0) : ts.take (k + 1) = us.take (k + 1) := by
  rw [mt_take_snoc h1, mt_take_snoc h2, h, e]
def MtO (w : World) (lo hi : Nat) (v : Value) (e f : TypeId) (ts : List Mt) (vs : List Value) : Prop :=
  ∃ (l1 h1 : Nat) (r : Nat → Nat), vs.length = ts.length ∧ Own w l1 h1 v e ts.length 3 (mtCells ts vs) ∧ lo ≤ l1 ∧ h1 ≤ r 0 ∧ (∀ i, i < ts.length → r i ≤ r (i + 1)) ∧ r ts.length ≤ hi ∧ ∀ i, i < ts.length → OwnI w (r i) (r (i + 1)) (vs.getD i vz) f (ts.getD i mt0).2.2
theorem MtO.toS {w : World} {lo hi : Nat} {v : Value} {e f : TypeId} {ts : List Mt} {vs : List Value} (h : MtO w lo hi v e f ts vs) : MtS w lo hi v ts vs := by
  obtain ⟨l1, h1, r, hl, hO, a1, a2, a3, a4, hn⟩ := h
  have h0 := mono_le a3 (Nat.zero_le ts.length) (Nat.le_refl _)
  refine ⟨hl, hO.sv.mono a1 (by omega), fun i hi => ?_⟩
  have h2 := mono_le a3 (Nat.zero_le i) (by omega)
  have h3 := mono_le a3 (show i + 1 ≤ ts.length by omega) (Nat.le_refl _)
  by_cases hb : l1 ≤ h1
  · exact (hn i hi).sv.mono (by omega) (by omega)
  · have : ts.length = 0 := by
      rcases hO.2 with ⟨h5, _⟩ | ⟨b, cap, sp, _, h5, h6, _⟩
      · exact h5
      · omega
    omega
theorem MtO.chg {w w' : World} {lo hi l h : Nat} {v : Value} {e f : TypeId} {ts : List Mt} {vs : List Value} (hs : MtO w lo hi v e f ts vs) (hc : Chg l h w w') (ho : hi ≤ l ∨ h ≤ lo) : MtO w' lo hi v e f ts vs := by
  obtain ⟨l1, h1, r, hl, hO, a1, a2, a3, a4, hn⟩ := hs
  have h0 := mono_le a3 (Nat.zero_le ts.length) (Nat.le_refl _)
  by_cases hb : l1 ≤ h1
  · refine ⟨l1, h1, r, hl, hO.chg hc (by omega), a1, a2, a3, a4, fun i hi => (hn i hi).chg hc ?_⟩
    have h2 := mono_le a3 (Nat.zero_le i) (by omega)
    have h3 := mono_le a3 (show i + 1 ≤ ts.length by omega) (Nat.le_refl _)
    omega
  · have hz : ts.length = 0 := by
      rcases hO.2 with ⟨h5, _⟩ | ⟨b, cap, sp, _, h5, h6, _⟩
      · exact h5
      · omega
    refine ⟨l1, h1, r, hl, ⟨hO.1, ?_⟩, a1, a2, a3, a4, fun i hi => by omega⟩
    rcases hO.2 with h5 | ⟨b, cap, sp, _, h5, h6, _⟩
    · exact .inl h5
    · omega
theorem MtO.ext {w w' : World} {lo hi : Nat} {v : Value} {e f : TypeId} {ts : List Mt} {vs : List Value} (hs : MtO w lo hi v e f ts vs) (hc : Chg 0 0 w w') : MtO w' lo hi v e f ts vs := hs.chg hc (.inr (Nat.zero_le _))
theorem MtO.mono {w : World} {lo hi lo' hi' : Nat} {v : Value} {e f : TypeId} {ts : List Mt} {vs : List Value} (hs : MtO w lo hi v e f ts vs) (hl : lo' ≤ lo) (hh : hi ≤ hi') : MtO w lo' hi' v e f ts vs := by
  obtain ⟨l1, h1, r, hl1, hO, a1, a2, a3, a4, hn⟩ := hs
  exact ⟨l1, h1, r, hl1, hO, by omega, a2, a3, by omega, hn⟩
theorem mto_copied {w : World} {lo hi : Nat} {v : Value} {e f : TypeId} {ts : List Mt} {us xs : List Value} {r : Nat → Nat} (hO : Own w lo hi v e ts.length 3 xs) (hu : us.length = ts.length) (hx : xs.take (ts.length * 3) = mtCells (ts.take ts.length) us)
    (h1 : hi ≤ r 0) (hm : ∀ i, i < ts.length → r i ≤ r (i + 1)) (hr : r ts.length ≤ w.heap.size) (hn : ∀ i, i < ts.length → OwnI w (r i) (r (i + 1)) (us.getD i vz) f (ts.getD i mt0).2.2) {lo2 : Nat} (h2 : lo2 ≤ lo) : MtO w lo2 w.heap.size v e f ts us := by
  rw [List.take_length, List.take_of_length_le (by rw [hO.1]; exact Nat.le_refl _)] at hx
  subst hx
  exact ⟨lo, hi, r, hu, hO, h2, h1, hm, hr, hn⟩
theorem mto_next {w w' : World} {lo hi x : Nat} {f : TypeId} {ts : List Mt} {us : List Value} {k : Nat} {v : Value} {r : Nat → Nat} (hu : us.length = k) (hm : ∀ i, i < k → r i ≤ r (i + 1)) (h : ∀ i, i < k → OwnI w (r i) (r (i + 1)) (us.getD i vz) f (ts.getD i mt0).2.2) (hc : Chg lo hi w w') (ho : hi ≤ r 0)
    (hv : OwnI w' (r k) x v f (ts.getD k mt0).2.2) : ∀ i, i < k + 1 → OwnI w' (rset r k x i) (rset r k x (i + 1)) ((us ++ [v]).getD i vz) f (ts.getD i mt0).2.2 := fun i hi => by
  by_cases e : i = k
  · subst e; rw [getD_append_at hu.symm, rset_at, rset_le (Nat.le_refl _)]; exact hv
  · rw [getD_append_left' (by omega), rset_le (by omega), rset_le (by omega)]
    have := mono_le hm (Nat.zero_le i) (by omega)
    exact (h i (by omega)).chg hc (.inr (by omega))
theorem mt_nest_rest {w w' : World} {l : Nat} {f : TypeId} {ts : List Mt} {vs : List Value} {k n : Nat} {r : Nat → Nat} (hm : ∀ i, i < n → r i ≤ r (i + 1)) (h : ∀ i, k ≤ i → i < n → OwnI w (r i) (r (i + 1)) (vs.getD i vz) f (ts.getD i mt0).2.2) (hc : Chg l (r (k + 1)) w w') :
    ∀ i, k + 1 ≤ i → i < n → OwnI w' (r i) (r (i + 1)) (vs.getD i vz) f (ts.getD i mt0).2.2 := fun i hi hn =>
  (h i (by omega) hn).chg hc (.inr (mono_le hm hi (by omega)))
theorem mt_cells_rest {xs ys : List Value} {vs : List Value} {k n : Nat} (h : ∀ i, k ≤ i → i < n → xs[i * 3 + 2]? = some (vs.getD i vz)) (he : ∀ j, k * 3 + 3 ≤ j → ys[j]? = xs[j]?) : ∀ i, k + 1 ≤ i → i < n → ys[i * 3 + 2]? = some (vs.getD i vz) := fun i hi hn => by
  rw [he _ (by omega)]; exact h i (by omega) hn
theorem mt_mag {ts : List Mt} {vs : List Value} {n : Nat} (hl : vs.length = ts.length) (hn : n = ts.length) : ∀ i, 0 ≤ i → i < n → (mtCells ts vs)[i * 3 + 2]? = some (vs.getD i vz) := fun i _ hi => by
  rw [mtCells_at hl (by omega) (by decide)]; rfl
theorem mt_put {xs cs : List Value} {ts : List Mt} {us : List Value} {k : Nat} {v : Value} (hk : k < ts.length) (hu : us.length = k) (hl : k * 3 + 3 ≤ xs.length) (hx : xs.take (k * 3) = mtCells (ts.take k) us) (hc : cs = mtc (ts.getD k mt0) v) :
    (xs.take (k * 3) ++ cs ++ xs.drop (k * 3 + 3)).take ((k + 1) * 3) = mtCells (ts.take (k + 1)) (us ++ [v]) := by
  subst hc
  have e : (xs.take (k * 3) ++ mtc (ts.getD k mt0) v).length = (k + 1) * 3 := by rw [List.length_append, List.length_take]; simp only [List.length_cons, List.length_nil]; omega
  rw [List.take_append_of_le_length (by omega), List.take_of_length_le (by omega), hx, mt_take_snoc hk, mtCells_snoc (by rw [hu, List.length_take]; omega)]
theorem len_ne_mt {ts us : List Mt} (h : ts.length ≠ us.length) : ts ≠ us := fun e => h (by rw [e])
theorem mt_sz_next {ts : List Mt} {k : Nat} (h : ∀ i, i < k → (ts.getD i mt0).2.2.length ≤ 1048576) (hk : (ts.getD k mt0).2.2.length ≤ 1048576) : ∀ i, i < k + 1 → (ts.getD i mt0).2.2.length ≤ 1048576 := fun i hi => by
  by_cases e : i = k
  · subst e; exact hk
  · exact h i (by omega)
theorem mt_eq {r s : Mt} (h : r.1 = s.1 ∧ r.2.1 = s.2.1 ∧ r.2.2 = s.2.2) : r = s := Prod.ext h.1 (Prod.ext h.2.1 h.2.2)
theorem mt_ne {ts us : List Mt} {k : Nat} (h : ¬ ((ts.getD k mt0).1 = (us.getD k mt0).1 ∧ (ts.getD k mt0).2.1 = (us.getD k mt0).2.1 ∧ (ts.getD k mt0).2.2 = (us.getD k mt0).2.2)) : ts ≠ us := fun e => h (by subst e; exact ⟨rfl, rfl, rfl⟩)
theorem mt_lookD {xs : List Value} {o : Nat} {a b c : Value} (h : ∀ j u, [a, b, c][j]? = some u → xs[o + j]? = some u) : ∀ j u, [b, c][j]? = some u → xs[o + 1 + j]? = some u := fun j u hj => by
  have := h (1 + j) u (by
    match j, hj with
    | 0, hj => exact hj
    | 1, hj => exact hj
    | j + 2, hj => simp at hj)
  rwa [← Nat.add_assoc] at this
end Go.Proofs.YtjkeefmpjocilaaDoor
