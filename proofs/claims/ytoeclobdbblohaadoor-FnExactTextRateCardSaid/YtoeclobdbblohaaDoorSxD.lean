/- Plain lemmas on numbers and lists; no program in sight. Conditions: none. -/
import Derived.Test.YtoeclobdbblohaaDoorSxC
set_option linter.unusedVariables false
set_option linter.unusedSimpArgs false
namespace Go.Proofs.YtoeclobdbblohaaDoor
open Go Go.RowKit
/-! ### slices of rates that are stored into; texts out of bytes -/
/-- rows of which each part lies apart: the row at l1, what hangs on element i in [r i, r (i + 1)) -/
def RtO (w : World) (lo hi : Nat) (v : Value) (e f : TypeId) (ts : List Rt) (vs : List Value) : Prop :=
  ∃ (l1 h1 : Nat) (r : Nat → Nat), vs.length = ts.length ∧ Own w l1 h1 v e ts.length 5 (rtCells ts vs) ∧ lo ≤ l1 ∧ h1 ≤ r 0 ∧ (∀ i, i < ts.length → r i ≤ r (i + 1)) ∧ r ts.length ≤ hi ∧ ∀ i, i < ts.length → OwnI w (r i) (r (i + 1)) (vs.getD i vz) f (ts.getD i rt0).2.2.2.1
theorem mono_le {r : Nat → Nat} {n : Nat} (h : ∀ i, i < n → r i ≤ r (i + 1)) : ∀ {i j}, i ≤ j → j ≤ n → r i ≤ r j := fun {i j} hij hj => by
  induction j with
  | zero => have : i = 0 := by omega
            subst this; exact Nat.le_refl _
  | succ j ih =>
    rcases Nat.lt_or_ge i (j + 1) with h1 | h1
    · exact Nat.le_trans (ih (by omega) (by omega)) (h j (by omega))
    · have : i = j + 1 := by omega
      subst this; exact Nat.le_refl _
theorem RtO.toS {w : World} {lo hi : Nat} {v : Value} {e f : TypeId} {ts : List Rt} {vs : List Value} (h : RtO w lo hi v e f ts vs) : RtS w lo hi v ts vs := by
  obtain ⟨l1, h1, r, hl, hO, a1, a2, a3, a4, hn⟩ := h
  have h0 := mono_le a3 (Nat.zero_le ts.length) (Nat.le_refl _)
  refine ⟨hl, hO.sv.mono a1 (by omega), fun i hi => ?_⟩
  have h2 := mono_le a3 (Nat.zero_le i) (by omega)
  have h3 := mono_le a3 (show i + 1 ≤ ts.length by omega) (Nat.le_refl _)
  by_cases hb : l1 ≤ h1
  · exact (hn i hi).sv.mono (by omega) (by omega)
  · have : ts.length = 0 := by
      rcases hO.2 with ⟨h5, _⟩ | ⟨b, cap, sp, _, h5, h6, _⟩
      · exact h5
      · omega
    omega
theorem RtO.chg {w w' : World} {lo hi l h : Nat} {v : Value} {e f : TypeId} {ts : List Rt} {vs : List Value} (hs : RtO w lo hi v e f ts vs) (hc : Chg l h w w') (ho : hi ≤ l ∨ h ≤ lo) : RtO w' lo hi v e f ts vs := by
  obtain ⟨l1, h1, r, hl, hO, a1, a2, a3, a4, hn⟩ := hs
  have h0 := mono_le a3 (Nat.zero_le ts.length) (Nat.le_refl _)
  by_cases hb : l1 ≤ h1
  · refine ⟨l1, h1, r, hl, hO.chg hc (by omega), a1, a2, a3, a4, fun i hi => (hn i hi).chg hc ?_⟩
    have h2 := mono_le a3 (Nat.zero_le i) (by omega)
    have h3 := mono_le a3 (show i + 1 ≤ ts.length by omega) (Nat.le_refl _)
    omega
  · have hz : ts.length = 0 := by
      rcases hO.2 with ⟨h5, _⟩ | ⟨b, cap, sp, _, h5, h6, _⟩
      · exact h5
      · omega
    refine ⟨l1, h1, r, hl, ⟨hO.1, ?_⟩, a1, a2, a3, a4, fun i hi => by omega⟩
    rcases hO.2 with h5 | ⟨b, cap, sp, _, h5, h6, _⟩
    · exact .inl h5
    · omega
theorem RtO.ext {w w' : World} {lo hi : Nat} {v : Value} {e f : TypeId} {ts : List Rt} {vs : List Value} (hs : RtO w lo hi v e f ts vs) (hc : Chg 0 0 w w') : RtO w' lo hi v e f ts vs := hs.chg hc (.inr (Nat.zero_le _))
theorem RtO.mono {w : World} {lo hi lo' hi' : Nat} {v : Value} {e f : TypeId} {ts : List Rt} {vs : List Value} (hs : RtO w lo hi v e f ts vs) (hl : lo' ≤ lo) (hh : hi ≤ hi') : RtO w lo' hi' v e f ts vs := by
  obtain ⟨l1, h1, r, hl1, hO, a1, a2, a3, a4, hn⟩ := hs
  exact ⟨l1, h1, r, hl1, hO, by omega, a2, a3, by omega, hn⟩
theorem rto_copied {w : World} {lo hi : Nat} {v : Value} {e f : TypeId} {ts : List Rt} {us xs : List Value} {r : Nat → Nat} (hO : Own w lo hi v e ts.length 5 xs) (hu : us.length = ts.length) (hx : xs.take (ts.length * 5) = rtCells (ts.take ts.length) us)
    (h1 : hi ≤ r 0) (hm : ∀ i, i < ts.length → r i ≤ r (i + 1)) (hr : r ts.length ≤ w.heap.size) (hn : ∀ i, i < ts.length → OwnI w (r i) (r (i + 1)) (us.getD i vz) f (ts.getD i rt0).2.2.2.1) {lo2 : Nat} (h2 : lo2 ≤ lo) : RtO w lo2 w.heap.size v e f ts us := by
  rw [List.take_length, List.take_of_length_le (by rw [hO.1]; exact Nat.le_refl _)] at hx
  subst hx
  exact ⟨lo, hi, r, hu, hO, h2, h1, hm, hr, hn⟩
/-- bounds with one more -/
def rset (r : Nat → Nat) (k x : Nat) : Nat → Nat := fun j => if j ≤ k then r j else x
theorem rset_at {r : Nat → Nat} {k x : Nat} : rset r k x (k + 1) = x := by unfold rset; rw [if_neg (by omega)]
theorem rset_le {r : Nat → Nat} {k x j : Nat} (h : j ≤ k) : rset r k x j = r j := by unfold rset; rw [if_pos h]
theorem rset_mono {r : Nat → Nat} {k x : Nat} (h : ∀ i, i < k → r i ≤ r (i + 1)) (hx : r k ≤ x) : ∀ i, i < k + 1 → rset r k x i ≤ rset r k x (i + 1) := fun i hi => by
  by_cases e : i = k
  · subst e; rw [rset_at, rset_le (Nat.le_refl _)]; exact hx
  · rw [rset_le (by omega), rset_le (by omega)]; exact h i (by omega)
theorem nesto_next {w w' : World} {lo hi x : Nat} {f : TypeId} {ts : List Rt} {us : List Value} {k : Nat} {v : Value} {r : Nat → Nat} (hu : us.length = k) (hm : ∀ i, i < k → r i ≤ r (i + 1)) (h : ∀ i, i < k → OwnI w (r i) (r (i + 1)) (us.getD i vz) f (ts.getD i rt0).2.2.2.1) (hc : Chg lo hi w w') (ho : hi ≤ r 0)
    (hv : OwnI w' (r k) x v f (ts.getD k rt0).2.2.2.1) : ∀ i, i < k + 1 → OwnI w' (rset r k x i) (rset r k x (i + 1)) ((us ++ [v]).getD i vz) f (ts.getD i rt0).2.2.2.1 := fun i hi => by
  by_cases e : i = k
  · subst e; rw [getD_append_at hu.symm, rset_at, rset_le (Nat.le_refl _)]; exact hv
  · rw [getD_append_left' (by omega), rset_le (by omega), rset_le (by omega)]
    have := mono_le hm (Nat.zero_le i) (by omega)
    exact (h i (by omega)).chg hc (.inr (by omega))
/-- what is left to be marked -/
theorem nest_rest {w w' : World} {l : Nat} {f : TypeId} {ts : List Rt} {vs : List Value} {k n : Nat} {r : Nat → Nat} (hm : ∀ i, i < n → r i ≤ r (i + 1)) (h : ∀ i, k ≤ i → i < n → OwnI w (r i) (r (i + 1)) (vs.getD i vz) f (ts.getD i rt0).2.2.2.1) (hc : Chg l (r (k + 1)) w w') :
    ∀ i, k + 1 ≤ i → i < n → OwnI w' (r i) (r (i + 1)) (vs.getD i vz) f (ts.getD i rt0).2.2.2.1 := fun i hi hn =>
  (h i (by omega) hn).chg hc (.inr (mono_le hm hi (by omega)))
theorem cells_rest {xs ys : List Value} {vs : List Value} {k n : Nat} (h : ∀ i, k ≤ i → i < n → xs[i * 5 + 3]? = some (vs.getD i vz)) (he : ∀ j, k * 5 + 5 ≤ j → ys[j]? = xs[j]?) : ∀ i, k + 1 ≤ i → i < n → ys[i * 5 + 3]? = some (vs.getD i vz) := fun i hi hn => by
  rw [he _ (by omega)]; exact h i (by omega) hn
theorem rt_mag {ts : List Rt} {vs : List Value} {n : Nat} (hl : vs.length = ts.length) (hn : n = ts.length) : ∀ i, 0 ≤ i → i < n → (rtCells ts vs)[i * 5 + 3]? = some (vs.getD i vz) := fun i _ hi => by
  rw [rtCells_at hl (by omega) (by decide)]; rfl
section
variable {P : Program} {n : Nat} {Q : Exit → Act → World → Prop} {fr fr' : Fr} {w : World} {ops : Array Oper} {rest : List Oper} {d : Nat} {ty : TypeId} {pos : String} {aft : Array Edge} {dst : Option Tmp} {g : Option (Nat × Bool)}
theorem px_convU8 {x : Operand} {S T : TypeId} {u : TypeDesc} {a : Int} (hS : P.underlying S = some u) (hT : P.underlying T = some (.int .u8)) (hx : ev fr x = some (.int .i64 a)) (hr : 0 ≤ a ∧ a ≤ 255) : Px P n fr ⟨dst, .convert S T x, ty, pos, aft, g⟩ (.int .u8 a) w :=
  fun c ha => by
    have e : IntKind.u8.wrap a = a := by
      have e : IntKind.u8.wrap a = a % 256 := by simp [IntKind.wrap, IntKind.bits, IntKind.signed]
      rw [e]; omega
    simp [execOp, ha.ev hx, convert, run_underlying hS, run_underlying hT, Conv.intToInt, e]
/-- a text out of one byte -/
def byteS (a : Int) : ByteArray := ByteArray.empty.push (UInt8.ofNat a.toNat)
theorem byteS_size (a : Int) : (byteS a).size = 1 := rfl
theorem px_convS1 {x : Operand} {S T e : TypeId} {lo hi : Nat} {v : Value} {a : Int} (hS : P.underlying S = some (.slice e)) (hT : P.underlying T = some .string) (he : P.underlying e = some (.int .u8)) (hx : ev fr x = some v) (hs : Sv w lo hi v 1 1 [.int .u8 a]) : Px P n fr ⟨dst, .convert S T x, ty, pos, aft, g⟩ (.string (byteS a)) w :=
  fun c ha => by
    have hc := hs.cell (j := 0) (u := .int .u8 a) rfl
    rcases hs.2 with ⟨h, _⟩ | ⟨b, off, cap, cs, T', fz, rfl, _, _, h3, h4⟩
    · cases h
    · simp only [vblk, voff, Nat.add_zero] at hc
      have hl : (loadCells ⟨b, off, none⟩ 1).run P w = .ok #[.int .u8 a] w := by
        have := run_loadCells_list (P := P) w ⟨b, off, none⟩ [.int .u8 a] (fun j v hj => by
          match j, hj with
          | 0, hj => simp at hj; subst hj; simpa [Addr.add] using hc
          | j + 1, hj => simp at hj)
        simpa using this
      simp [execOp, ha.ev hx, convert, run_underlying hS, run_underlying hT, run_underlying he, Conv.bytesToString, hl, byteS]
end
end Go.Proofs.YtoeclobdbblohaaDoor
namespace Go.Proofs.YtoeclobdbblohaaDoor
open Go Go.RowKit
theorem rt_lookD {xs : List Value} {o : Nat} {a b c d e : Value} (h : ∀ j u, [a, b, c, d, e][j]? = some u → xs[o + j]? = some u) : ∀ j u, [c, d, e][j]? = some u → xs[o + 2 + j]? = some u := fun j u hj => by
  have := h (2 + j) u (by
    match j, hj with
    | 0, hj => exact hj
    | 1, hj => exact hj
    | 2, hj => exact hj
    | j + 3, hj => simp at hj)
  rwa [← Nat.add_assoc] at this
end Go.Proofs.YtoeclobdbblohaaDoor
