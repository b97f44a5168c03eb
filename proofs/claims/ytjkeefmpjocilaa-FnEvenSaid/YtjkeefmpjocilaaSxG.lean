/- Plain lemmas on numbers and lists; no program in sight. Conditions: none. -/
import Derived.Test.YtjkeefmpjocilaaSxB
set_option linter.unusedVariables false
set_option linter.unusedSimpArgs false
namespace Go.Proofs.Ytjkeefmpjocilaa
open Go Go.RowKit
/-! ### rows of rates that grow and are stored into: each part lies apart from each other, in any order -/
/-- .. none of them at block x -/
def RtX (w : World) (lo hi x : Nat) (v : Value) (e f : TypeId) (ts : List Rt) (vs : List Value) : Prop :=
  ∃ (l h : Nat) (A B : Nat → Nat), vs.length = ts.length ∧ Own w l h v e ts.length 5 (rtCells ts vs) ∧ (lo ≤ l ∧ l ≤ h ∧ h ≤ hi ∧ (h ≤ x ∨ x < l)) ∧
    (∀ i, i < ts.length → (lo ≤ A i ∧ A i ≤ B i ∧ B i ≤ hi ∧ (B i ≤ l ∨ h ≤ A i) ∧ (B i ≤ x ∨ x < A i)) ∧ OwnI w (A i) (B i) (vs.getD i vz) f (ts.getD i rt0).2.2.2.1) ∧ ∀ i j, i < j → j < ts.length → B i ≤ A j ∨ B j ≤ A i
abbrev RtG (w : World) (lo hi : Nat) (v : Value) (e f : TypeId) (ts : List Rt) (vs : List Value) : Prop := RtX w lo hi hi v e f ts vs
theorem RtX.toS {w : World} {lo hi x : Nat} {v : Value} {e f : TypeId} {ts : List Rt} {vs : List Value} (hs : RtX w lo hi x v e f ts vs) : RtS w lo hi v ts vs := by
  obtain ⟨l, h, A, B, hl, hO, a1, hn, _⟩ := hs
  refine ⟨hl, hO.sv.mono (by omega) (by omega), fun i hi => ?_⟩
  have h2 := hn i hi
  exact h2.2.sv.mono (by omega) (by omega)
theorem RtX.chg {w w' : World} {lo hi x l h : Nat} {v : Value} {e f : TypeId} {ts : List Rt} {vs : List Value} (hs : RtX w lo hi x v e f ts vs) (hc : Chg l h w w') (ho : hi ≤ l ∨ h ≤ lo) : RtX w' lo hi x v e f ts vs := by
  obtain ⟨l1, h1, A, B, hl, hO, a1, hn, hp⟩ := hs
  refine ⟨l1, h1, A, B, hl, hO.chg hc (by omega), a1, fun i hi => ?_, hp⟩
  have h2 := hn i hi
  exact ⟨h2.1, h2.2.chg hc (by omega)⟩
theorem RtX.chgX {w w' : World} {lo hi x : Nat} {v : Value} {e f : TypeId} {ts : List Rt} {vs : List Value} (hs : RtX w lo hi x v e f ts vs) (hc : Chg x (x + 1) w w') : RtX w' lo hi x v e f ts vs := by
  obtain ⟨l1, h1, A, B, hl, hO, a1, hn, hp⟩ := hs
  refine ⟨l1, h1, A, B, hl, hO.chg hc (by omega), a1, fun i hi => ?_, hp⟩
  have h2 := hn i hi
  exact ⟨h2.1, h2.2.chg hc (by omega)⟩
theorem RtX.ext {w w' : World} {lo hi x : Nat} {v : Value} {e f : TypeId} {ts : List Rt} {vs : List Value} (hs : RtX w lo hi x v e f ts vs) (hc : Chg 0 0 w w') : RtX w' lo hi x v e f ts vs := hs.chg hc (.inr (Nat.zero_le _))
theorem RtX.mono {w : World} {lo hi x lo' hi' : Nat} {v : Value} {e f : TypeId} {ts : List Rt} {vs : List Value} (hs : RtX w lo hi x v e f ts vs) (hl : lo' ≤ lo) (hh : hi ≤ hi') : RtG w lo' hi' v e f ts vs := by
  obtain ⟨l1, h1, A, B, hl1, hO, a1, hn, hp⟩ := hs
  exact ⟨l1, h1, A, B, hl1, hO, by omega, fun i hi => ⟨by have := (hn i hi).1; omega, (hn i hi).2⟩, hp⟩
theorem RtX.one {w : World} {lo hi x : Nat} {v : Value} {e f : TypeId} {ts : List Rt} {vs : List Value} (hs : RtX w lo hi x v e f ts vs) : v.oneCell' = true := hs.toS.one
theorem RtG.nil (w : World) (lo hi : Nat) (e f : TypeId) (h : lo ≤ hi) : RtG w lo hi (.slice none 0 0) e f [] [] :=
  ⟨lo, lo, fun _ => 0, fun _ => 0, rfl, ⟨rfl, .inl ⟨rfl, rfl⟩⟩, by omega, fun _ h => by simp at h, fun _ _ _ h => by simp at h⟩
theorem rtCells_set : ∀ {ts : List Rt} {vs : List Value} {r : Rt} {q : Value} {k : Nat}, vs.length = ts.length → k < ts.length → (rtCells ts vs).take (k * 5) ++ rtc r q ++ (rtCells ts vs).drop (k * 5 + 5) = rtCells (ts.set k r) (vs.set k q)
  | [], _, _, _, _, _, h => by simp at h
  | t :: ts, [], _, _, _, h, _ => by simp at h
  | t :: ts, v :: vs, r, q, 0, h, _ => by simp [rtCells, rtc]
  | t :: ts, v :: vs, r, q, k + 1, h, hk => by
    have ih := rtCells_set (ts := ts) (vs := vs) (r := r) (q := q) (k := k) (by simpa using h) (by simpa using hk)
    simp only [rtCells, List.set_cons_succ]
    rw [← ih]
    have e1 : (k + 1) * 5 = (rtc t v).length + k * 5 := by simp only [List.length_cons, List.length_nil]; omega
    have e2 : (k + 1) * 5 + 5 = (rtc t v).length + (k * 5 + 5) := by simp only [List.length_cons, List.length_nil]; omega
    rw [e2, List.drop_length_add_append, e1, List.take_length_add_append]
    simp only [List.append_assoc]
section
variable {P : Program} {n : Nat} {Q : Exit → Act → World → Prop} {fr fr' : Fr} {w : World} {ops : Array Oper} {rest : List Oper} {d : Nat} {ty : TypeId} {pos : String} {aft : Array Edge} {dst : Option Tmp} {g : Option (Nat × Bool)}
/-- an operation whose guard was itself left out -/
theorem dx_skipU {S : World → Prop} {fuel : Nat} {listed : Array Bool} (i : Nat) {o : Oper} {gi t : Nat} {want : Bool} (hi : ops[i]? = some o) (hg : o.guard = some (gi, want)) (ht : (ops[gi]?).bind (·.dst) = some t) (hv : alook fr t = some undef)
    (hd : o.dst = some d) (hn : Nat.blt d n = true)
    (hs : Region.noSelect ops = true) (hf : Region.free .any ops listed i = true) (hr : (Region.ready .any ops listed).contains i = true) (hS : S w)
    (h : dw P n ops (NoPanicQ Q) S fuel (listed.setIfInBounds i true) ((d, undef) :: fr) w) : dw P n ops (NoPanicQ Q) S (fuel + 1) listed fr w := fun a ha => by
  have hw : Region.wanted o (yielded ops a.tmps) = false := by
    have h1 := ha.look t _ hv
    simp only [undef] at h1
    simp [Region.wanted, hg, yielded, ht, h1]
  refine wpAnyH_take (v := undef) hi hs hf hr (fun c a w hq => hq) (.inr ⟨hw, rfl⟩) hS ?_
  rw [hd]
  exact h _ (ha.put d (by simpa [Nat.blt_eq] using hn) undef)
/-- the address of an element does not hang on the world -/
theorem px_indexKw {w2 : World} {x y : Operand} {T e : TypeId} {lo hi m k : Nat} {i : Int} {j : Nat} {xs : List Value} {v : Value} (hx : ev fr x = some v) (hy : ev fr y = some (.int .i64 i)) (hj : i = (j : Int)) (hT : P.underlying T = some (.slice e)) (hS : ∀ w, (sizeOf e).run P w = .ok k w)
    (hs : Sv w2 lo hi v m k xs) (h1 : j < m) : Px P n fr ⟨dst, .indexAddr T x y, ty, pos, aft, g⟩ (.pointer (some ⟨vblk v, voff v + j * k, none⟩)) w := by
  subst hj
  rcases hs.2 with ⟨rfl, _⟩ | ⟨b, off, cap, cs, T', fz, rfl, _, _, h3, h4⟩
  · omega
  · intro a ha
    have h2 : (j : Int) < (m : Int) := by omega
    simp [execOp, ha.ev hx, ha.ev hy, Instr.indexAt, asIntOf, run_underlying hT, hS, h2, vblk, voff, add_at]
    exact fun hm => absurd hm (by omega)
/-- a literal of one element of several cells -/
theorem range_2 : Array.range 2 = #[0, 1] := by rw [← List.toArray_range]; rfl
theorem sx_lit1A2 {T e : TypeId} {i : TypeInfo} {z : Value} {bytes : Nat} {x : Operand} {v0 v1 : Value} (hn : Nat.blt d n = true) (hE : Elt P T e i z 2 bytes) (hx : ev fr x = some (.agg #[v0, v1]))
    (h : ∀ v' w', w'.heap.size = w.heap.size + 1 → Own w' w.heap.size w'.heap.size v' e 1 2 [v0, v1] → Chg 0 0 w w' → wl P n ops Q rest ((d, v') :: fr) w') :
    wl P n ops Q (⟨some d, .buildSlice T 1 #[(0, x)], ty, pos, aft, none⟩ :: rest) fr w :=
  sx_buildSlice [v0, v1] hn (by simp [maxLen]) (by simp) (fun a ha => by
    simp [Instr.buildSlice, run_underlying hE.ht, sizeOf, zeroValue, typeInfo, hE.hi, hE.hz, hE.hk, Instr.fill, newRow, ha.ev hx, cells_agg, range_2]) h
theorem range_3 : Array.range 3 = #[0, 1, 2] := by rw [← List.toArray_range]; rfl
theorem sx_lit1A3 {T e : TypeId} {i : TypeInfo} {z : Value} {bytes : Nat} {x : Operand} {v0 v1 v2 : Value} (hn : Nat.blt d n = true) (hE : Elt P T e i z 3 bytes) (hx : ev fr x = some (.agg #[v0, v1, v2]))
    (h : ∀ v' w', w'.heap.size = w.heap.size + 1 → Own w' w.heap.size w'.heap.size v' e 1 3 [v0, v1, v2] → Chg 0 0 w w' → wl P n ops Q rest ((d, v') :: fr) w') :
    wl P n ops Q (⟨some d, .buildSlice T 1 #[(0, x)], ty, pos, aft, none⟩ :: rest) fr w :=
  sx_buildSlice [v0, v1, v2] hn (by simp [maxLen]) (by simp) (fun a ha => by
    simp [Instr.buildSlice, run_underlying hE.ht, sizeOf, zeroValue, typeInfo, hE.hi, hE.hz, hE.hk, Instr.fill, newRow, ha.ev hx, cells_agg, range_3]) h
theorem range_5 : Array.range 5 = #[0, 1, 2, 3, 4] := by rw [← List.toArray_range]; rfl
theorem sx_lit1A5 {T e : TypeId} {i : TypeInfo} {z : Value} {bytes : Nat} {x : Operand} {v0 v1 v2 v3 v4 : Value} (hn : Nat.blt d n = true) (hE : Elt P T e i z 5 bytes) (hx : ev fr x = some (.agg #[v0, v1, v2, v3, v4]))
    (h : ∀ v' w', w'.heap.size = w.heap.size + 1 → Own w' w.heap.size w'.heap.size v' e 1 5 [v0, v1, v2, v3, v4] → Chg 0 0 w w' → wl P n ops Q rest ((d, v') :: fr) w') :
    wl P n ops Q (⟨some d, .buildSlice T 1 #[(0, x)], ty, pos, aft, none⟩ :: rest) fr w :=
  sx_buildSlice [v0, v1, v2, v3, v4] hn (by simp [maxLen]) (by simp) (fun a ha => by
    simp [Instr.buildSlice, run_underlying hE.ht, sizeOf, zeroValue, typeInfo, hE.hi, hE.hz, hE.hk, Instr.fill, newRow, ha.ev hx, cells_agg, range_5]) h
theorem sx_appendRt {x y : Operand} {T e U f : TypeId} {i : TypeInfo} {z : Value} {bytes lo hi x0 lo' hi' a b xb : Nat} {v u q : Value} {ts : List Rt} {vs : List Value} {r : Rt} (hn : Nat.blt d n = true) (hE : Elt P T e i z 5 bytes) (hx : ev fr x = some v) (hy : ev fr y = some u)
    (hG : RtX w lo hi x0 v e f ts vs) (hu : Sv w lo' hi' u 1 5 (rtc r q)) (hq : OwnI w a b q f r.2.2.2.1) (hab : hi ≤ a ∧ a ≤ b ∧ b ≤ w.heap.size) (hxb : (hi ≤ xb ∧ xb < a) ∨ xb < lo) (hc : (ts.length + 1) * bytes ≤ 140737488355328) (h63 : ts.length + 1 ≤ maxLen)
    (h : ∀ v' w', RtX w' lo w'.heap.size xb v' e f (ts ++ [r]) (vs ++ [q]) → Chg lo hi w w' → wl P n ops Q rest ((d, v') :: fr) w') :
    wl P n ops Q (⟨some d, .call { callee := .builtin .append, args := #[x, y], argTypes := #[T, T] }, U, pos, aft, none⟩ :: rest) fr w := by
  obtain ⟨l1, h1, A, B, hl1, hO, a1, hnn, hp⟩ := hG
  refine sx_append2 hn hE hx hy hO hu (by decide) (fun t ht => ?_) (by omega) hc h63 (fun v' w' l2 h2 hd hO2 hc2 => h v' w' ?_ (hc2.mono a1.1 a1.2.2.1))
  · simp only [List.mem_cons, List.not_mem_nil, or_false] at ht
    rcases ht with rfl | rfl | rfl | rfl | rfl
    · rfl
    · rfl
    · rfl
    · exact hq.sv.one
    · rfl
  · have hs := hc2.size
    refine ⟨l2, h2, fun i => if i < ts.length then A i else a, fun i => if i < ts.length then B i else b, by simp [hl1], ?_, by omega, fun i hi => ?_, fun i j hij hj => ?_⟩
    · rw [rtCells_snoc hl1]; simpa using hO2
    · rcases Nat.lt_or_ge i ts.length with hi' | hi'
      · have h3 := hnn i hi'
        simp only [if_pos hi']
        rw [getD_append_left' (by omega), getD_append_left' hi']
        exact ⟨by omega, h3.2.chg hc2 (by omega)⟩
      · have ei : i = ts.length := by simp only [List.length_append, List.length_singleton] at hi; omega
        subst ei
        simp only [if_neg (Nat.lt_irrefl _)]
        rw [getD_append_at hl1.symm, getD_append_at rfl]
        exact ⟨by omega, hq.chg hc2 (by omega)⟩
    · simp only [List.length_append, List.length_singleton] at hj
      have h3 := hnn i (by omega)
      simp only [if_pos (show i < ts.length by omega)]
      rcases Nat.lt_or_ge j ts.length with hj' | hj'
      · simp only [if_pos hj']; exact hp i j hij hj'
      · simp only [if_neg (show ¬ j < ts.length by omega)]; omega
theorem sx_storeRt {x y : Operand} {T e f : TypeId} {lo hi x0 a b k : Nat} {v u q : Value} {ts : List Rt} {vs : List Value} {r : Rt} (hx : ev fr x = some (.pointer (some ⟨vblk v, voff v + k * 5, none⟩))) (hy : ev fr y = some u)
    (hG : RtX w lo hi x0 v e f ts vs) (hv : u.cells = (rtc r q).toArray) (hk : k < ts.length) (hq : OwnI w a b q f r.2.2.2.1) (hab : hi ≤ a ∧ a ≤ b ∧ b ≤ w.heap.size) (hS : ∀ w, (sizeOf T).run P w = .ok 5 w)
    (h : ∀ w', w'.heap.size = w.heap.size → RtG w' lo w'.heap.size v e f (ts.set k r) (vs.set k q) → Chg lo hi w w' → wl P n ops Q rest fr w') : wl P n ops Q (⟨none, .store T x y, ty, pos, aft, none⟩ :: rest) fr w := by
  obtain ⟨l1, h1, A, B, hl1, hO, a1, hnn, hp⟩ := hG
  refine sx_storeOA (vs := rtc r q) hx hy hO hv (by simp) (by rw [rtCells_len hl1]; simp only [List.length_cons, List.length_nil]; omega) hS (fun t ht => ?_) (fun w' hs hO2 hc2 => h w' hs ?_ (hc2.mono a1.1 a1.2.2.1))
  · simp only [List.mem_cons, List.not_mem_nil, or_false] at ht
    rcases ht with rfl | rfl | rfl | rfl | rfl
    · rfl
    · rfl
    · rfl
    · exact hq.sv.one
    · rfl
  · refine ⟨l1, h1, fun i => if i = k then a else A i, fun i => if i = k then b else B i, by simp [hl1], ?_, by omega, fun i hi => ?_, fun i j hij hj => ?_⟩
    · have e1 := rtCells_set (r := r) (q := q) hl1 hk
      simp only [List.length_cons, List.length_nil] at hO2
      rw [e1] at hO2; simpa using hO2
    · simp only [List.length_set] at hi
      by_cases ei : i = k
      · subst ei
        simp only [↓reduceIte]
        rw [show (vs.set i q).getD i vz = q by simp [hl1, hi], show (ts.set i r).getD i rt0 = r by simp [hi]]
        exact ⟨by omega, hq.chg hc2 (by omega)⟩
      · have h3 := hnn i hi
        simp only [if_neg ei]
        rw [show (vs.set k q).getD i vz = vs.getD i vz by simp [List.getElem?_set_ne (Ne.symm ei)], show (ts.set k r).getD i rt0 = ts.getD i rt0 by simp [List.getElem?_set_ne (Ne.symm ei)]]
        exact ⟨by omega, h3.2.chg hc2 (by omega)⟩
    · simp only [List.length_set] at hj
      have h3 := hnn i (by omega)
      have h4 := hnn j hj
      by_cases ei : i = k
      · have ej : ¬ j = k := by omega
        simp only [if_pos ei, if_neg ej]; omega
      · by_cases ej : j = k
        · simp only [if_neg ei, if_pos ej]; omega
        · simp only [if_neg ei, if_neg ej]; exact hp i j hij hj
end
end Go.Proofs.Ytjkeefmpjocilaa
