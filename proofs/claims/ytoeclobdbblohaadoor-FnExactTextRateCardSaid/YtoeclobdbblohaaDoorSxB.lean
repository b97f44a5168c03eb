/- Plain lemmas on numbers and lists; no program in sight. Conditions: none. -/
import Derived.Test.YtoeclobdbblohaaDoorSx
set_option linter.unusedVariables false
set_option linter.unusedSimpArgs false
namespace Go.Proofs.YtoeclobdbblohaaDoor
open Go Go.RowKit
/-! ### windows: parts of an owned row that a callee stores into -/
def vmid : Value → Nat → Nat → Value
  | .slice a _ c, l, h => .slice (a.map (·.add l)) (h - l) (c - l)
  | v, _, _ => v
/-- v is a slice of ints at the cells behind pre and before suf in a block of [lo, hi) that no other rule guards -/
def Win (w : World) (lo hi : Nat) (v : Value) (e : TypeId) (pre suf : List Value) (zs : List Int) : Prop :=
  ∃ b cap, v = .slice (some ⟨b, pre.length, none⟩) zs.length cap ∧ lo ≤ b ∧ b < hi ∧ zs.length ≤ cap ∧ Blk w b (pre ++ zs.map (Value.int .i64) ++ suf) e
theorem Win.sv {w : World} {lo hi : Nat} {v : Value} {e : TypeId} {pre suf : List Value} {zs : List Int} (h : Win w lo hi v e pre suf zs) : Sl w lo hi v zs := by
  obtain ⟨b, cap, rfl, h1, h2, h3, h4⟩ := h
  refine ⟨by simp, .inr ⟨b, pre.length, cap, _, e, _, rfl, ⟨h3, h1⟩, h2, h4, fun j u hj => ?_⟩⟩
  have hlt : j < (zs.map (Value.int .i64)).length := by
    rcases Nat.lt_or_ge j (zs.map (Value.int .i64)).length with h' | h'
    · exact h'
    · simp [List.getElem?_eq_none h'] at hj
  rw [List.getElem?_toArray, List.append_assoc, List.getElem?_append_right (by omega), Nat.add_sub_cancel_left, List.getElem?_append_left hlt]
  exact hj
theorem Win.chg {w w' : World} {lo hi l h : Nat} {v : Value} {e : TypeId} {pre suf : List Value} {zs : List Int} (hs : Win w lo hi v e pre suf zs) (hc : Chg l h w w') (ho : hi ≤ l ∨ h ≤ lo) : Win w' lo hi v e pre suf zs := by
  obtain ⟨b, cap, rfl, h1, h2, h3, h4⟩ := hs
  exact ⟨b, cap, rfl, h1, h2, h3, h4.chg hc (by omega)⟩
theorem Win.ext {w w' : World} {lo hi : Nat} {v : Value} {e : TypeId} {pre suf : List Value} {zs : List Int} (hs : Win w lo hi v e pre suf zs) (hc : Chg 0 0 w w') : Win w' lo hi v e pre suf zs := hs.chg hc (.inr (Nat.zero_le _))
theorem Win.hi {w : World} {lo hi : Nat} {v : Value} {e : TypeId} {pre suf : List Value} {zs : List Int} (h : Win w lo hi v e pre suf zs) : lo < w.heap.size := by
  obtain ⟨b, cap, rfl, h1, h2, h3, h4⟩ := h
  have := h4.lt; omega
theorem Win.mono {w : World} {lo hi lo' hi' : Nat} {v : Value} {e : TypeId} {pre suf : List Value} {zs : List Int} (hs : Win w lo hi v e pre suf zs) (hl : lo' ≤ lo) (hh : hi ≤ hi') : Win w lo' hi' v e pre suf zs := by
  obtain ⟨b, cap, rfl, h1, h2, h3, h4⟩ := hs
  exact ⟨b, cap, rfl, by omega, by omega, h3, h4⟩
theorem Win.store {w : World} {lo hi : Nat} {v : Value} {e : TypeId} {pre suf : List Value} {zs : List Int} (hs : Win w lo hi v e pre suf zs) {j : Nat} (hj : j < zs.length) (x : Int) :
    Win (w.setCell ⟨vblk v, voff v + j, none⟩ (.int .i64 x)) lo hi v e pre suf (zs.set j x) ∧ Chg lo hi w (w.setCell ⟨vblk v, voff v + j, none⟩ (.int .i64 x)) ∧ (∃ y, w.cell? ⟨vblk v, voff v + j, none⟩ = some y) ∧ w.frozen? ⟨vblk v, voff v + j, none⟩ = false := by
  have hc := hs.sv.cell (j := j) (u := .int .i64 (zs.getD j 0)) (at_int hj)
  obtain ⟨b, cap, rfl, h1, h2, h3, h4⟩ := hs
  simp only [vblk, voff] at hc ⊢
  refine ⟨⟨b, cap, by rw [List.length_set], h1, h2, by rw [List.length_set]; exact h3, ?_⟩, (Chg.setCell w b _ _).mono h1 (by omega), ⟨_, hc⟩, h4.frozen⟩
  have := h4.set (o := pre.length + j) (.int .i64 x)
  rwa [List.append_assoc, List.set_append_right _ _ (by omega), Nat.add_sub_cancel_left, List.set_append_left _ _ (by simpa using hj), map_set_int, ← List.append_assoc] at this
/-- a part of an owned slice, and the way back -/
theorem Own.win {w : World} {lo hi : Nat} {v : Value} {e : TypeId} {zs : List Int} (h : OwnI w lo hi v e zs) {a b : Nat} (hab : a < b) (hb : b ≤ zs.length) :
    ∃ suf, Win w lo hi (vmid v a b) e ((zs.take a).map (Value.int .i64)) suf ((zs.drop a).take (b - a)) ∧
      ∀ w' ys, Win w' lo hi (vmid v a b) e ((zs.take a).map (Value.int .i64)) suf ys → OwnI w' lo hi v e (zs.take a ++ ys ++ zs.drop b) := by
  rcases h.2 with ⟨h0, _⟩ | ⟨c, cap, sp, rfl, h1, h2, h3, h4, h5, h6⟩
  · simp only [List.length_eq_zero_iff] at h0; subst h0; simp at hb; omega
  · have hl1 : (zs.take a).length = a := by rw [List.length_take]; omega
    have hl2 : ((zs.drop a).take (b - a)).length = b - a := by rw [List.length_take, List.length_drop]; omega
    have e1 : zs = zs.take a ++ ((zs.drop a).take (b - a) ++ zs.drop b) := by
      have e2 : zs.drop b = (zs.drop a).drop (b - a) := by rw [List.drop_drop]; congr 1; omega
      rw [e2, List.take_append_drop, List.take_append_drop]
    refine ⟨(zs.drop b).map (Value.int .i64) ++ sp, ⟨c, cap - a, ?_, h1, h2, ?_, ?_⟩, fun w' ys hw => ?_⟩
    · simp only [vmid, Option.map_some, add_at, Nat.zero_add, List.length_map, hl1, hl2]
    · rw [hl2]; omega
    · have : (zs.take a).map (Value.int .i64) ++ ((zs.drop a).take (b - a)).map (Value.int .i64) ++ ((zs.drop b).map (Value.int .i64) ++ sp) = zs.map (Value.int .i64) ++ sp := by
        conv => rhs; rw [e1]
        simp only [List.map_append, List.append_assoc]
      rw [this]; exact h5
    · obtain ⟨c', cap', hv, g1, g2, g3, g4⟩ := hw
      simp only [vmid, Option.map_some, add_at, Nat.zero_add, Value.slice.injEq, Option.some.injEq, Addr.mk.injEq] at hv
      obtain ⟨⟨rfl, _, _⟩, hl, rfl⟩ := hv
      have hlen : (zs.take a ++ ys ++ zs.drop b).length = zs.length := by
        simp only [List.length_append, hl1, List.length_drop, ← hl]; omega
      refine ⟨by simp, .inr ⟨c, cap, sp, by rw [hlen], g1, g2, by rw [hlen]; exact h3, h4, ?_, ?_⟩⟩
      · have : (zs.take a ++ ys ++ zs.drop b).map (Value.int .i64) ++ sp = (zs.take a).map (Value.int .i64) ++ ys.map (Value.int .i64) ++ ((zs.drop b).map (Value.int .i64) ++ sp) := by
          simp only [List.map_append, List.append_assoc]
        rw [this]; exact g4
      · rw [List.length_append, List.length_map, hlen]
        rw [List.length_append, List.length_map] at h6; exact h6
section
variable {P : Program} {n : Nat} {Q : Exit → Act → World → Prop} {fr fr' : Fr} {w : World} {ops : Array Oper} {rest : List Oper} {d : Nat} {ty : TypeId} {pos : String} {aft : Array Edge} {dst : Option Tmp} {g : Option (Nat × Bool)}
theorem sx_storeW {x y : Operand} {T e : TypeId} {lo hi j : Nat} {pre suf : List Value} {zs : List Int} {v : Value} {u : Int} (hx : ev fr x = some (.pointer (some ⟨vblk v, voff v + j, none⟩))) (hy : ev fr y = some (.int .i64 u))
    (hs : Win w lo hi v e pre suf zs) (hj : j < zs.length) (hS : ∀ w, (sizeOf T).run P w = .ok 1 w)
    (h : ∀ w', w'.heap.size = w.heap.size → Win w' lo hi v e pre suf (zs.set j u) → Chg lo hi w w' → wl P n ops Q rest fr w') : wl P n ops Q (⟨none, .store T x y, ty, pos, aft, none⟩ :: rest) fr w := by
  obtain ⟨g1, g2, ⟨x0, g3⟩, g4⟩ := hs.store hj u
  refine sx_unit (w' := w.setCell ⟨vblk v, voff v + j, none⟩ (.int .i64 u)) rfl rfl (fun a ha => ?_) (h _ (by simp [World.setCell]) g1 g2)
  have hst : (store ⟨vblk v, voff v + j, none⟩ (.int .i64 u)).run P w = .ok () (w.setCell ⟨vblk v, voff v + j, none⟩ (.int .i64 u)) := by
    simp [store, Sem.run, g3, g4]
  simp [execOp, ha.ev hx, ha.ev hy, Instr.storeAt, Instr.sureAddr, storeVar, hS, Value.cells, storeCells, Addr.add, hst]
theorem px_sliceMid {x y z : Operand} {T e : TypeId} {lo hi' m l h : Nat} {i j : Int} {xs : List Value} {v : Value} (hx : ev fr x = some v) (hy : ev fr y = some (.int .i64 i)) (hz : ev fr z = some (.int .i64 j)) (hi : i = (l : Int)) (hj : j = (h : Int)) (hT : P.underlying T = some (.slice e)) (hS : ∀ w, (sizeOf e).run P w = .ok 1 w)
    (hs : Sv w lo hi' v m 1 xs) (hl : l < h) (hh : h ≤ m) : Px P n fr ⟨dst, .slice T x (some y) (some z) none, ty, pos, aft, g⟩ (vmid v l h) w := by
  subst hi; subst hj
  intro a ha
  rcases hs.2 with ⟨rfl, _⟩ | ⟨b, off, cap, cs, T', fz, hv, h1, _⟩
  · omega
  · subst hv
    have hc : h ≤ cap := by omega
    have hlh : l ≤ h := by omega
    have hne : ¬ cap = l := by omega
    simp [execOp, ha.ev hx, ha.ev hy, ha.ev hz, Instr.sliceAt, run_underlying hT, Instr.slice, Instr.sliceBounds, Instr.sliceBound, asIntOf, hS, vmid, hc, hlh, hne]
/-- append, and where the row is then: where it was, or new -/
theorem sx_append2 {x y : Operand} {T e U : TypeId} {i : TypeInfo} {z : Value} {k bytes m c lo hi lo' hi' : Nat} {v u : Value} {xs ys : List Value} (hn : Nat.blt d n = true) (hE : Elt P T e i z k bytes) (hx : ev fr x = some v) (hy : ev fr y = some u)
    (hv : Own w lo hi v e m k xs) (hu : Sv w lo' hi' u c k ys) (hc0 : 0 < c) (h1 : ∀ q ∈ ys, q.oneCell' = true) (hlo : lo ≤ w.heap.size) (hc : (m + c) * bytes ≤ 140737488355328) (h63 : m + c ≤ maxLen)
    (h : ∀ v' w' l2 h2, (l2 = lo ∧ h2 = hi) ∨ (l2 = w.heap.size ∧ h2 = w'.heap.size) → Own w' l2 h2 v' e (m + c) k (xs ++ ys) → Chg lo hi w w' → wl P n ops Q rest ((d, v') :: fr) w') :
    wl P n ops Q (⟨some d, .call { callee := .builtin .append, args := #[x, y], argTypes := #[T, T] }, U, pos, aft, none⟩ :: rest) fr w := by
  rcases hu.2 with ⟨rfl, a, c', rfl⟩ | ⟨b, off, cap, cs, T', fz, rfl, _, _, h3, h4⟩
  · omega
  · have hcell : ∀ j q, ys[j]? = some q → w.cell? ((⟨b, off, none⟩ : Addr).add j) = some q := fun j q hj => by
      rw [add_at]; simp [World.cell?, h3, h4 j q hj]
    obtain ⟨v', w', r1, r2, r3, r4, r5⟩ := run_append_own_at (P := P) (w := w) lo T U e i z k bytes hE.ht hE.hi hE.hz hE.hk hE.hb hE.hc hE.h0 v m xs hv.row ⟨b, off, none⟩ c cap ys hu.1 hcell h1 h63 hc hlo
    have hO := Own.of_row r2
    have hrun : ∀ a : Act, Agr n fr a → (execOp a.eval (⟨some d, .call { callee := .builtin .append, args := #[x, y], argTypes := #[T, T] }, U, pos, aft, none⟩ : Oper)).run P w = .ok (.value v') w' := fun a ha => by
      simp [execOp, resolve, ha.ev hx, ha.ev hy, invoke, builtin, r1]
    have hk0 := hE.h0
    rcases hO.2 with ⟨h0, hv0⟩ | ⟨b', cap', sp, hv', q1, q2, q3, q4, q5, q6⟩
    · omega
    · have hself : ∀ l2 h2, l2 ≤ b' → b' < h2 → Own w' l2 h2 v' e (m + c) k (xs ++ ys) := fun l2 h2 g1 g2 => ⟨hO.1, .inr ⟨b', cap', sp, hv', g1, g2, q3, q4, q5, q6⟩⟩
      rcases r5 with r5 | r5
      · rcases hv.2 with ⟨_, hvn⟩ | ⟨b0, cap0, sp0, hv0, p1, p2, _⟩
        · subst hvn; rw [hv'] at r5; simp [Value.ownBlock] at r5
        · rw [hv', hv0] at r5
          simp only [Value.ownBlock, Option.some.injEq] at r5
          exact sx_val rfl rfl hn hrun (h v' w' lo hi (.inl ⟨rfl, rfl⟩) (hself _ _ (by omega) (by omega)) (Chg.grown hv r3))
      · rw [hv'] at r5
        simp only [Value.ownBlock, Option.some.injEq] at r5
        exact sx_val rfl rfl hn hrun (h v' w' w.heap.size w'.heap.size (.inr ⟨rfl, rfl⟩) (hself _ _ (by omega) q2) (Chg.grown hv r3))
end
end Go.Proofs.YtoeclobdbblohaaDoor
