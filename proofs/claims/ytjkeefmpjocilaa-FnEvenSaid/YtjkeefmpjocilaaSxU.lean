/- Plain lemmas on numbers and lists; no program in sight. Conditions: none. -/
import Derived.Test.YtjkeefmpjocilaaSxB
import Derived.Laws.CopyRow
set_option linter.unusedVariables false
set_option linter.unusedSimpArgs false
namespace Go.Proofs.Ytjkeefmpjocilaa
open Go Go.RowKit
section
variable {P : Program} {n : Nat} {Q : Exit → Act → World → Prop} {fr fr' : Fr} {w : World} {ops : Array Oper} {rest : List Oper} {d : Nat} {ty : TypeId} {pos : String} {aft : Array Edge} {dst : Option Tmp} {g : Option (Nat × Bool)}
theorem px_sliceFrom {w2 : World} {x y : Operand} {T e : TypeId} {lo hi' m l : Nat} {i : Int} {xs : List Value} {v : Value} (hx : ev fr x = some v) (hy : ev fr y = some (.int .i64 i)) (hi : i = (l : Int)) (hT : P.underlying T = some (.slice e)) (hS : ∀ w, (sizeOf e).run P w = .ok 1 w)
    (hs : Sv w2 lo hi' v m 1 xs) (hl : l < m) : Px P n fr ⟨dst, .slice T x (some y) none none, ty, pos, aft, g⟩ (vmid v l m) w := by
  subst hi
  intro a ha
  rcases hs.2 with ⟨rfl, _⟩ | ⟨b, off, cap, cs, T', fz, hv, h1, _⟩
  · omega
  · subst hv
    have hlh : l ≤ m := by omega
    have hmc : m ≤ cap := h1.1
    have hne : ¬ cap = l := by omega
    simp [execOp, ha.ev hx, ha.ev hy, Instr.sliceAt, run_underlying hT, Instr.slice, Instr.sliceBounds, Instr.sliceBound, asIntOf, hS, vmid, hlh, hmc, hne]
/-- the first places of a row whose cells may have changed: only its shape is asked -/
theorem px_sliceToW {w2 : World} {x y : Operand} {T e : TypeId} {lo hi' m k h : Nat} {i : Int} {xs : List Value} {v : Value} (hx : ev fr x = some v) (hy : ev fr y = some (.int .i64 i)) (hi : i = (h : Int)) (hT : P.underlying T = some (.slice e)) (hS : ∀ w, (sizeOf e).run P w = .ok k w)
    (hs : Sv w2 lo hi' v m k xs) (hh : h ≤ m) : Px P n fr ⟨dst, .slice T x none (some y) none, ty, pos, aft, g⟩ (vtake v h) w := by
  subst hi
  intro a ha
  have key : ∀ A c, h ≤ c → v = .slice A m c → (execOp a.eval ⟨dst, .slice T x none (some y) none, ty, pos, aft, g⟩).run P w = .ok (.value (vtake v h)) w := by
    intro A c hc hv
    subst hv
    have hA : (if c = 0 then A else Option.map (fun x => x.add 0) A) = A := by
      split
      · rfl
      · cases A <;> simp [Addr.add]
    simp [execOp, ha.ev hx, ha.ev hy, Instr.sliceAt, run_underlying hT, Instr.slice, Instr.sliceBounds, Instr.sliceBound, asIntOf, hS, vtake, hc, hA]
  rcases hs.2 with ⟨rfl, A, c, hv⟩ | ⟨b, off, cap, cs, T', fz, hv, h1, _⟩
  · exact key A c (by omega) hv
  · exact key _ cap (by omega) hv
/-- copy into an owned row of ints, from place a on -/
theorem sx_copy {x y : Operand} {T S e e' U : TypeId} {lo hi lo2 hi2 a : Nat} {v dv u : Value} {zs ys : List Int} (hn : Nat.blt d n = true) (hx : ev fr x = some dv) (hy : ev fr y = some u) (hT : P.underlying T = some (.slice e)) (hS : (P.info? e).map (·.size) = some 1)
    (hO : OwnI w lo hi v e' zs) (hdv : dv = vmid v a zs.length ∨ (a = 0 ∧ dv = v)) (ha : a < zs.length) (hs : Sl w lo2 hi2 u ys) (hy0 : 0 < ys.length)
    (h : ∀ w', OwnI w' lo hi v e' (zs.take a ++ ys.take (min ys.length (zs.length - a)) ++ zs.drop (a + min ys.length (zs.length - a))) → Chg lo hi w w' → wl P n ops Q rest ((d, .int .i64 ((min ys.length (zs.length - a) : Nat) : Int)) :: fr) w') :
    wl P n ops Q (⟨some d, .call { callee := .builtin .copy, args := #[x, y], argTypes := #[T, S] }, U, pos, aft, none⟩ :: rest) fr w := by
  rcases hO.2 with ⟨h0, _⟩ | ⟨b, cap, sp, rfl, h1, h2, h3, h4, h5, h6⟩
  · omega
  · rcases hs.2 with ⟨h0, _⟩ | ⟨b2, off2, cap2, cs2, T2, fz2, rfl, g1, g2, g3, g4⟩
    · omega
    · generalize hc : min ys.length (zs.length - a) = c at h ⊢
      have hcl : ((ys.take c).map (Value.int .i64)).length = c := by rw [List.length_map, List.length_take]; omega
      have hdv' : dv = .slice (some ⟨b, a, none⟩) (zs.length - a) (if a = 0 then cap else cap - a) := by
        rcases hdv with hd | ⟨h0, hd⟩
        · rw [hd]; simp only [vmid, Option.map_some, add_at, Nat.zero_add]; split
          · rename_i h9; rw [h9, Nat.sub_zero, Nat.sub_zero]
          · rfl
        · rw [hd, h0]; simp
      have hsrc : ∀ j q, ((ys.take c).map (Value.int .i64))[j]? = some q → w.cell? ((⟨b2, off2, none⟩ : Addr).add j) = some q := fun j q hj => by
        have hj2 : (ys.map (Value.int .i64))[j]? = some q := by
          rw [List.map_take, List.getElem?_take] at hj
          split at hj
          · exact hj
          · cases hj
        rw [add_at]; simp [World.cell?, g3, g4 j q hj2]
      have hrun := run_copy_row (P := P) w T S U e b a (zs.length - a) (if a = 0 then cap else cap - a) ⟨b2, off2, none⟩ ys.length cap2 (zs.map (Value.int .i64) ++ sp).toArray e' ((ys.take c).map (Value.int .i64)) hT hS h5 (by rw [hcl]; exact hc.symm) hsrc (by rw [hcl]; simp; omega) (fun q hq => one_int q hq)
      rw [hcl] at hrun
      have er : ((zs.map (Value.int .i64) ++ sp).toArray.toList.take a ++ (ys.take c).map (Value.int .i64) ++ (zs.map (Value.int .i64) ++ sp).toArray.toList.drop (a + c)) = (zs.take a ++ ys.take c ++ zs.drop (a + c)).map (Value.int .i64) ++ sp := by
        have l1 : (zs.map (Value.int .i64)).length = zs.length := List.length_map ..
        simp only [List.map_append, List.map_take, List.map_drop]
        rw [List.take_append_of_le_length (by omega), List.drop_append_of_le_length (by omega)]
        simp only [List.append_assoc]
      rw [er] at hrun
      have hl9 : (zs.take a ++ ys.take c ++ zs.drop (a + c)).length = zs.length := by
        simp only [List.length_append, List.length_take, List.length_drop]; omega
      refine sx_val rfl rfl hn (fun ac hac => by simp [execOp, resolve, hac.ev hx, hac.ev hy, hdv', invoke, builtin, hrun, goInt]) (h _ ⟨by simp, .inr ⟨b, cap, sp, by rw [hl9], h1, h2, by rw [hl9]; exact h3, h4, h5.setRow _, ?_⟩⟩ ((Chg.setRow b _).mono h1 (by omega)))
      rw [List.length_append, List.length_map, hl9, ← h6, List.length_append, List.length_map]
end
end Go.Proofs.Ytjkeefmpjocilaa
