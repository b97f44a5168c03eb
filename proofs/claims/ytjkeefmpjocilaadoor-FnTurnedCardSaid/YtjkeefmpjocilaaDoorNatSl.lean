/- Plain lemmas on numbers and lists; no program in sight. Conditions: none. -/
import Derived.Test.YtjkeefmpjocilaaDoorNatSk
import Derived.Test.YtjkeefmpjocilaaDoorNatQ
import Derived.Test.YtjkeefmpjocilaaDoorNatB
set_option linter.unusedVariables false
set_option linter.unusedSimpArgs false
namespace Go.Proofs.YtjkeefmpjocilaaDoor
open Go Go.RowKit
/-! ### shares of money, shares of a negated number -/
theorem codes_known : ∀ s ∈ tabS.map Cr.code, Known s := by decide +kernel
theorem mok_len {c : ByteArray} {x : Int} (hc : Known c) (h : (dg x.natAbs).length ≤ 4) : MOk c (ng x) (dg x.natAbs) := MOk_iff.2 ⟨hc, h⟩
def msh (c : ByteArray) (x : Int) (ws : List Int) (i : Nat) : Mt := (c, ng (shr x ws i), dg (shr x ws i).natAbs)
def mshs (c : ByteArray) (x : Int) (ws : List Int) : List Mt := (List.range ws.length).map (msh c x ws)
theorem mshs_len {c : ByteArray} {x : Int} {ws : List Int} : (mshs c x ws).length = ws.length := by simp [mshs]
theorem mshs_get {c : ByteArray} {x : Int} {ws : List Int} {i : Nat} (h : i < ws.length) : (mshs c x ws).getD i mt0 = msh c x ws i := by simp [mshs, h]
theorem mshs_take {c : ByteArray} {x : Int} {ws : List Int} {k : Nat} (h : k < ws.length) : (mshs c x ws).take (k + 1) = (mshs c x ws).take k ++ [(c, ng ((shrs x ws).getD k 0), dg ((shrs x ws).getD k 0).natAbs)] := by
  rw [mt_take_snoc (by rw [mshs_len]; exact h), mshs_get h, shrs_get h]; rfl
theorem shr_len4 {x : Int} {ws : List Int} (h : WOk ws) {i : Nat} (hi : i < ws.length) (hx : (dg x.natAbs).length ≤ 3) : (dg (shr x ws i).natAbs).length ≤ 4 := by rw [shr_abs]; exact mg_len h hi hx
theorem mshs_all {c : ByteArray} {x : Int} {ws : List Int} (hc : Known c) (h : WOk ws) (hx : (dg x.natAbs).length ≤ 3) : AllM c (mshs c x ws) (mshs c x ws).length := fun i hi => by
  rw [mshs_len] at hi
  rw [mshs_get hi]
  exact ⟨mok_len hc (shr_len4 h hi hx), rfl⟩
theorem mshs_sumTo {c : ByteArray} {x : Int} {ws : List Int} : ∀ k, k ≤ ws.length → sumTo (mshs c x ws) k = ((List.range k).map (shr x ws)).sum
  | 0, _ => rfl
  | k + 1, hk => by
    show sumTo (mshs c x ws) k + vI _ _ = _
    rw [mshs_sumTo k (by omega), mshs_get (by omega), List.range_succ, List.map_append, List.sum_append]
    show _ + vI (ng (shr x ws k)) (dg (shr x ws k).natAbs) = _
    rw [vI_ng]; simp
theorem mshs_sum {c : ByteArray} {x : Int} {ws : List Int} (h : WOk ws) (hx : ∃ ix : List Nat, ix.Perm (List.range ws.length) ∧ SortTo (sR x.natAbs ws) ix ws.length) : sumTo (mshs c x ws) (mshs c x ws).length = x := by
  obtain ⟨ix, hP, hs⟩ := hx
  rw [mshs_sumTo _ (by rw [mshs_len]; exact Nat.le_refl _), mshs_len]
  exact shr_sum h hP hs
theorem shr_neg {x : Int} {ws : List Int} (i : Nat) : shr (-x) ws i = -shr x ws i := by
  unfold shr
  rw [Int.natAbs_neg]
  by_cases h0 : x = 0
  · subst h0
    have e : mg (0 : Int).natAbs ws i = 0 := by
      have hq : sQ 0 ws i = 0 := by unfold sQ; simp
      have hm : mis 0 ws = 0 := by unfold mis; simp
      unfold mg
      show sQ 0 ws i + (if decide (rank (sR 0 ws) ws.length i < mis 0 ws) = true then 1 else 0) = 0
      rw [hq, hm]; simp
    rw [e]; rfl
  · rcases Int.lt_or_gt_of_ne h0 with h | h
    · rw [ng_true.2 h, ng_false.2 (show (0 : Int) ≤ -x by omega)]; unfold sgI; simp
    · rw [ng_false.2 (show (0 : Int) ≤ x by omega), ng_true.2 (show -x < 0 by omega)]; unfold sgI; simp
theorem turn_cmp {x : Int} {ws : List Int} {i : Nat} (h : i < ws.length) : cmpI ((shrs x ws).getD i 0) (-(shrs (-x) ws).getD i 0) = 0 := by
  apply cmpI_eq0; rw [shrs_get h, shrs_get h, shr_neg]; omega
theorem unit_cmp {x : Int} {ws : List Int} {i : Nat} (h : i < ws.length) : cmpI (shr x ws i) ((shrs x ws).getD i 0) = 0 := by
  apply cmpI_eq0; rw [shrs_get h]
theorem msh_lookD {c : ByteArray} {x : Int} {ws : List Int} {vs : List Value} {i : Nat} (hl : vs.length = (mshs c x ws).length) (h : i < ws.length) : ∀ q u, ([Value.bool (ng (shr x ws i)), vs.getD i vz] : List Value)[q]? = some u → (mtCells (mshs c x ws) vs)[i * 3 + 1 + q]? = some u := fun q u hu => by
  have := mt_look (ts := mshs c x ws) hl (show i < (mshs c x ws).length by rw [mshs_len]; exact h) (q + 1) u (by rw [mshs_get h]; simpa [mtc, msh] using hu)
  rw [← this]; congr 1; omega
theorem msh_nest {w : World} {lo hi : Nat} {v : Value} {c : ByteArray} {x : Int} {ws : List Int} {vs : List Value} (hs : MtS w lo hi v (mshs c x ws) vs) {i : Nat} (h : i < ws.length) : Sl w lo hi (vs.getD i vz) (dg (shr x ws i).natAbs) := by
  have := hs.nest i (by rw [mshs_len]; exact h)
  rw [mshs_get h] at this; exact this
/-- rows of money out of their cells -/
theorem msh_of {w : World} {lo hi n : Nat} {v : Value} {e : TypeId} {c : ByteArray} {x : Int} {ws : List Int} {vs : List Value} (hO : Own w lo hi v e n 3 (mtCells ((mshs c x ws).take n) (vs.take n))) (hn : n = ws.length) (hl : vs.length = ws.length) (hq : ∀ i, i < ws.length → Sl w 0 w.heap.size (vs.getD i vz) (dg (shr x ws i).natAbs)) : MtS w 0 w.heap.size v (mshs c x ws) vs := by
  subst hn
  rw [List.take_of_length_le (by rw [mshs_len]; exact Nat.le_refl _), List.take_of_length_le (by omega)] at hO
  refine ⟨by rw [mshs_len]; exact hl, ?_, fun i hi => ?_⟩
  · rw [mshs_len]; exact (hO.sv.mono (Nat.zero_le _) (Nat.le_refl _)).fit
  · rw [mshs_len] at hi; rw [mshs_get hi]; exact hq i hi
theorem msh_more {c : ByteArray} {x : Int} {ws : List Int} {vs : List Value} {k : Nat} (h : k < ws.length) (hl : vs.length = ws.length) : mtCells ((mshs c x ws).take (k + 1)) (vs.take (k + 1)) = mtCells ((mshs c x ws).take k) (vs.take k) ++ [.string c, .bool (ng ((shrs x ws).getD k 0)), vs.getD k vz] := by
  have e : vs.take (k + 1) = vs.take k ++ [vs.getD k vz] := by
    rw [List.take_succ_eq_append_getElem (show k < vs.length by omega)]; simp [List.getElem?_eq_getElem (show k < vs.length by omega)]
  rw [mshs_take h, e, mtCells_snoc (by rw [List.length_take, List.length_take, mshs_len]; omega)]
end Go.Proofs.YtjkeefmpjocilaaDoor
