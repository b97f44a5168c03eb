/- Plain lemmas on numbers and lists; no program in sight. Conditions: none. -/
import Derived.Test.YtemlgjheidbccaaDoorSxD
import Derived.Sort.EveryDepth
import Derived.Sort.EncStr
import Derived.Shelf.Sort.Plain
set_option linter.unusedVariables false
set_option linter.unusedSimpArgs false
namespace Go.Proofs.YtemlgjheidbccaaDoor
open Go Go.RowKit Go.Sort
/-! ### a row that the library has sorted -/
theorem putCells_all {α : Type} [Inhabited α] (enc : α → Value) (d : List α) (xs sp : List Value) (hl : d.length = xs.length) : putCells enc 0 d.toArray (xs ++ sp).toArray = (d.map enc ++ sp).toArray := by
  apply Array.ext_getElem?
  intro k
  simp only [putCells, Array.getElem?_mapIdx, List.getElem?_toArray, List.size_toArray, Nat.zero_add, Nat.sub_zero, Nat.zero_le, true_and]
  by_cases hk : k < d.length
  · rw [List.getElem?_append_left (by omega), List.getElem?_append_left (by simpa using hk), List.getElem?_eq_getElem (show k < xs.length by omega), List.getElem?_map, List.getElem?_eq_getElem hk]
    simp [hk]
  · rw [List.getElem?_append_right (by omega), List.getElem?_append_right (by simpa using hk)]
    simp only [List.length_map, hl]
    cases sp[k - xs.length]? with
    | none => rfl
    | some y =>
      simp [hk]
      exact fun h => absurd h (by omega)
theorem sorted_blk {α : Type} [Inhabited α] {w : World} {b m : Nat} {os : Array Obj} {xs sp : List Value} {T : TypeId} (enc : α → Value) (d : List α) (h : Blk w b (xs ++ sp) T) (hl : d.length = xs.length) :
    Blk (grow (putRow enc (Sort.ahead w m) b 0 d.toArray) os) b (d.map enc ++ sp) T := by
  have hlt := h.lt
  unfold Blk at h ⊢
  rw [heap_grow_old _ _ (by simpa using hlt)]
  show ((Sort.ahead w m).heap.modify b (onCells (putCells enc 0 d.toArray)))[b]? = _
  rw [Array.getElem?_modify, if_pos rfl, Sort.heap_ahead, h]
  simp only [Option.map_some, onCells]
  rw [putCells_all enc d xs sp hl]
theorem sorted_chg {α : Type} [Inhabited α] (w : World) (b m : Nat) (os : Array Obj) (enc : α → Value) (d : Array α) : Chg b (b + 1) w (grow (putRow enc (Sort.ahead w m) b 0 d) os) := by
  refine ⟨rfl, rfl, rfl, by simp, fun k hk ho => ?_⟩
  rw [heap_grow_old _ _ (by simpa using hk)]
  show ((Sort.ahead w m).heap.modify b (onCells (putCells enc 0 d)))[k]? = _
  rw [Array.getElem?_modify, if_neg (by omega), Sort.heap_ahead]
/-- the texts in their order -/
def sortS (ss : List ByteArray) : List ByteArray := ((ss.map fun s => s.data.toList).mergeSort fun x y => decide (x ≤ y)).map fun l => ⟨l.toArray⟩
theorem sortS_len (ss : List ByteArray) : (sortS ss).length = ss.length := by simp [sortS]
theorem own_sort {w : World} {lo hi : Nat} {v : Value} {e : TypeId} {ss : List ByteArray} (h : OwnS w lo hi v e ss) (h0 : 0 < ss.length) :
    ∃ b cap, v = .slice (some ⟨b, 0, none⟩) (ss.map fun s => s.data.toList).length cap ∧ b < w.heap.size ∧ Holds encStr w b 0 (ss.map fun s => s.data.toList).toArray ∧
      ∀ m os, OwnS (grow (putRow encStr (Sort.ahead w m) b 0 ((ss.map fun s => s.data.toList).mergeSort fun x y => decide (x ≤ y)).toArray) os) lo hi v e (sortS ss) ∧
        Chg lo hi w (grow (putRow encStr (Sort.ahead w m) b 0 ((ss.map fun s => s.data.toList).mergeSort fun x y => decide (x ≤ y)).toArray) os) := by
  rcases h.2 with ⟨h1, _⟩ | ⟨b, cap, sp, rfl, h1, h2, h3, h4, h5, h6⟩
  · omega
  refine ⟨b, cap, by simp, h5.lt, fun j hj => ?_, fun m os => ⟨⟨by simp [sortS_len], .inr ⟨b, cap, sp, by rw [sortS_len], h1, h2, by rw [sortS_len]; exact h3, h4, ?_, ?_⟩⟩, (sorted_chg w b m os _ _).mono h1 (by omega)⟩⟩
  · have hj' : j < ss.length := by simpa using hj
    unfold Blk at h5
    have e1 : ((ss.map fun s => s.data.toList).toArray)[j]! = ss[j].data.toList := by
      rw [getElem!_pos _ j (by simpa using hj')]; simp
    constructor
    · unfold World.cell?
      simp only [h5, Nat.zero_add]
      rw [List.getElem?_toArray, List.getElem?_append_left (by simpa using hj'), List.getElem?_map, List.getElem?_eq_getElem hj', e1]
      simp [encStr]
    · simp [World.frozen?, h5]
  · have := sorted_blk (m := m) (os := os) encStr ((ss.map fun s => s.data.toList).mergeSort fun x y => decide (x ≤ y)) h5 (by simp)
    rw [show (sortS ss).map Value.string = ((ss.map fun s => s.data.toList).mergeSort fun x y => decide (x ≤ y)).map encStr by simp [sortS, encStr]]
    exact this
  · simp only [List.length_append, List.length_map, sortS_len] at h6 ⊢; exact h6
theorem sortS_of {a b : List ByteArray} (hp : (a.map fun s => s.data.toList).Perm (b.map fun s => s.data.toList)) (hs : (b.map fun s => s.data.toList).Pairwise fun x y => x ≤ y) : sortS a = b := by
  have e : (a.map fun s => s.data.toList).mergeSort (fun x y => decide (x ≤ y)) = b.map fun s => s.data.toList := by
    refine List.Perm.eq_of_pairwise (le := fun x y => x ≤ y) (fun x y _ _ h1 h2 => List.le_antisymm h1 h2) ?_ hs ((List.mergeSort_perm _ _).trans hp)
    have := List.pairwise_mergeSort (le := fun (x y : List UInt8) => decide (x ≤ y)) (fun x y z h1 h2 => by simp only [decide_eq_true_eq] at *; exact List.le_trans h1 h2) (fun x y => by simp only [Bool.or_eq_true, decide_eq_true_eq]; exact List.le_total x y) (a.map fun s => s.data.toList)
    simpa using this
  unfold sortS; rw [e, List.map_map]
  conv => rhs; rw [← List.map_id b]
  exact List.map_congr_left fun s _ => by simp
end Go.Proofs.YtemlgjheidbccaaDoor
