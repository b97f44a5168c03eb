/- Plain lemmas on numbers and lists; no program in sight. Conditions: none. -/
import Derived.Test.YtlnemcbdbehehaaDoorNatK
import Derived.Test.YtlnemcbdbehehaaDoorSxC
set_option linter.unusedVariables false
set_option linter.unusedSimpArgs false
namespace Go.Proofs.YtlnemcbdbehehaaDoor
open Go Go.RowKit
/-! ### lists of rates -/
abbrev RPr (r : Rt) : Prop := RateP r.1 r.2.1 r.2.2.1 r.2.2.2.1 r.2.2.2.2
abbrev Same (r s : Rt) : Prop := r.1 = s.1 ∧ r.2.1 = s.2.1
def AllTo (ts : List Rt) (k : Nat) : Prop := (∀ i, i < k → RPr (ts.getD i rt0)) ∧ ∀ j, j < k → ∀ i, i < j → ¬ Same (ts.getD i rt0) (ts.getD j rt0)
instance (ts : List Rt) (k : Nat) : Decidable (AllTo ts k) := by unfold AllTo; infer_instance
theorem AllTo_zero (ts : List Rt) : AllTo ts 0 := ⟨fun _ h => by omega, fun _ h => by omega⟩
theorem AllTo_succ {ts : List Rt} {k : Nat} (h : AllTo ts k) (h1 : RPr (ts.getD k rt0)) (h2 : ∀ i, i < k → ¬ Same (ts.getD i rt0) (ts.getD k rt0)) : AllTo ts (k + 1) := by
  refine ⟨fun i hi => ?_, fun j hj i hi => ?_⟩
  · by_cases e : i = k
    · subst e; exact h1
    · exact h.1 i (by omega)
  · by_cases e : j = k
    · subst e; exact h2 i hi
    · exact h.2 j (by omega) i hi
def RsOk (pv : ByteArray) (ts : List Rt) : Prop := Known pv ∧ ts.length ≤ 12 ∧ AllTo ts ts.length
instance (pv : ByteArray) (ts : List Rt) : Decidable (RsOk pv ts) := by unfold RsOk; infer_instance
def keysTo (ts : List Rt) (k : Nat) : List (ByteArray × ByteArray) := (ts.take k).map fun r => (r.1, r.2.1)
theorem keysTo_succ {ts : List Rt} {k : Nat} (h : k < ts.length) : keysTo ts (k + 1) = keysTo ts k ++ [((ts.getD k rt0).1, (ts.getD k rt0).2.1)] := by
  unfold keysTo; rw [take_snoc h, List.map_append]; rfl
theorem mem_keysTo {ts : List Rt} {k : Nat} (h : k ≤ ts.length) {r : Rt} : (r.1, r.2.1) ∈ keysTo ts k ↔ ∃ i, i < k ∧ Same (ts.getD i rt0) r := by
  unfold keysTo
  rw [List.mem_map]
  constructor
  · rintro ⟨x, hx, he⟩
    obtain ⟨i, hi, rfl⟩ := List.getElem_of_mem hx
    have hik : i < k := by rw [List.length_take] at hi; omega
    refine ⟨i, hik, ?_⟩
    have e : ts.getD i rt0 = (ts.take k)[i] := by simp [List.getElem?_eq_getElem (show i < ts.length by omega)]
    rw [e]
    exact ⟨congrArg (·.1) he, congrArg (·.2) he⟩
  · rintro ⟨i, hi, h1, h2⟩
    refine ⟨ts.getD i rt0, ?_, Prod.ext h1 h2⟩
    have e : ts.getD i rt0 = (ts.take k)[i]'(by rw [List.length_take]; omega) := by simp [List.getElem?_eq_getElem (show i < ts.length by omega)]
    rw [e]; exact List.getElem_mem _
/-- the first place of a pair -/
def atI (ts : List Rt) (a b : ByteArray) : Int := match ts.findIdx? (fun r => decide (r.1 = a ∧ r.2.1 = b)) with
  | some i => (i : Int)
  | none => -1
theorem findIdx_some {ts : List Rt} {p : Rt → Bool} {k : Nat} (hk : k < ts.length) (hn : ∀ i, i < k → p (ts.getD i rt0) = false) (hp : p (ts.getD k rt0) = true) : ts.findIdx? p = some k := by
  rw [List.findIdx?_eq_some_iff_getElem]
  have e : ∀ i (h : i < ts.length), ts.getD i rt0 = ts[i] := fun i h => by simp [List.getElem?_eq_getElem h]
  refine ⟨hk, by rw [← e]; exact hp, fun j hj => ?_⟩
  have := hn j hj
  rw [e j (by omega)] at this
  simp [this]
theorem findIdx_none {ts : List Rt} {p : Rt → Bool} (hn : ∀ i, i < ts.length → p (ts.getD i rt0) = false) : ts.findIdx? p = none := by
  rw [List.findIdx?_eq_none_iff]
  intro x hx
  obtain ⟨i, hi, rfl⟩ := List.getElem_of_mem hx
  have := hn i hi
  simpa [List.getElem?_eq_getElem hi] using this
theorem atI_some {ts : List Rt} {a b : ByteArray} {k : Nat} (hk : k < ts.length) (hn : ∀ i, i < k → ¬ ((ts.getD i rt0).1 = a ∧ (ts.getD i rt0).2.1 = b)) (hp : (ts.getD k rt0).1 = a ∧ (ts.getD k rt0).2.1 = b) : atI ts a b = (k : Int) := by
  unfold atI; rw [findIdx_some hk (fun i hi => decide_eq_false (hn i hi)) (decide_eq_true hp)]
theorem atI_none {ts : List Rt} {a b : ByteArray} (hn : ∀ i, i < ts.length → ¬ ((ts.getD i rt0).1 = a ∧ (ts.getD i rt0).2.1 = b)) : atI ts a b = -1 := by
  unfold atI; rw [findIdx_none fun i hi => decide_eq_false (hn i hi)]
theorem first_of {p : Nat → Prop} [DecidablePred p] : ∀ k, (∃ i, i < k ∧ p i) → ∃ i, i < k ∧ p i ∧ ∀ j, j < i → ¬ p j := by
  intro k h
  obtain ⟨i, hi, hp⟩ := h
  induction i using Nat.strongRecOn with
  | _ i ih =>
    by_cases h2 : ∃ j, j < i ∧ p j
    · obtain ⟨j, hj, hpj⟩ := h2; exact ih j hj (by omega) hpj
    · exact ⟨i, hi, hp, fun j hj hpj => h2 ⟨j, hj, hpj⟩⟩
theorem atI_self {ts : List Rt} {k : Nat} (hk : k < ts.length) : atI ts (ts.getD k rt0).1 (ts.getD k rt0).2.1 = (k : Int) ↔ ∀ i, i < k → ¬ Same (ts.getD i rt0) (ts.getD k rt0) := by
  constructor
  · intro h i hi hs
    obtain ⟨j, hj, hpj, hnj⟩ := first_of (p := fun i => (ts.getD i rt0).1 = (ts.getD k rt0).1 ∧ (ts.getD i rt0).2.1 = (ts.getD k rt0).2.1) k ⟨i, hi, hs⟩
    rw [atI_some (by omega) hnj hpj] at h; omega
  · intro h; exact atI_some hk h ⟨rfl, rfl⟩
theorem atI_range {ts : List Rt} {a b : ByteArray} : atI ts a b = -1 ∨ (0 ≤ atI ts a b ∧ atI ts a b < ts.length ∧ (ts.getD (atI ts a b).toNat rt0).1 = a ∧ (ts.getD (atI ts a b).toNat rt0).2.1 = b) := by
  by_cases h : ∃ i, i < ts.length ∧ ((ts.getD i rt0).1 = a ∧ (ts.getD i rt0).2.1 = b)
  · obtain ⟨j, hj, hpj, hnj⟩ := first_of (p := fun i => (ts.getD i rt0).1 = a ∧ (ts.getD i rt0).2.1 = b) ts.length h
    rw [atI_some hj hnj hpj]
    exact .inr ⟨by omega, by omega, by simpa using hpj.1, by simpa using hpj.2⟩
  · exact .inl (atI_none fun i hi hp => h ⟨i, hi, hp⟩)
theorem upto_next {ts : List Rt} {a b : ByteArray} {k : Nat} (hn : ∀ i, i < k → ¬ ((ts.getD i rt0).1 = a ∧ (ts.getD i rt0).2.1 = b)) (h : ¬ ((ts.getD k rt0).1 = a ∧ (ts.getD k rt0).2.1 = b)) : ∀ i, i < k + 1 → ¬ ((ts.getD i rt0).1 = a ∧ (ts.getD i rt0).2.1 = b) := fun i hi => by
  by_cases e : i = k
  · subst e; exact h
  · exact hn i (by omega)
/-- the listed rate -/
def lst (ts : List Rt) (a b : ByteArray) : Bool × List Int × Int × Bool := if 0 ≤ atI ts a b then ((ts.getD (atI ts a b).toNat rt0).2.2.1, (ts.getD (atI ts a b).toNat rt0).2.2.2.1, (ts.getD (atI ts a b).toNat rt0).2.2.2.2, true) else (false, [], 0, false)
theorem lst_some {ts : List Rt} {a b : ByteArray} {k : Nat} (hk : k < ts.length) (hn : ∀ i, i < k → ¬ ((ts.getD i rt0).1 = a ∧ (ts.getD i rt0).2.1 = b)) (hp : (ts.getD k rt0).1 = a ∧ (ts.getD k rt0).2.1 = b) : lst ts a b = ((ts.getD k rt0).2.2.1, (ts.getD k rt0).2.2.2.1, (ts.getD k rt0).2.2.2.2, true) := by
  unfold lst; rw [atI_some hk hn hp, if_pos (by omega), Int.toNat_natCast]
theorem lst_none {ts : List Rt} {a b : ByteArray} (hn : ∀ i, i < ts.length → ¬ ((ts.getD i rt0).1 = a ∧ (ts.getD i rt0).2.1 = b)) : lst ts a b = (false, [], 0, false) := by
  unfold lst; rw [atI_none hn, if_neg (by omega)]
theorem lst_bool {ts : List Rt} {a b : ByteArray} : (lst ts a b).2.2.2 = decide (0 ≤ atI ts a b) := by
  unfold lst; split
  · rename_i h; simp [h]
  · rename_i h; simp [h]
def leg (ts : List Rt) (a b : ByteArray) : Int := if 0 ≤ atI ts a b then 2 else if 0 ≤ atI ts b a then 3 else 0
def how (pv : ByteArray) (ts : List Rt) (a b : ByteArray) : Int :=
  if RsOk pv ts ∧ Known a ∧ Known b then if a = b then 1 else if leg ts a b ≠ 0 then leg ts a b else if a ≠ pv ∧ b ≠ pv ∧ leg ts a pv ≠ 0 ∧ leg ts pv b ≠ 0 then 4 else 0 else 0
theorem rsok_no_rate {pv : ByteArray} {ts : List Rt} {k : Nat} (hk : k < ts.length) (h : ¬ RPr (ts.getD k rt0)) : ¬ RsOk pv ts := fun h' => h (h'.2.2.1 k hk)
theorem rsok_no_key {pv : ByteArray} {ts : List Rt} {k : Nat} (hk : k < ts.length) (h : ¬ ∀ i, i < k → ¬ Same (ts.getD i rt0) (ts.getD k rt0)) : ¬ RsOk pv ts := fun h' => h (h'.2.2.2 k hk)
end Go.Proofs.YtlnemcbdbehehaaDoor
namespace Go.Proofs.YtlnemcbdbehehaaDoor
open Go Go.RowKit
theorem lst_ok {ts : List Rt} {a b : ByteArray} : (lst ts a b).2.2.2 = true ↔ 0 ≤ atI ts a b := by rw [lst_bool]; simp
theorem leg_2 {ts : List Rt} {a b : ByteArray} (h : (lst ts a b).2.2.2 = true) : 2 = leg ts a b := by unfold leg; rw [if_pos (lst_ok.1 h)]
theorem leg_3 {ts : List Rt} {a b : ByteArray} (h : (lst ts a b).2.2.2 = false) (h2 : (lst ts b a).2.2.2 = true) : 3 = leg ts a b := by
  unfold leg; rw [if_neg (fun h' => by rw [lst_ok.2 h'] at h; cases h), if_pos (lst_ok.1 h2)]
theorem leg_0 {ts : List Rt} {a b : ByteArray} (h : (lst ts a b).2.2.2 = false) (h2 : (lst ts b a).2.2.2 = false) : 0 = leg ts a b := by
  unfold leg; rw [if_neg (fun h' => by rw [lst_ok.2 h'] at h; cases h), if_neg (fun h' => by rw [lst_ok.2 h'] at h2; cases h2)]
theorem lst_len {ts : List Rt} {a b : ByteArray} {m : Nat} (h : ∀ i, i < ts.length → (ts.getD i rt0).2.2.2.1.length ≤ m) : (lst ts a b).2.1.length ≤ m := by
  unfold lst; split
  · rename_i h0
    rcases atI_range (ts := ts) (a := a) (b := b) with h1 | h1
    · omega
    · exact h _ (by omega)
  · simp
/-! copies -/
theorem rt_put {xs cs : List Value} {ts : List Rt} {us : List Value} {k : Nat} {v : Value} (hk : k < ts.length) (hu : us.length = k) (hl : k * 5 + 5 ≤ xs.length) (hx : xs.take (k * 5) = rtCells (ts.take k) us) (hc : cs = rtc (ts.getD k rt0) v) :
    (xs.take (k * 5) ++ cs ++ xs.drop (k * 5 + 5)).take ((k + 1) * 5) = rtCells (ts.take (k + 1)) (us ++ [v]) := by
  subst hc
  have e : (xs.take (k * 5) ++ rtc (ts.getD k rt0) v).length = (k + 1) * 5 := by rw [List.length_append, List.length_take]; simp only [List.length_cons, List.length_nil]; omega
  rw [List.take_append_of_le_length (by omega), List.take_of_length_le (by omega), hx, take_snoc hk, rtCells_snoc (by rw [hu, List.length_take]; omega)]
theorem rt_copied {w : World} {lo hi lo' : Nat} {v : Value} {e : TypeId} {ts : List Rt} {us xs : List Value} (hO : Own w lo hi v e ts.length 5 xs) (hu : us.length = ts.length) (hx : xs.take (ts.length * 5) = rtCells (ts.take ts.length) us)
    (hn : ∀ i, i < ts.length → Sl w lo' w.heap.size (us.getD i vz) (ts.getD i rt0).2.2.2.1) (h1 : hi ≤ w.heap.size) {lo2 : Nat} (h2 : lo2 ≤ lo) (h3 : lo2 ≤ lo') : RtS w lo2 w.heap.size v ts us := by
  rw [List.take_length, List.take_of_length_le (by rw [hO.1]; exact Nat.le_refl _)] at hx
  subst hx
  exact ⟨hu, hO.sv.mono h2 h1, fun i hi => (hn i hi).mono h3 (Nat.le_refl _)⟩
theorem nest_next {w w' : World} {lo hi l : Nat} {ts : List Rt} {us : List Value} {k : Nat} {v : Value} (hu : us.length = k) (h : ∀ i, i < k → Sl w l w.heap.size (us.getD i vz) (ts.getD i rt0).2.2.2.1) (hc : Chg lo hi w w') (ho : hi ≤ l)
    (hv : Sl w' l w'.heap.size v (ts.getD k rt0).2.2.2.1) : ∀ i, i < k + 1 → Sl w' l w'.heap.size ((us ++ [v]).getD i vz) (ts.getD i rt0).2.2.2.1 := fun i hi => by
  by_cases e : i = k
  · subst e; rw [getD_append_at hu.symm]; exact hv
  · rw [getD_append_left' (by omega)]; exact ((h i (by omega)).chg hc (.inr ho)).mono (Nat.le_refl _) hc.size
theorem rt_ne {ts us : List Rt} {k : Nat} (h : ¬ ((ts.getD k rt0).1 = (us.getD k rt0).1 ∧ (ts.getD k rt0).2.1 = (us.getD k rt0).2.1 ∧ (ts.getD k rt0).2.2.1 = (us.getD k rt0).2.2.1 ∧ (ts.getD k rt0).2.2.2.1 = (us.getD k rt0).2.2.2.1 ∧ (ts.getD k rt0).2.2.2.2 = (us.getD k rt0).2.2.2.2)) : ts ≠ us := fun e => h (by subst e; exact ⟨rfl, rfl, rfl, rfl, rfl⟩)
theorem rt_eq {r s : Rt} (h : r.1 = s.1 ∧ r.2.1 = s.2.1 ∧ r.2.2.1 = s.2.2.1 ∧ r.2.2.2.1 = s.2.2.2.1 ∧ r.2.2.2.2 = s.2.2.2.2) : r = s := Prod.ext h.1 (Prod.ext h.2.1 (Prod.ext h.2.2.1 (Prod.ext h.2.2.2.1 h.2.2.2.2)))
theorem len_ne_rt {ts us : List Rt} (h : ts.length ≠ us.length) : ts ≠ us := fun e => h (by rw [e])
theorem sz_next {ts : List Rt} {k : Nat} (h : ∀ i, i < k → (ts.getD i rt0).2.2.2.1.length ≤ 1048576) (hk : (ts.getD k rt0).2.2.2.1.length ≤ 1048576) : ∀ i, i < k + 1 → (ts.getD i rt0).2.2.2.1.length ≤ 1048576 := fun i hi => by
  by_cases e : i = k
  · subst e; exact hk
  · exact h i (by omega)
end Go.Proofs.YtlnemcbdbehehaaDoor
