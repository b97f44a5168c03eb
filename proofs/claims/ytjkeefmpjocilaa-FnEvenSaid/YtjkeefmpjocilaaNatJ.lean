/- Plain lemmas on numbers and lists; no program in sight. Conditions: none. -/
import Derived.Test.YtjkeefmpjocilaaNatI
import Derived.Test.YtjkeefmpjocilaaSxB
set_option linter.unusedVariables false
set_option linter.unusedSimpArgs false
namespace Go.Proofs.Ytjkeefmpjocilaa
open Go Go.RowKit
/-! ### lists of rates -/
abbrev RPr (r : Rt) : Prop := RateP r.1 r.2.1 r.2.2.1 r.2.2.2.1 r.2.2.2.2
abbrev Same (r s : Rt) : Prop := r.1 = s.1 ∧ r.2.1 = s.2.1
def AllTo (ts : List Rt) (k : Nat) : Prop := (∀ i, i < k → RPr (ts.getD i rt0)) ∧ ∀ j, j < k → ∀ i, i < j → ¬ Same (ts.getD i rt0) (ts.getD j rt0)
instance (ts : List Rt) (k : Nat) : Decidable (AllTo ts k) := by unfold AllTo; infer_instance
theorem AllTo_zero (ts : List Rt) : AllTo ts 0 := ⟨fun _ h => by omega, fun _ h => by omega⟩
theorem AllTo_succ {ts : List Rt} {k : Nat} (h : AllTo ts k) (h1 : RPr (ts.getD k rt0)) (h2 : ∀ i, i < k → ¬ Same (ts.getD i rt0) (ts.getD k rt0)) : AllTo ts (k + 1) := by
  refine ⟨fun i hi => ?_, fun j hj i hi => ?_⟩
  · by_cases e : i = k
    · subst e; exact h1
    · exact h.1 i (by omega)
  · by_cases e : j = k
    · subst e; exact h2 i hi
    · exact h.2 j (by omega) i hi
def RsOk (pv : ByteArray) (ts : List Rt) : Prop := Known pv ∧ ts.length ≤ 12 ∧ AllTo ts ts.length
instance (pv : ByteArray) (ts : List Rt) : Decidable (RsOk pv ts) := by unfold RsOk; infer_instance
def keysTo (ts : List Rt) (k : Nat) : List (ByteArray × ByteArray) := (ts.take k).map fun r => (r.1, r.2.1)
theorem keysTo_succ {ts : List Rt} {k : Nat} (h : k < ts.length) : keysTo ts (k + 1) = keysTo ts k ++ [((ts.getD k rt0).1, (ts.getD k rt0).2.1)] := by
  unfold keysTo; rw [take_snoc h, List.map_append]; rfl
theorem mem_keysTo {ts : List Rt} {k : Nat} (h : k ≤ ts.length) {r : Rt} : (r.1, r.2.1) ∈ keysTo ts k ↔ ∃ i, i < k ∧ Same (ts.getD i rt0) r := by
  unfold keysTo
  rw [List.mem_map]
  constructor
  · rintro ⟨x, hx, he⟩
    obtain ⟨i, hi, rfl⟩ := List.getElem_of_mem hx
    have hik : i < k := by rw [List.length_take] at hi; omega
    refine ⟨i, hik, ?_⟩
    have e : ts.getD i rt0 = (ts.take k)[i] := by simp [List.getElem?_eq_getElem (show i < ts.length by omega)]
    rw [e]
    exact ⟨congrArg (·.1) he, congrArg (·.2) he⟩
  · rintro ⟨i, hi, h1, h2⟩
    refine ⟨ts.getD i rt0, ?_, Prod.ext h1 h2⟩
    have e : ts.getD i rt0 = (ts.take k)[i]'(by rw [List.length_take]; omega) := by simp [List.getElem?_eq_getElem (show i < ts.length by omega)]
    rw [e]; exact List.getElem_mem _
/-- the first place of a pair -/
def atI (ts : List Rt) (a b : ByteArray) : Int := match ts.findIdx? (fun r => decide (r.1 = a ∧ r.2.1 = b)) with
  | some i => (i : Int)
  | none => -1
theorem findIdx_some {ts : List Rt} {p : Rt → Bool} {k : Nat} (hk : k < ts.length) (hn : ∀ i, i < k → p (ts.getD i rt0) = false) (hp : p (ts.getD k rt0) = true) : ts.findIdx? p = some k := by
  rw [List.findIdx?_eq_some_iff_getElem]
  have e : ∀ i (h : i < ts.length), ts.getD i rt0 = ts[i] := fun i h => by simp [List.getElem?_eq_getElem h]
  refine ⟨hk, by rw [← e]; exact hp, fun j hj => ?_⟩
  have := hn j hj
  rw [e j (by omega)] at this
  simp [this]
theorem findIdx_none {ts : List Rt} {p : Rt → Bool} (hn : ∀ i, i < ts.length → p (ts.getD i rt0) = false) : ts.findIdx? p = none := by
  rw [List.findIdx?_eq_none_iff]
  intro x hx
  obtain ⟨i, hi, rfl⟩ := List.getElem_of_mem hx
  have := hn i hi
  simpa [List.getElem?_eq_getElem hi] using this
theorem atI_some {ts : List Rt} {a b : ByteArray} {k : Nat} (hk : k < ts.length) (hn : ∀ i, i < k → ¬ ((ts.getD i rt0).1 = a ∧ (ts.getD i rt0).2.1 = b)) (hp : (ts.getD k rt0).1 = a ∧ (ts.getD k rt0).2.1 = b) : atI ts a b = (k : Int) := by
  unfold atI; rw [findIdx_some hk (fun i hi => decide_eq_false (hn i hi)) (decide_eq_true hp)]
theorem atI_none {ts : List Rt} {a b : ByteArray} (hn : ∀ i, i < ts.length → ¬ ((ts.getD i rt0).1 = a ∧ (ts.getD i rt0).2.1 = b)) : atI ts a b = -1 := by
  unfold atI; rw [findIdx_none fun i hi => decide_eq_false (hn i hi)]
theorem first_of {p : Nat → Prop} [DecidablePred p] : ∀ k, (∃ i, i < k ∧ p i) → ∃ i, i < k ∧ p i ∧ ∀ j, j < i → ¬ p j := by
  intro k h
  obtain ⟨i, hi, hp⟩ := h
  induction i using Nat.strongRecOn with
  | _ i ih =>
    by_cases h2 : ∃ j, j < i ∧ p j
    · obtain ⟨j, hj, hpj⟩ := h2; exact ih j hj (by omega) hpj
    · exact ⟨i, hi, hp, fun j hj hpj => h2 ⟨j, hj, hpj⟩⟩
theorem atI_self {ts : List Rt} {k : Nat} (hk : k < ts.length) : atI ts (ts.getD k rt0).1 (ts.getD k rt0).2.1 = (k : Int) ↔ ∀ i, i < k → ¬ Same (ts.getD i rt0) (ts.getD k rt0) := by
  constructor
  · intro h i hi hs
    obtain ⟨j, hj, hpj, hnj⟩ := first_of (p := fun i => (ts.getD i rt0).1 = (ts.getD k rt0).1 ∧ (ts.getD i rt0).2.1 = (ts.getD k rt0).2.1) k ⟨i, hi, hs⟩
    rw [atI_some (by omega) hnj hpj] at h; omega
  · intro h; exact atI_some hk h ⟨rfl, rfl⟩
theorem atI_range {ts : List Rt} {a b : ByteArray} : atI ts a b = -1 ∨ (0 ≤ atI ts a b ∧ atI ts a b < ts.length ∧ (ts.getD (atI ts a b).toNat rt0).1 = a ∧ (ts.getD (atI ts a b).toNat rt0).2.1 = b) := by
  by_cases h : ∃ i, i < ts.length ∧ ((ts.getD i rt0).1 = a ∧ (ts.getD i rt0).2.1 = b)
  · obtain ⟨j, hj, hpj, hnj⟩ := first_of (p := fun i => (ts.getD i rt0).1 = a ∧ (ts.getD i rt0).2.1 = b) ts.length h
    rw [atI_some hj hnj hpj]
    exact .inr ⟨by omega, by omega, by simpa using hpj.1, by simpa using hpj.2⟩
  · exact .inl (atI_none fun i hi hp => h ⟨i, hi, hp⟩)
theorem upto_next {ts : List Rt} {a b : ByteArray} {k : Nat} (hn : ∀ i, i < k → ¬ ((ts.getD i rt0).1 = a ∧ (ts.getD i rt0).2.1 = b)) (h : ¬ ((ts.getD k rt0).1 = a ∧ (ts.getD k rt0).2.1 = b)) : ∀ i, i < k + 1 → ¬ ((ts.getD i rt0).1 = a ∧ (ts.getD i rt0).2.1 = b) := fun i hi => by
  by_cases e : i = k
  · subst e; exact h
  · exact hn i (by omega)
/-- the listed rate -/
def lst (ts : List Rt) (a b : ByteArray) : Bool × List Int × Int × Bool := if 0 ≤ atI ts a b then ((ts.getD (atI ts a b).toNat rt0).2.2.1, (ts.getD (atI ts a b).toNat rt0).2.2.2.1, (ts.getD (atI ts a b).toNat rt0).2.2.2.2, true) else (false, [], 0, false)
theorem lst_some {ts : List Rt} {a b : ByteArray} {k : Nat} (hk : k < ts.length) (hn : ∀ i, i < k → ¬ ((ts.getD i rt0).1 = a ∧ (ts.getD i rt0).2.1 = b)) (hp : (ts.getD k rt0).1 = a ∧ (ts.getD k rt0).2.1 = b) : lst ts a b = ((ts.getD k rt0).2.2.1, (ts.getD k rt0).2.2.2.1, (ts.getD k rt0).2.2.2.2, true) := by
  unfold lst; rw [atI_some hk hn hp, if_pos (by omega), Int.toNat_natCast]
theorem lst_none {ts : List Rt} {a b : ByteArray} (hn : ∀ i, i < ts.length → ¬ ((ts.getD i rt0).1 = a ∧ (ts.getD i rt0).2.1 = b)) : lst ts a b = (false, [], 0, false) := by
  unfold lst; rw [atI_none hn, if_neg (by omega)]
theorem lst_bool {ts : List Rt} {a b : ByteArray} : (lst ts a b).2.2.2 = decide (0 ≤ atI ts a b) := by
  unfold lst; split
  · rename_i h; simp [h]
  · rename_i h; simp [h]
def leg (ts : List Rt) (a b : ByteArray) : Int := if 0 ≤ atI ts a b then 2 else if 0 ≤ atI ts b a then 3 else 0
def how (pv : ByteArray) (ts : List Rt) (a b : ByteArray) : Int :=
  if RsOk pv ts ∧ Known a ∧ Known b then if a = b then 1 else if leg ts a b ≠ 0 then leg ts a b else if a ≠ pv ∧ b ≠ pv ∧ leg ts a pv ≠ 0 ∧ leg ts pv b ≠ 0 then 4 else 0 else 0
theorem rsok_no_rate {pv : ByteArray} {ts : List Rt} {k : Nat} (hk : k < ts.length) (h : ¬ RPr (ts.getD k rt0)) : ¬ RsOk pv ts := fun h' => h (h'.2.2.1 k hk)
theorem rsok_no_key {pv : ByteArray} {ts : List Rt} {k : Nat} (hk : k < ts.length) (h : ¬ ∀ i, i < k → ¬ Same (ts.getD i rt0) (ts.getD k rt0)) : ¬ RsOk pv ts := fun h' => h (h'.2.2.2 k hk)
end Go.Proofs.Ytjkeefmpjocilaa
namespace Go.Proofs.Ytjkeefmpjocilaa
open Go Go.RowKit
theorem lst_ok {ts : List Rt} {a b : ByteArray} : (lst ts a b).2.2.2 = true ↔ 0 ≤ atI ts a b := by rw [lst_bool]; simp
theorem leg_2 {ts : List Rt} {a b : ByteArray} (h : (lst ts a b).2.2.2 = true) : 2 = leg ts a b := by unfold leg; rw [if_pos (lst_ok.1 h)]
theorem leg_3 {ts : List Rt} {a b : ByteArray} (h : (lst ts a b).2.2.2 = false) (h2 : (lst ts b a).2.2.2 = true) : 3 = leg ts a b := by
  unfold leg; rw [if_neg (fun h' => by rw [lst_ok.2 h'] at h; cases h), if_pos (lst_ok.1 h2)]
theorem leg_0 {ts : List Rt} {a b : ByteArray} (h : (lst ts a b).2.2.2 = false) (h2 : (lst ts b a).2.2.2 = false) : 0 = leg ts a b := by
  unfold leg; rw [if_neg (fun h' => by rw [lst_ok.2 h'] at h; cases h), if_neg (fun h' => by rw [lst_ok.2 h'] at h2; cases h2)]
theorem lst_len {ts : List Rt} {a b : ByteArray} {m : Nat} (h : ∀ i, i < ts.length → (ts.getD i rt0).2.2.2.1.length ≤ m) : (lst ts a b).2.1.length ≤ m := by
  unfold lst; split
  · rename_i h0
    rcases atI_range (ts := ts) (a := a) (b := b) with h1 | h1
    · omega
    · exact h _ (by omega)
  · simp
/-! copies -/
theorem rt_put {xs cs : List Value} {ts : List Rt} {us : List Value} {k : Nat} {v : Value} (hk : k < ts.length) (hu : us.length = k) (hl : k * 5 + 5 ≤ xs.length) (hx : xs.take (k * 5) = rtCells (ts.take k) us) (hc : cs = rtc (ts.getD k rt0) v) :
    (xs.take (k * 5) ++ cs ++ xs.drop (k * 5 + 5)).take ((k + 1) * 5) = rtCells (ts.take (k + 1)) (us ++ [v]) := by
  subst hc
  have e : (xs.take (k * 5) ++ rtc (ts.getD k rt0) v).length = (k + 1) * 5 := by rw [List.length_append, List.length_take]; simp only [List.length_cons, List.length_nil]; omega
  rw [List.take_append_of_le_length (by omega), List.take_of_length_le (by omega), hx, take_snoc hk, rtCells_snoc (by rw [hu, List.length_take]; omega)]
theorem rt_copied {w : World} {lo hi lo' : Nat} {v : Value} {e : TypeId} {ts : List Rt} {us xs : List Value} (hO : Own w lo hi v e ts.length 5 xs) (hu : us.length = ts.length) (hx : xs.take (ts.length * 5) = rtCells (ts.take ts.length) us)
    (hn : ∀ i, i < ts.length → Sl w lo' w.heap.size (us.getD i vz) (ts.getD i rt0).2.2.2.1) (h1 : hi ≤ w.heap.size) {lo2 : Nat} (h2 : lo2 ≤ lo) (h3 : lo2 ≤ lo') : RtS w lo2 w.heap.size v ts us := by
  rw [List.take_length, List.take_of_length_le (by rw [hO.1]; exact Nat.le_refl _)] at hx
  subst hx
  exact ⟨hu, hO.sv.mono h2 h1, fun i hi => (hn i hi).mono h3 (Nat.le_refl _)⟩
theorem nest_next {w w' : World} {lo hi l : Nat} {ts : List Rt} {us : List Value} {k : Nat} {v : Value} (hu : us.length = k) (h : ∀ i, i < k → Sl w l w.heap.size (us.getD i vz) (ts.getD i rt0).2.2.2.1) (hc : Chg lo hi w w') (ho : hi ≤ l)
    (hv : Sl w' l w'.heap.size v (ts.getD k rt0).2.2.2.1) : ∀ i, i < k + 1 → Sl w' l w'.heap.size ((us ++ [v]).getD i vz) (ts.getD i rt0).2.2.2.1 := fun i hi => by
  by_cases e : i = k
  · subst e; rw [getD_append_at hu.symm]; exact hv
  · rw [getD_append_left' (by omega)]; exact ((h i (by omega)).chg hc (.inr ho)).mono (Nat.le_refl _) hc.size
theorem rt_ne {ts us : List Rt} {k : Nat} (h : ¬ ((ts.getD k rt0).1 = (us.getD k rt0).1 ∧ (ts.getD k rt0).2.1 = (us.getD k rt0).2.1 ∧ (ts.getD k rt0).2.2.1 = (us.getD k rt0).2.2.1 ∧ (ts.getD k rt0).2.2.2.1 = (us.getD k rt0).2.2.2.1 ∧ (ts.getD k rt0).2.2.2.2 = (us.getD k rt0).2.2.2.2)) : ts ≠ us := fun e => h (by subst e; exact ⟨rfl, rfl, rfl, rfl, rfl⟩)
theorem rt_eq {r s : Rt} (h : r.1 = s.1 ∧ r.2.1 = s.2.1 ∧ r.2.2.1 = s.2.2.1 ∧ r.2.2.2.1 = s.2.2.2.1 ∧ r.2.2.2.2 = s.2.2.2.2) : r = s := Prod.ext h.1 (Prod.ext h.2.1 (Prod.ext h.2.2.1 (Prod.ext h.2.2.2.1 h.2.2.2.2)))
theorem len_ne_rt {ts us : List Rt} (h : ts.length ≠ us.length) : ts ≠ us := fun e => h (by rw [e])
theorem sz_next {ts : List Rt} {k : Nat} (h : ∀ i, i < k → (ts.getD i rt0).2.2.2.1.length ≤ 1048576) (hk : (ts.getD k rt0).2.2.2.1.length ≤ 1048576) : ∀ i, i < k + 1 → (ts.getD i rt0).2.2.2.1.length ≤ 1048576 := fun i hi => by
  by_cases e : i = k
  · subst e; exact hk
  · exact h i (by omega)
end Go.Proofs.Ytjkeefmpjocilaa

namespace Go.Proofs.Ytjkeefmpjocilaa
open Go Go.RowKit
abbrev dR (q : Bool × List Int × Int × Bool) : Bool × List Int × List Int × Bool := dRat q.1 q.2.1 q.2.2.1
def oneR : Bool × List Int × List Int × Bool := (false, [1], [1], true)
theorem ng_1 : ng (1 : Int) = false := ng_false.2 (by decide)
theorem dg_i1 : dg (1 : Int).natAbs = [1] := dg_1
theorem rInt_one : rInt (ng 1) (dg (1 : Int).natAbs) = oneR := by
  rw [rInt_ok (by rw [dg_i1]; simp), ng_1, dg_i1]; rfl
theorem ROk_one : ROk (ng 1) (dg (1 : Int).natAbs) (dg 1) := ROk_iff.2 ⟨by decide, by rw [dg_i1]; simp, by rw [dg_1]; simp, rfl⟩
theorem dRat_one : dRat (ng 1) (dg (1 : Int).natAbs) 0 = oneR := by
  rw [dRat_ok (DOk_iff.2 ⟨by rw [dg_i1]; simp, by decide, by decide⟩), sgI_ng]
  show rR 1 1 = oneR
  rw [rR_same ROk_one, ng_1, dg_i1, dg_1]; rfl
def Pos (r : Bool × List Int × List Int × Bool) : Prop := ∃ (x : Int) (e : Nat), r = (ng x, dg x.natAbs, dg e, true) ∧ ROk (ng x) (dg x.natAbs) (dg e) ∧ 0 < x ∧ (dg x.natAbs).length ≤ 4 ∧ (dg e).length ≤ 4
theorem Pos_one : Pos oneR := ⟨1, 1, by rw [ng_1, dg_i1, dg_1]; rfl, ROk_one, by decide, by rw [dg_i1]; simp, by rw [dg_1]; simp⟩
theorem Pos.ok {r : Bool × List Int × List Int × Bool} (h : Pos r) : r.2.2.2 = true := by obtain ⟨x, e, rfl, _⟩ := h; rfl
theorem Pos.rok {r : Bool × List Int × List Int × Bool} (h : Pos r) : ROk r.1 r.2.1 r.2.2.1 := by obtain ⟨x, e, rfl, h, _⟩ := h; exact h
theorem Pos.len {r : Bool × List Int × List Int × Bool} (h : Pos r) : r.2.1.length ≤ 18 ∧ r.2.2.1.length ≤ 18 := by obtain ⟨x, e, rfl, _, _, h1, h2⟩ := h; exact ⟨by show (dg x.natAbs).length ≤ 18; omega, by show (dg e).length ≤ 18; omega⟩
theorem lowN_pos {x : Int} {d : Nat} (hx : 0 < x) (hd : 0 < d) : 0 < lowN x d := by
  have h1 := lowN_ng x hd
  have h2 := ng_false.2 (Int.le_of_lt hx)
  have h3 : 0 ≤ lowN x d := ng_false.1 (h1.trans h2)
  have h4 := (low_mul x d).1
  rcases Int.lt_or_eq_of_le h3 with h5 | h5
  · exact h5
  · rw [← h5] at h4; simp at h4; omega
theorem Pos_rR {x : Int} {d : Nat} (hx : 0 < x) (hd : 0 < d) (h1 : (dg x.natAbs).length ≤ 4) (h2 : (dg d).length ≤ 4) : Pos (rR x d) := by
  have h3 : (dg (lowN x d).natAbs).length ≤ 4 := by rw [lowN_abs]; exact Nat.le_trans (len_div _ _) h1
  have h4 : (dg (lowD x d)).length ≤ 4 := Nat.le_trans (len_div _ _) h2
  refine ⟨lowN x d, lowD x d, ?_, low_ok hd (by omega) (by omega), lowN_pos hx hd, h3, h4⟩
  unfold rR; rw [if_pos ⟨hd, by omega, by omega⟩]
theorem Pos_rate {f t : ByteArray} {n : Bool} {z : List Int} {p : Int} (h : RateP f t n z p) : Pos (dRat n z p) := by
  obtain ⟨_, _, _, hD, hp, hl⟩ := h
  obtain ⟨x, rfl, rfl, h1, h2, h3⟩ := hD.int
  rw [vI_ng] at hp
  rw [dRat_ok hD, sgI_ng]
  exact Pos_rR hp (Nat.pow_pos (by decide)) (by omega) (ten_len' h3)
theorem Pos_inv {r : Bool × List Int × List Int × Bool} (h : Pos r) : Pos (rDiv oneR.1 oneR.2.1 oneR.2.2.1 r.1 r.2.1 r.2.2.1) := by
  obtain ⟨x, e, rfl, hR, hx, h1, h2⟩ := h
  have he := (ROk_iff.1 hR).1
  have e1 : rDiv oneR.1 oneR.2.1 oneR.2.2.1 (ng x) (dg x.natAbs) (dg e) = rR (sgI (ng 1 != ng x) ((1 : Int).natAbs * e)) (1 * x.natAbs) := by
    have := rDiv_ok (x1 := 1) (e1 := 1) ROk_one hR
    rw [ng_1, dg_i1, dg_1] at this
    rw [ng_1]; exact this
  show Pos (rDiv oneR.1 oneR.2.1 oneR.2.2.1 (ng x) (dg x.natAbs) (dg e))
  rw [e1, ng_1, ng_false.2 (Int.le_of_lt hx)]
  have e2 : sgI (false != false) ((1 : Int).natAbs * e) = (e : Int) := by
    show sgI false (1 * e) = _
    rw [Nat.one_mul]; rfl
  rw [e2, Nat.one_mul]
  exact Pos_rR (by omega) (by omega) (by rw [Int.natAbs_natCast]; exact h2) h1
def stp (ts : List Rt) (a b : ByteArray) : Bool × List Int × List Int × Bool :=
  if 0 ≤ atI ts a b then dR (lst ts a b) else rDiv oneR.1 oneR.2.1 oneR.2.2.1 (dR (lst ts b a)).1 (dR (lst ts b a)).2.1 (dR (lst ts b a)).2.2.1
theorem Pos_lst {ts : List Rt} {a b : ByteArray} (h : AllTo ts ts.length) (ha : 0 ≤ atI ts a b) : Pos (dR (lst ts a b)) := by
  rcases atI_range (ts := ts) (a := a) (b := b) with h1 | h1
  · omega
  · have := h.1 (atI ts a b).toNat (by omega)
    show Pos (dRat (lst ts a b).1 (lst ts a b).2.1 (lst ts a b).2.2.1)
    unfold lst; rw [if_pos ha]
    exact Pos_rate this
theorem Pos_stp {ts : List Rt} {a b : ByteArray} (h : AllTo ts ts.length) (hl : leg ts a b ≠ 0) : Pos (stp ts a b) := by
  unfold stp
  split
  · rename_i h1; exact Pos_lst h h1
  · rename_i h1
    have h2 : 0 ≤ atI ts b a := by
      unfold leg at hl; rw [if_neg h1] at hl
      split at hl
      · assumption
      · exact absurd rfl hl
    exact Pos_inv (Pos_lst h h2)
def rOf (pv : ByteArray) (ts : List Rt) (a b : ByteArray) : Bool × List Int × List Int × Bool :=
  if how pv ts a b = 1 then oneR else if how pv ts a b = 2 ∨ how pv ts a b = 3 then stp ts a b
  else if how pv ts a b = 4 then rMul (stp ts a pv).1 (stp ts a pv).2.1 (stp ts a pv).2.2.1 (stp ts pv b).1 (stp ts pv b).2.1 (stp ts pv b).2.2.1 else noR
theorem leg_cases (ts : List Rt) (a b : ByteArray) : leg ts a b = 0 ∨ leg ts a b = 2 ∨ leg ts a b = 3 := by
  unfold leg; split
  · exact .inr (.inl rfl)
  · split
    · exact .inr (.inr rfl)
    · exact .inl rfl
theorem how_ok {pv : ByteArray} {ts : List Rt} {a b : ByteArray} (h : how pv ts a b ≠ 0) : RsOk pv ts ∧ Known a ∧ Known b := by
  unfold how at h; split at h
  · assumption
  · exact absurd rfl h
theorem how_2 {pv : ByteArray} {ts : List Rt} {a b : ByteArray} (h : how pv ts a b = 2) : leg ts a b = 2 ∧ 0 ≤ atI ts a b := by
  have hk := how_ok (show how pv ts a b ≠ 0 by omega)
  unfold how at h; rw [if_pos hk] at h
  have h1 : leg ts a b = 2 := by
    split at h
    · omega
    · split at h
      · exact h
      · split at h <;> omega
  refine ⟨h1, ?_⟩
  unfold leg at h1; split at h1
  · assumption
  · split at h1 <;> omega
theorem how_3 {pv : ByteArray} {ts : List Rt} {a b : ByteArray} (h : how pv ts a b = 3) : leg ts a b = 3 ∧ ¬ 0 ≤ atI ts a b ∧ 0 ≤ atI ts b a := by
  have hk := how_ok (show how pv ts a b ≠ 0 by omega)
  unfold how at h; rw [if_pos hk] at h
  have h1 : leg ts a b = 3 := by
    split at h
    · omega
    · split at h
      · exact h
      · split at h <;> omega
  refine ⟨h1, ?_⟩
  unfold leg at h1; split at h1
  · omega
  · rename_i h2
    split at h1
    · rename_i h3; exact ⟨h2, h3⟩
    · omega
theorem how_4 {pv : ByteArray} {ts : List Rt} {a b : ByteArray} (h : how pv ts a b = 4) : a ≠ pv ∧ b ≠ pv ∧ leg ts a pv ≠ 0 ∧ leg ts pv b ≠ 0 := by
  have hk := how_ok (show how pv ts a b ≠ 0 by omega)
  unfold how at h; rw [if_pos hk] at h
  have hl := leg_cases ts a b
  split at h
  · omega
  · split at h
    · omega
    · split at h
      · assumption
      · omega
theorem how_leg {pv : ByteArray} {ts : List Rt} {a b : ByteArray} (hk : RsOk pv ts ∧ Known a ∧ Known b) (hab : a ≠ b) (hl : leg ts a b ≠ 0) : how pv ts a b = leg ts a b := by
  unfold how; rw [if_pos hk, if_neg hab, if_pos hl]
theorem rOf_leg {pv : ByteArray} {ts : List Rt} {a b : ByteArray} (hk : RsOk pv ts ∧ Known a ∧ Known b) (hab : a ≠ b) (hl : leg ts a b ≠ 0) : rOf pv ts a b = stp ts a b := by
  have h1 := how_leg hk hab hl
  have h2 := leg_cases ts a b
  unfold rOf; rw [h1, if_neg (by omega), if_pos (by omega)]
theorem rOf_1 {pv : ByteArray} {ts : List Rt} {a b : ByteArray} (h : how pv ts a b = 1) : rOf pv ts a b = rInt (ng 1) (dg (1 : Int).natAbs) := by unfold rOf; rw [if_pos h, rInt_one]
theorem rOf_2 {pv : ByteArray} {ts : List Rt} {a b : ByteArray} (h : how pv ts a b = 2) : rOf pv ts a b = dRat (lst ts a b).1 (lst ts a b).2.1 (lst ts a b).2.2.1 := by
  unfold rOf; rw [if_neg (by omega), if_pos (.inl h)]; unfold stp; rw [if_pos (how_2 h).2]
theorem rOf_3 {pv : ByteArray} {ts : List Rt} {a b : ByteArray} (h : how pv ts a b = 3) : rOf pv ts a b = rDiv (dRat (ng 1) (dg (1 : Int).natAbs) 0).1 (dRat (ng 1) (dg (1 : Int).natAbs) 0).2.1 (dRat (ng 1) (dg (1 : Int).natAbs) 0).2.2.1 (dRat (lst ts b a).1 (lst ts b a).2.1 (lst ts b a).2.2.1).1 (dRat (lst ts b a).1 (lst ts b a).2.1 (lst ts b a).2.2.1).2.1 (dRat (lst ts b a).1 (lst ts b a).2.1 (lst ts b a).2.2.1).2.2.1 := by
  unfold rOf; rw [if_neg (by omega), if_pos (.inr h), dRat_one]; unfold stp; rw [if_neg (how_3 h).2.1]
theorem rOf_23 {pv : ByteArray} {ts : List Rt} {a b : ByteArray} (h : how pv ts a b = 2 ∨ how pv ts a b = 3) : rOf pv ts a b = stp ts a b ∧ Pos (stp ts a b) := by
  have hk := how_ok (show how pv ts a b ≠ 0 by omega)
  refine ⟨by unfold rOf; rw [if_neg (by omega), if_pos h], Pos_stp hk.1.2.2 ?_⟩
  rcases h with h | h
  · rw [(how_2 h).1]; decide
  · rw [(how_3 h).1]; decide
theorem rOf_4 {pv : ByteArray} {ts : List Rt} {a b : ByteArray} (h : how pv ts a b = 4) : rOf pv ts a pv = stp ts a pv ∧ Pos (stp ts a pv) ∧ rOf pv ts pv b = stp ts pv b ∧ Pos (stp ts pv b) ∧ how pv ts a pv ≠ 4 ∧ how pv ts pv b ≠ 4 ∧
    rOf pv ts a b = rMul (stp ts a pv).1 (stp ts a pv).2.1 (stp ts a pv).2.2.1 (stp ts pv b).1 (stp ts pv b).2.1 (stp ts pv b).2.2.1 := by
  have hk := how_ok (show how pv ts a b ≠ 0 by omega)
  obtain ⟨h1, h2, h3, h4⟩ := how_4 h
  have k1 : RsOk pv ts ∧ Known a ∧ Known pv := ⟨hk.1, hk.2.1, hk.1.1⟩
  have k2 : RsOk pv ts ∧ Known pv ∧ Known b := ⟨hk.1, hk.1.1, hk.2.2⟩
  have l1 := leg_cases ts a pv
  have l2 := leg_cases ts pv b
  refine ⟨rOf_leg k1 h1 h3, Pos_stp hk.1.2.2 h3, rOf_leg k2 (fun e => h2 e.symm) h4, Pos_stp hk.1.2.2 h4, ?_, ?_, ?_⟩
  · rw [how_leg k1 h1 h3]; omega
  · rw [how_leg k2 (fun e => h2 e.symm) h4]; omega
  · unfold rOf; rw [if_neg (by omega), if_neg (by omega), if_pos h]
theorem how_range (pv : ByteArray) (ts : List Rt) (a b : ByteArray) : how pv ts a b = 0 ∨ how pv ts a b = 1 ∨ how pv ts a b = 2 ∨ how pv ts a b = 3 ∨ how pv ts a b = 4 := by
  unfold how
  have h := leg_cases ts a b
  repeat (first | omega | split)
theorem rOf_0 {pv : ByteArray} {ts : List Rt} {a b : ByteArray} (h : ¬ how pv ts a b = 1) (h2 : ¬ how pv ts a b = 2) (h3 : ¬ how pv ts a b = 3) (h4 : ¬ how pv ts a b = 4) : rOf pv ts a b = noR := by
  unfold rOf; rw [if_neg h, if_neg (by omega), if_neg h4]
theorem stp_len {ts : List Rt} {a b : ByteArray} : (stp ts a b).2.1.length ≤ 18 ∧ (stp ts a b).2.2.1.length ≤ 18 := by
  unfold stp; split
  · exact dRat_len
  · exact rDiv_len
theorem rOf_len {pv : ByteArray} {ts : List Rt} {a b : ByteArray} : (rOf pv ts a b).2.1.length ≤ 18 ∧ (rOf pv ts a b).2.2.1.length ≤ 18 := by
  unfold rOf; split
  · exact ⟨by simp [oneR], by simp [oneR]⟩
  · split
    · exact stp_len
    · split
      · exact rMul_len
      · exact ⟨by simp [noR], by simp [noR]⟩
theorem rMul_ROk {n1 n2 : Bool} {z1 y1 z2 y2 : List Int} (h : (rMul n1 z1 y1 n2 z2 y2).2.2.2 = true) : ROk (rMul n1 z1 y1 n2 z2 y2).1 (rMul n1 z1 y1 n2 z2 y2).2.1 (rMul n1 z1 y1 n2 z2 y2).2.2.1 := by
  unfold rMul at h ⊢; split
  · rename_i h'; rw [if_pos h'] at h; exact rR_ROk h
  · rename_i h'; rw [if_neg h'] at h; cases h
theorem rOf_ROk {pv : ByteArray} {ts : List Rt} {a b : ByteArray} (h : (rOf pv ts a b).2.2.2 = true) : ROk (rOf pv ts a b).1 (rOf pv ts a b).2.1 (rOf pv ts a b).2.2.1 := by
  rcases how_range pv ts a b with h1 | h1 | h1 | h1 | h1
  · rw [rOf_0 (by omega) (by omega) (by omega) (by omega)] at h; cases h
  · have := Pos_one.rok; rw [rOf_1 h1, rInt_one]; exact this
  · have := rOf_23 (.inl h1); rw [this.1]; exact this.2.rok
  · have := rOf_23 (.inr h1); rw [this.1]; exact this.2.rok
  · have e := (rOf_4 h1).2.2.2.2.2.2
    rw [e] at h ⊢
    exact rMul_ROk h
end Go.Proofs.Ytjkeefmpjocilaa
namespace Go.Proofs.Ytjkeefmpjocilaa
open Go Go.RowKit
theorem stp_2 {ts : List Rt} {a b : ByteArray} (h : 0 ≤ atI ts a b) : stp ts a b = dRat (ts.getD (atI ts a b).toNat rt0).2.2.1 (ts.getD (atI ts a b).toNat rt0).2.2.2.1 (ts.getD (atI ts a b).toNat rt0).2.2.2.2 := by
  unfold stp; rw [if_pos h]; unfold dR lst; rw [if_pos h]
theorem stp_3 {ts : List Rt} {a b : ByteArray} (h : ¬ 0 ≤ atI ts a b) (h2 : 0 ≤ atI ts b a) : stp ts a b = rDiv (rInt (ng 1) (dg (1 : Int).natAbs)).1 (rInt (ng 1) (dg (1 : Int).natAbs)).2.1 (rInt (ng 1) (dg (1 : Int).natAbs)).2.2.1
    (dRat (ts.getD (atI ts b a).toNat rt0).2.2.1 (ts.getD (atI ts b a).toNat rt0).2.2.2.1 (ts.getD (atI ts b a).toNat rt0).2.2.2.2).1 (dRat (ts.getD (atI ts b a).toNat rt0).2.2.1 (ts.getD (atI ts b a).toNat rt0).2.2.2.1 (ts.getD (atI ts b a).toNat rt0).2.2.2.2).2.1 (dRat (ts.getD (atI ts b a).toNat rt0).2.2.1 (ts.getD (atI ts b a).toNat rt0).2.2.2.1 (ts.getD (atI ts b a).toNat rt0).2.2.2.2).2.2.1 := by
  unfold stp; rw [if_neg h, rInt_one]; unfold dR lst; rw [if_pos h2]
theorem leg_at {ts : List Rt} {a b : ByteArray} (h : leg ts a b ≠ 0) : 0 ≤ atI ts a b ∨ 0 ≤ atI ts b a := by
  unfold leg at h; split at h
  · exact .inl ‹_›
  · split at h
    · exact .inr ‹_›
    · exact absurd rfl h
theorem leg_23 {pv : ByteArray} {ts : List Rt} {a b : ByteArray} (h : how pv ts a b = 2 ∨ how pv ts a b = 3) : leg ts a b ≠ 0 := by
  rcases h with h | h
  · rw [(how_2 h).1]; decide
  · rw [(how_3 h).1]; decide
end Go.Proofs.Ytjkeefmpjocilaa

namespace Go.Proofs.Ytjkeefmpjocilaa
open Go Go.RowKit
theorem low_scale {x : Int} {m d g : Nat} (hg : 0 < g) : rR (sgI (ng x) (m * g)) (d * g) = rR (sgI (ng x) m) d := by
  by_cases hd : d = 0
  · subst hd; rw [Nat.zero_mul, rR_zero rfl, rR_zero rfl]
  · have hd0 : 0 < d := by omega
    have e1 : Nat.gcd (m * g) (d * g) = Nat.gcd m d * g := Nat.gcd_mul_right _ _ _
    have e2 : m * g / Nat.gcd (m * g) (d * g) = m / Nat.gcd m d := by rw [e1, Nat.mul_div_mul_right _ _ hg]
    have e3 : d * g / Nat.gcd (m * g) (d * g) = d / Nat.gcd m d := by rw [e1, Nat.mul_div_mul_right _ _ hg]
    by_cases h : (dg (m / Nat.gcd m d)).length ≤ 18 ∧ (dg (d / Nat.gcd m d)).length ≤ 18
    · rw [rR_ok hd0 h.1 h.2, rR_ok (Nat.mul_pos hd0 hg) (by rw [e2]; exact h.1) (by rw [e3]; exact h.2), e2, e3]
    · rw [rR_no h, rR_no (by rw [e2, e3]; exact h)]
def uRt (pv : ByteArray) (ts : List Rt) (a b : ByteArray) : Bool × List Int × List Int × Bool :=
  if (rOf pv ts a b).2.2.2 = true then rR (sgI (rOf pv ts a b).1 (vl (rOf pv ts a b).2.1 * 10 ^ (curOf b).places.toNat)) (vl (rOf pv ts a b).2.2.1 * 10 ^ (curOf a).places.toNat) else noR
theorem uRt_no {pv : ByteArray} {ts : List Rt} {a b : ByteArray} (h : (rOf pv ts a b).2.2.2 = false) : uRt pv ts a b = noR := by unfold uRt; rw [if_neg (by rw [h]; decide)]
theorem uRt_ok {pv : ByteArray} {ts : List Rt} {a b : ByteArray} {x : Int} {e : Nat} (h : (rOf pv ts a b).2.2.2 = true) (h1 : (rOf pv ts a b).1 = ng x) (h2 : (rOf pv ts a b).2.1 = dg x.natAbs) (h3 : (rOf pv ts a b).2.2.1 = dg e) :
    uRt pv ts a b = rR (sgI (ng x) (x.natAbs * 10 ^ (curOf b).places.toNat)) (e * 10 ^ (curOf a).places.toNat) := by unfold uRt; rw [if_pos h, h1, h2, h3, vl_dg, vl_dg]
theorem uRt_len {pv : ByteArray} {ts : List Rt} {a b : ByteArray} : (uRt pv ts a b).2.1.length ≤ 18 ∧ (uRt pv ts a b).2.2.1.length ≤ 18 := by
  unfold uRt; split
  · exact rR_len
  · exact ⟨by simp [noR], by simp [noR]⟩
theorem rOf_known {pv : ByteArray} {ts : List Rt} {a b : ByteArray} (h : (rOf pv ts a b).2.2.2 = true) : Known a ∧ Known b := by
  have : how pv ts a b ≠ 0 := fun e => by rw [rOf_0 (by omega) (by omega) (by omega) (by omega)] at h; cases h
  exact (how_ok this).2
theorem uRt_mul {pv : ByteArray} {ts : List Rt} {a b : ByteArray} (h : (rOf pv ts a b).2.2.2 = true) :
    uRt pv ts a b = rMul (rOf pv ts a b).1 (rOf pv ts a b).2.1 (rOf pv ts a b).2.2.1 (rDiv (cUnit b).1 (cUnit b).2.1 (cUnit b).2.2.1 (cUnit a).1 (cUnit a).2.1 (cUnit a).2.2.1).1 (rDiv (cUnit b).1 (cUnit b).2.1 (cUnit b).2.2.1 (cUnit a).1 (cUnit a).2.1 (cUnit a).2.2.1).2.1 (rDiv (cUnit b).1 (cUnit b).2.1 (cUnit b).2.2.1 (cUnit a).1 (cUnit a).2.1 (cUnit a).2.2.1).2.2.1 := by
  have hk := rOf_known h
  have hR := rOf_ROk h
  obtain ⟨x, e, h1, h2, h3, he, _, _, _⟩ := hR.rat
  rw [uRt_ok h h1 h2 h3, h1, h2, h3, cUnit_ok hk.1, cUnit_ok hk.2]
  rw [h1, h2, h3] at hR
  have pa := cur_places a
  have pb := cur_places b
  have la := ten_len' (k := (curOf a).places) (by omega)
  have lb := ten_len' (k := (curOf b).places) (by omega)
  have ha : 0 < 10 ^ (curOf a).places.toNat := Nat.pow_pos (by decide)
  have hb : 0 < 10 ^ (curOf b).places.toNat := Nat.pow_pos (by decide)
  generalize 10 ^ (curOf a).places.toNat = A at *
  generalize 10 ^ (curOf b).places.toNat = B at *
  have ngp : ∀ n : Nat, ng ((n : Nat) : Int) = false := fun n => ng_false.2 (by omega)
  have hUb : ROk (ng ((B : Nat) : Int)) (dg ((B : Nat) : Int).natAbs) (dg 1) := ROk_iff.2 ⟨by decide, by rw [Int.natAbs_natCast]; omega, by rw [dg_1]; simp, Nat.gcd_one_right _⟩
  have hUa : ROk (ng ((A : Nat) : Int)) (dg ((A : Nat) : Int).natAbs) (dg 1) := ROk_iff.2 ⟨by decide, by rw [Int.natAbs_natCast]; omega, by rw [dg_1]; simp, Nat.gcd_one_right _⟩
  have hD := rDiv_ok hUb hUa
  rw [ngp, ngp, Int.natAbs_natCast, Int.natAbs_natCast, dg_1, Nat.mul_one, Nat.one_mul] at hD
  show _ = rMul (ng x) (dg x.natAbs) (dg e) (rDiv false (dg B) [1] false (dg A) [1]).1 (rDiv false (dg B) [1] false (dg A) [1]).2.1 (rDiv false (dg B) [1] false (dg A) [1]).2.2.1
  rw [hD, show (false != false) = false from rfl, sgI_false]
  have hP := Pos_rR (x := (B : Int)) (d := A) (by omega) ha (by rw [Int.natAbs_natCast]; exact lb) la
  have hlow := low_mul ((B : Nat) : Int) A
  rw [Int.natAbs_natCast] at hlow
  have hg : 0 < Nat.gcd B A := Nat.gcd_pos_of_pos_right _ ha
  have hrr : rR ((B : Nat) : Int) A = (ng (lowN (B : Int) A), dg (lowN (B : Int) A).natAbs, dg (lowD (B : Int) A), true) := by
    have h4 : (dg (lowN (B : Int) A).natAbs).length ≤ 18 := by rw [lowN_abs, Int.natAbs_natCast]; exact Nat.le_trans (len_div _ _) (by omega)
    have h5 : (dg (lowD (B : Int) A)).length ≤ 18 := Nat.le_trans (len_div _ _) (by omega)
    unfold rR; rw [if_pos ⟨ha, h4, h5⟩]
  have hF := hP.rok
  rw [hrr] at hF ⊢
  show _ = rMul (ng x) (dg x.natAbs) (dg e) (ng (lowN (B : Int) A)) (dg (lowN (B : Int) A).natAbs) (dg (lowD (B : Int) A))
  rw [rMul_ok hR hF, lowN_ng _ ha, ngp, show (ng x != false) = ng x by cases ng x <;> rfl]
  generalize (lowN (B : Int) A).natAbs = F at *
  generalize lowD (B : Int) A = G at *
  generalize Nat.gcd B A = g at *
  rw [hlow.1, hlow.2, show x.natAbs * (g * F) = x.natAbs * F * g by grind, show e * (g * G) = e * G * g by grind, low_scale hg]
def exct (pv : ByteArray) (ts : List Rt) (c : ByteArray) (n : Bool) (z : List Int) (to : ByteArray) : Bool × List Int × List Int × Bool :=
  if MOk c n z ∧ (uRt pv ts c to).2.2.2 = true then rMul (mRat c n z).1 (mRat c n z).2.1 (mRat c n z).2.2.1 (uRt pv ts c to).1 (uRt pv ts c to).2.1 (uRt pv ts c to).2.2.1 else noR
theorem exct_no {pv : ByteArray} {ts : List Rt} {c : ByteArray} {n : Bool} {z : List Int} {to : ByteArray} (h : ¬ (MOk c n z ∧ (uRt pv ts c to).2.2.2 = true)) : exct pv ts c n z to = noR := by unfold exct; rw [if_neg h]
theorem exct_ok {pv : ByteArray} {ts : List Rt} {c : ByteArray} {n : Bool} {z : List Int} {to : ByteArray} (h : MOk c n z) (h2 : (uRt pv ts c to).2.2.2 = true) : exct pv ts c n z to = rMul (mRat c n z).1 (mRat c n z).2.1 (mRat c n z).2.2.1 (uRt pv ts c to).1 (uRt pv ts c to).2.1 (uRt pv ts c to).2.2.1 := by unfold exct; rw [if_pos ⟨h, h2⟩]
theorem exct_len {pv : ByteArray} {ts : List Rt} {c : ByteArray} {n : Bool} {z : List Int} {to : ByteArray} : (exct pv ts c n z to).2.1.length ≤ 18 ∧ (exct pv ts c n z to).2.2.1.length ≤ 18 := by
  unfold exct; split
  · exact rMul_len
  · exact ⟨by simp [noR], by simp [noR]⟩
end Go.Proofs.Ytjkeefmpjocilaa
