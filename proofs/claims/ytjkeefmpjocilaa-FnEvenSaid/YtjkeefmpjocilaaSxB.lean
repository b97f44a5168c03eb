/- Plain lemmas on numbers and lists; no program in sight. Conditions: none. -/
import Derived.Test.YtjkeefmpjocilaaSx
set_option linter.unusedVariables false
set_option linter.unusedSimpArgs false
namespace Go.Proofs.Ytjkeefmpjocilaa
open Go Go.RowKit
/-! ### windows: parts of an owned row that a callee stores into -/
def vmid : Value → Nat → Nat → Value
  | .slice a _ c, l, h => .slice (a.map (·.add l)) (h - l) (c - l)
  | v, _, _ => v
/-- v is a slice of ints at the cells behind pre and before suf in a block of [lo, hi) that no other rule guards -/
def Win (w : World) (lo hi : Nat) (v : Value) (e : TypeId) (pre suf : List Value) (zs : List Int) : Prop :=
  ∃ b cap, v = .slice (some ⟨b, pre.length, none⟩) zs.length cap ∧ lo ≤ b ∧ b < hi ∧ zs.length ≤ cap ∧ Blk w b (pre ++ zs.map (Value.int .i64) ++ suf) e
theorem Win.sv {w : World} {lo hi : Nat} {v : Value} {e : TypeId} {pre suf : List Value} {zs : List Int} (h : Win w lo hi v e pre suf zs) : Sl w lo hi v zs := by
  obtain ⟨b, cap, rfl, h1, h2, h3, h4⟩ := h
  refine ⟨by simp, .inr ⟨b, pre.length, cap, _, e, _, rfl, ⟨h3, h1⟩, h2, h4, fun j u hj => ?_⟩⟩
  have hlt : j < (zs.map (Value.int .i64)).length := by
    rcases Nat.lt_or_ge j (zs.map (Value.int .i64)).length with h' | h'
    · exact h'
    · simp [List.getElem?_eq_none h'] at hj
  rw [List.getElem?_toArray, List.append_assoc, List.getElem?_append_right (by omega), Nat.add_sub_cancel_left, List.getElem?_append_left hlt]
  exact hj
theorem Win.chg {w w' : World} {lo hi l h : Nat} {v : Value} {e : TypeId} {pre suf : List Value} {zs : List Int} (hs : Win w lo hi v e pre suf zs) (hc : Chg l h w w') (ho : hi ≤ l ∨ h ≤ lo) : Win w' lo hi v e pre suf zs := by
  obtain ⟨b, cap, rfl, h1, h2, h3, h4⟩ := hs
  exact ⟨b, cap, rfl, h1, h2, h3, h4.chg hc (by omega)⟩
theorem Win.ext {w w' : World} {lo hi : Nat} {v : Value} {e : TypeId} {pre suf : List Value} {zs : List Int} (hs : Win w lo hi v e pre suf zs) (hc : Chg 0 0 w w') : Win w' lo hi v e pre suf zs := hs.chg hc (.inr (Nat.zero_le _))
theorem Win.hi {w : World} {lo hi : Nat} {v : Value} {e : TypeId} {pre suf : List Value} {zs : List Int} (h : Win w lo hi v e pre suf zs) : lo < w.heap.size := by
  obtain ⟨b, cap, rfl, h1, h2, h3, h4⟩ := h
  have := h4.lt; omega
theorem Win.mono {w : World} {lo hi lo' hi' : Nat} {v : Value} {e : TypeId} {pre suf : List Value} {zs : List Int} (hs : Win w lo hi v e pre suf zs) (hl : lo' ≤ lo) (hh : hi ≤ hi') : Win w lo' hi' v e pre suf zs := by
  obtain ⟨b, cap, rfl, h1, h2, h3, h4⟩ := hs
  exact ⟨b, cap, rfl, by omega, by omega, h3, h4⟩
theorem Win.store {w : World} {lo hi : Nat} {v : Value} {e : TypeId} {pre suf : List Value} {zs : List Int} (hs : Win w lo hi v e pre suf zs) {j : Nat} (hj : j < zs.length) (x : Int) :
    Win (w.setCell ⟨vblk v, voff v + j, none⟩ (.int .i64 x)) lo hi v e pre suf (zs.set j x) ∧ Chg lo hi w (w.setCell ⟨vblk v, voff v + j, none⟩ (.int .i64 x)) ∧ (∃ y, w.cell? ⟨vblk v, voff v + j, none⟩ = some y) ∧ w.frozen? ⟨vblk v, voff v + j, none⟩ = false := by
  have hc := hs.sv.cell (j := j) (u := .int .i64 (zs.getD j 0)) (at_int hj)
  obtain ⟨b, cap, rfl, h1, h2, h3, h4⟩ := hs
  simp only [vblk, voff] at hc ⊢
  refine ⟨⟨b, cap, by rw [List.length_set], h1, h2, by rw [List.length_set]; exact h3, ?_⟩, (Chg.setCell w b _ _).mono h1 (by omega), ⟨_, hc⟩, h4.frozen⟩
  have := h4.set (o := pre.length + j) (.int .i64 x)
  rwa [List.append_assoc, List.set_append_right _ _ (by omega), Nat.add_sub_cancel_left, List.set_append_left _ _ (by simpa using hj), map_set_int, ← List.append_assoc] at this
/-- a part of an owned slice, and the way back -/
theorem Own.win {w : World} {lo hi : Nat} {v : Value} {e : TypeId} {zs : List Int} (h : OwnI w lo hi v e zs) {a b : Nat} (hab : a < b) (hb : b ≤ zs.length) :
    ∃ suf, Win w lo hi (vmid v a b) e ((zs.take a).map (Value.int .i64)) suf ((zs.drop a).take (b - a)) ∧
      ∀ w' ys, Win w' lo hi (vmid v a b) e ((zs.take a).map (Value.int .i64)) suf ys → OwnI w' lo hi v e (zs.take a ++ ys ++ zs.drop b) := by
  rcases h.2 with ⟨h0, _⟩ | ⟨c, cap, sp, rfl, h1, h2, h3, h4, h5, h6⟩
  · simp only [List.length_eq_zero_iff] at h0; subst h0; simp at hb; omega
  · have hl1 : (zs.take a).length = a := by rw [List.length_take]; omega
    have hl2 : ((zs.drop a).take (b - a)).length = b - a := by rw [List.length_take, List.length_drop]; omega
    have e1 : zs = zs.take a ++ ((zs.drop a).take (b - a) ++ zs.drop b) := by
      have e2 : zs.drop b = (zs.drop a).drop (b - a) := by rw [List.drop_drop]; congr 1; omega
      rw [e2, List.take_append_drop, List.take_append_drop]
    refine ⟨(zs.drop b).map (Value.int .i64) ++ sp, ⟨c, cap - a, ?_, h1, h2, ?_, ?_⟩, fun w' ys hw => ?_⟩
    · simp only [vmid, Option.map_some, add_at, Nat.zero_add, List.length_map, hl1, hl2]
    · rw [hl2]; omega
    · have : (zs.take a).map (Value.int .i64) ++ ((zs.drop a).take (b - a)).map (Value.int .i64) ++ ((zs.drop b).map (Value.int .i64) ++ sp) = zs.map (Value.int .i64) ++ sp := by
        conv => rhs; rw [e1]
        simp only [List.map_append, List.append_assoc]
      rw [this]; exact h5
    · obtain ⟨c', cap', hv, g1, g2, g3, g4⟩ := hw
      simp only [vmid, Option.map_some, add_at, Nat.zero_add, Value.slice.injEq, Option.some.injEq, Addr.mk.injEq] at hv
      obtain ⟨⟨rfl, _, _⟩, hl, rfl⟩ := hv
      have hlen : (zs.take a ++ ys ++ zs.drop b).length = zs.length := by
        simp only [List.length_append, hl1, List.length_drop, ← hl]; omega
      refine ⟨by simp, .inr ⟨c, cap, sp, by rw [hlen], g1, g2, by rw [hlen]; exact h3, h4, ?_, ?_⟩⟩
      · have : (zs.take a ++ ys ++ zs.drop b).map (Value.int .i64) ++ sp = (zs.take a).map (Value.int .i64) ++ ys.map (Value.int .i64) ++ ((zs.drop b).map (Value.int .i64) ++ sp) := by
          simp only [List.map_append, List.append_assoc]
        rw [this]; exact g4
      · rw [List.length_append, List.length_map, hlen]
        rw [List.length_append, List.length_map] at h6; exact h6
section
variable {P : Program} {n : Nat} {Q : Exit → Act → World → Prop} {fr fr' : Fr} {w : World} {ops : Array Oper} {rest : List Oper} {d : Nat} {ty : TypeId} {pos : String} {aft : Array Edge} {dst : Option Tmp} {g : Option (Nat × Bool)}
theorem sx_storeW {x y : Operand} {T e : TypeId} {lo hi j : Nat} {pre suf : List Value} {zs : List Int} {v : Value} {u : Int} (hx : ev fr x = some (.pointer (some ⟨vblk v, voff v + j, none⟩))) (hy : ev fr y = some (.int .i64 u))
    (hs : Win w lo hi v e pre suf zs) (hj : j < zs.length) (hS : ∀ w, (sizeOf T).run P w = .ok 1 w)
    (h : ∀ w', w'.heap.size = w.heap.size → Win w' lo hi v e pre suf (zs.set j u) → Chg lo hi w w' → wl P n ops Q rest fr w') : wl P n ops Q (⟨none, .store T x y, ty, pos, aft, none⟩ :: rest) fr w := by
  obtain ⟨g1, g2, ⟨x0, g3⟩, g4⟩ := hs.store hj u
  refine sx_unit (w' := w.setCell ⟨vblk v, voff v + j, none⟩ (.int .i64 u)) rfl rfl (fun a ha => ?_) (h _ (by simp [World.setCell]) g1 g2)
  have hst : (store ⟨vblk v, voff v + j, none⟩ (.int .i64 u)).run P w = .ok () (w.setCell ⟨vblk v, voff v + j, none⟩ (.int .i64 u)) := by
    simp [store, Sem.run, g3, g4]
  simp [execOp, ha.ev hx, ha.ev hy, Instr.storeAt, Instr.sureAddr, storeVar, hS, Value.cells, storeCells, Addr.add, hst]
theorem px_sliceMid {x y z : Operand} {T e : TypeId} {lo hi' m l h : Nat} {i j : Int} {xs : List Value} {v : Value} (hx : ev fr x = some v) (hy : ev fr y = some (.int .i64 i)) (hz : ev fr z = some (.int .i64 j)) (hi : i = (l : Int)) (hj : j = (h : Int)) (hT : P.underlying T = some (.slice e)) (hS : ∀ w, (sizeOf e).run P w = .ok 1 w)
    (hs : Sv w lo hi' v m 1 xs) (hl : l < h) (hh : h ≤ m) : Px P n fr ⟨dst, .slice T x (some y) (some z) none, ty, pos, aft, g⟩ (vmid v l h) w := by
  subst hi; subst hj
  intro a ha
  rcases hs.2 with ⟨rfl, _⟩ | ⟨b, off, cap, cs, T', fz, hv, h1, _⟩
  · omega
  · subst hv
    have hc : h ≤ cap := by omega
    have hlh : l ≤ h := by omega
    have hne : ¬ cap = l := by omega
    simp [execOp, ha.ev hx, ha.ev hy, ha.ev hz, Instr.sliceAt, run_underlying hT, Instr.slice, Instr.sliceBounds, Instr.sliceBound, asIntOf, hS, vmid, hc, hlh, hne]
/-- append, and where the row is then: where it was, or new -/
theorem sx_append2 {x y : Operand} {T e U : TypeId} {i : TypeInfo} {z : Value} {k bytes m c lo hi lo' hi' : Nat} {v u : Value} {xs ys : List Value} (hn : Nat.blt d n = true) (hE : Elt P T e i z k bytes) (hx : ev fr x = some v) (hy : ev fr y = some u)
    (hv : Own w lo hi v e m k xs) (hu : Sv w lo' hi' u c k ys) (hc0 : 0 < c) (h1 : ∀ q ∈ ys, q.oneCell' = true) (hlo : lo ≤ w.heap.size) (hc : (m + c) * bytes ≤ 140737488355328) (h63 : m + c ≤ maxLen)
    (h : ∀ v' w' l2 h2, (l2 = lo ∧ h2 = hi) ∨ (l2 = w.heap.size ∧ h2 = w'.heap.size) → Own w' l2 h2 v' e (m + c) k (xs ++ ys) → Chg lo hi w w' → wl P n ops Q rest ((d, v') :: fr) w') :
    wl P n ops Q (⟨some d, .call { callee := .builtin .append, args := #[x, y], argTypes := #[T, T] }, U, pos, aft, none⟩ :: rest) fr w := by
  rcases hu.2 with ⟨rfl, a, c', rfl⟩ | ⟨b, off, cap, cs, T', fz, rfl, _, _, h3, h4⟩
  · omega
  · have hcell : ∀ j q, ys[j]? = some q → w.cell? ((⟨b, off, none⟩ : Addr).add j) = some q := fun j q hj => by
      rw [add_at]; simp [World.cell?, h3, h4 j q hj]
    obtain ⟨v', w', r1, r2, r3, r4, r5⟩ := run_append_own_at (P := P) (w := w) lo T U e i z k bytes hE.ht hE.hi hE.hz hE.hk hE.hb hE.hc hE.h0 v m xs hv.row ⟨b, off, none⟩ c cap ys hu.1 hcell h1 h63 hc hlo
    have hO := Own.of_row r2
    have hrun : ∀ a : Act, Agr n fr a → (execOp a.eval (⟨some d, .call { callee := .builtin .append, args := #[x, y], argTypes := #[T, T] }, U, pos, aft, none⟩ : Oper)).run P w = .ok (.value v') w' := fun a ha => by
      simp [execOp, resolve, ha.ev hx, ha.ev hy, invoke, builtin, r1]
    have hk0 := hE.h0
    rcases hO.2 with ⟨h0, hv0⟩ | ⟨b', cap', sp, hv', q1, q2, q3, q4, q5, q6⟩
    · omega
    · have hself : ∀ l2 h2, l2 ≤ b' → b' < h2 → Own w' l2 h2 v' e (m + c) k (xs ++ ys) := fun l2 h2 g1 g2 => ⟨hO.1, .inr ⟨b', cap', sp, hv', g1, g2, q3, q4, q5, q6⟩⟩
      rcases r5 with r5 | r5
      · rcases hv.2 with ⟨_, hvn⟩ | ⟨b0, cap0, sp0, hv0, p1, p2, _⟩
        · subst hvn; rw [hv'] at r5; simp [Value.ownBlock] at r5
        · rw [hv', hv0] at r5
          simp only [Value.ownBlock, Option.some.injEq] at r5
          exact sx_val rfl rfl hn hrun (h v' w' lo hi (.inl ⟨rfl, rfl⟩) (hself _ _ (by omega) (by omega)) (Chg.grown hv r3))
      · rw [hv'] at r5
        simp only [Value.ownBlock, Option.some.injEq] at r5
        exact sx_val rfl rfl hn hrun (h v' w' w.heap.size w'.heap.size (.inr ⟨rfl, rfl⟩) (hself _ _ (by omega) q2) (Chg.grown hv r3))
end
end Go.Proofs.Ytjkeefmpjocilaa

namespace Go.Proofs.Ytjkeefmpjocilaa
open Go Go.RowKit
abbrev Rt := ByteArray × ByteArray × Bool × List Int × Int
abbrev rt0 : Rt := (⟨#[]⟩, ⟨#[]⟩, false, [], 0)
abbrev RB (r : Rt) : Prop := r.1.size ≤ 9223372036854775807 ∧ r.2.1.size ≤ 9223372036854775807 ∧ r.2.2.2.1.length ≤ 9223372036854775807
abbrev vz : Value := .slice none 0 0
abbrev rtc (r : Rt) (v : Value) : List Value := [.string r.1, .string r.2.1, .bool r.2.2.1, v, .int .i64 r.2.2.2.2]
def rtCells : List Rt → List Value → List Value
  | r :: ts, v :: vs => rtc r v ++ rtCells ts vs
  | _, _ => []
theorem rtCells_len : ∀ {ts : List Rt} {vs : List Value}, vs.length = ts.length → (rtCells ts vs).length = ts.length * 5
  | [], [], _ => rfl
  | r :: ts, v :: vs, h => by
    have := rtCells_len (ts := ts) (vs := vs) (by simpa using h)
    simp only [rtCells, List.length_append, List.length_cons, List.length_nil, this]; omega
theorem rtCells_at : ∀ {ts : List Rt} {vs : List Value} {i q : Nat}, vs.length = ts.length → i < ts.length → q < 5 → (rtCells ts vs)[i * 5 + q]? = (rtc (ts.getD i rt0) (vs.getD i vz))[q]?
  | [], _, _, _, _, h, _ => by simp at h
  | r :: ts, [], _, _, h, _, _ => by simp at h
  | r :: ts, v :: vs, 0, q, _, _, hq => by
    simp only [rtCells, Nat.zero_mul, Nat.zero_add, List.getD_cons_zero]
    exact List.getElem?_append_left (by simpa using hq)
  | r :: ts, v :: vs, i + 1, q, hl, hi, hq => by
    have h := rtCells_at (ts := ts) (vs := vs) (i := i) (q := q) (by simpa using hl) (by simpa using hi) hq
    simp only [rtCells, List.getD_cons_succ]
    rw [List.getElem?_append_right (by simp only [List.length_cons, List.length_nil]; omega), ← h]
    congr 1
    simp only [List.length_cons, List.length_nil]; omega
theorem rt_look {ts : List Rt} {vs : List Value} {i : Nat} (hl : vs.length = ts.length) (hi : i < ts.length) : ∀ j u, (rtc (ts.getD i rt0) (vs.getD i vz))[j]? = some u → (rtCells ts vs)[i * 5 + j]? = some u := fun j u hj => by
  have : j < 5 := by
    rcases Nat.lt_or_ge j 5 with h | h
    · exact h
    · rw [List.getElem?_eq_none (by simpa using h)] at hj; cases hj
  rw [rtCells_at hl hi this]; exact hj
theorem rt_look1 {ts : List Rt} {vs : List Value} {i q : Nat} {u : Value} (hl : vs.length = ts.length) (hi : i < ts.length) (hq : (rtc (ts.getD i rt0) (vs.getD i vz))[q]? = some u) : (rtCells ts vs)[i * 5 + q]? = some u := rt_look hl hi q u hq
structure RtS (w : World) (lo hi : Nat) (v : Value) (ts : List Rt) (vs : List Value) : Prop where
  len : vs.length = ts.length
  sv : Sv w lo hi v ts.length 5 (rtCells ts vs)
  nest : ∀ i, i < ts.length → Sl w lo hi (vs.getD i vz) (ts.getD i rt0).2.2.2.1
theorem RtS.chg {w w' : World} {lo hi l h : Nat} {v : Value} {ts : List Rt} {vs : List Value} (hs : RtS w lo hi v ts vs) (hc : Chg l h w w') (ho : hi ≤ l ∨ h ≤ lo) : RtS w' lo hi v ts vs := ⟨hs.len, hs.sv.chg hc ho, fun i hi => (hs.nest i hi).chg hc ho⟩
theorem RtS.ext {w w' : World} {lo hi : Nat} {v : Value} {ts : List Rt} {vs : List Value} (hs : RtS w lo hi v ts vs) (hc : Chg 0 0 w w') : RtS w' lo hi v ts vs := hs.chg hc (.inr (Nat.zero_le _))
theorem RtS.mono {w : World} {lo hi lo' hi' : Nat} {v : Value} {ts : List Rt} {vs : List Value} (hs : RtS w lo hi v ts vs) (hl : lo' ≤ lo) (hh : hi ≤ hi') : RtS w lo' hi' v ts vs := ⟨hs.len, hs.sv.mono hl hh, fun i h => (hs.nest i h).mono hl hh⟩
theorem RtS.fit {w : World} {lo hi : Nat} {v : Value} {ts : List Rt} {vs : List Value} (hs : RtS w lo hi v ts vs) : RtS w lo w.heap.size v ts vs := ⟨hs.len, hs.sv.fit, fun i h => (hs.nest i h).fit⟩
theorem RtS.one {w : World} {lo hi : Nat} {v : Value} {ts : List Rt} {vs : List Value} (hs : RtS w lo hi v ts vs) : v.oneCell' = true := hs.sv.one
theorem RtS.nil (w : World) (lo hi : Nat) : RtS w lo hi (.slice none 0 0) [] [] := ⟨rfl, Sv.nil _ _ _ _, fun _ h => by simp at h⟩
theorem getD_append_left' {α : Type} {l k : List α} {d : α} {i : Nat} (h : i < l.length) : (l ++ k).getD i d = l.getD i d := by
  simp only [List.getD_eq_getElem?_getD]; rw [List.getElem?_append_left h]
theorem getD_append_at {α : Type} {l : List α} {x d : α} {i : Nat} (h : i = l.length) : (l ++ [x]).getD i d = x := by
  subst h; simp
theorem rtCells_snoc : ∀ {ts : List Rt} {vs : List Value} {r : Rt} {v : Value}, vs.length = ts.length → rtCells (ts ++ [r]) (vs ++ [v]) = rtCells ts vs ++ rtc r v
  | [], [], _, _, _ => by simp [rtCells]
  | a :: ts, b :: vs, r, v, h => by
    simp only [List.cons_append, rtCells, rtCells_snoc (ts := ts) (vs := vs) (r := r) (v := v) (by simpa using h), List.append_assoc]
  | [], _ :: _, _, _, h => by simp at h
  | _ :: _, [], _, _, h => by simp at h
theorem take_snoc {ts : List Rt} {k : Nat} (h : k < ts.length) : ts.take (k + 1) = ts.take k ++ [ts.getD k rt0] := by
  rw [List.take_succ_eq_append_getElem h]; simp [List.getElem?_eq_getElem h]
theorem rt_take_succ_eq {ts us : List Rt} {k : Nat} (h : ts.take k = us.take k) (h1 : k < ts.length) (h2 : k < us.length) (e : ts.getD k rt0 = us.getD k rt0) : ts.take (k + 1) = us.take (k + 1) := by
  rw [take_snoc h1, take_snoc h2, h, e]
section
variable {P : Program} {n : Nat} {Q : Exit → Act → World → Prop} {fr fr' : Fr} {w : World} {ops : Array Oper} {rest : List Oper} {d : Nat} {ty : TypeId} {pos : String} {aft : Array Edge} {dst : Option Tmp} {g : Option (Nat × Bool)}
theorem sx_storeOA {x y : Operand} {T e : TypeId} {lo hi m k j : Nat} {xs vs : List Value} {v u : Value} (hx : ev fr x = some (.pointer (some ⟨vblk v, voff v + j, none⟩))) (hy : ev fr y = some u)
    (hs : Own w lo hi v e m k xs) (hv : u.cells = vs.toArray) (hv0 : 0 < vs.length) (hj : j + vs.length ≤ xs.length) (hS : ∀ w, (sizeOf T).run P w = .ok vs.length w) (h1 : ∀ u ∈ vs, u.oneCell' = true)
    (h : ∀ w', w'.heap.size = w.heap.size → Own w' lo hi v e m k (xs.take j ++ vs ++ xs.drop (j + vs.length)) → Chg lo hi w w' → wl P n ops Q rest fr w') : wl P n ops Q (⟨none, .store T x y, ty, pos, aft, none⟩ :: rest) fr w := by
  rcases hs.2 with ⟨rfl, rfl⟩ | ⟨b, cap, sp, rfl, h1', h2, h3, h4, h5, h6⟩
  · have := hs.1; simp only [Nat.zero_mul] at this; omega
  · simp only [vblk, voff, Nat.zero_add] at hx
    have e1 : (xs ++ sp).take j ++ vs ++ (xs ++ sp).drop (j + vs.length) = xs.take j ++ vs ++ xs.drop (j + vs.length) ++ sp := by
      rw [List.take_append_of_le_length (by omega), List.drop_append_of_le_length (by omega)]; simp only [List.append_assoc]
    have hrun := run_storeBlk (P := P) (o := j) h5 hv hS (by simp only [List.length_append]; omega) h1
    rw [e1] at hrun
    refine sx_unit (w' := w.setRow b (xs.take j ++ vs ++ xs.drop (j + vs.length) ++ sp).toArray) rfl rfl
      (fun a ha => by simp [execOp, ha.ev hx, ha.ev hy, Instr.storeAt, Instr.sureAddr, hrun]) (h _ (by simp [World.setRow]) ⟨?_, .inr ⟨b, cap, sp, rfl, h1', h2, h3, h4, h5.setRow _, ?_⟩⟩ ((Chg.setRow b _).mono h1' (by omega)))
    · rw [← hs.1]; simp only [List.length_append, List.length_take, List.length_drop]; omega
    · rw [← h6]; simp only [List.length_append, List.length_take, List.length_drop]; omega
def Mp (w : World) (b : Nat) (ks : List (ByteArray × ByteArray)) : Prop := ∃ es clock, w.heap[b]? = some (.map es clock) ∧ es.toList.map (fun e => (e.key, e.val)) = ks.map fun p => (Value.agg #[.string p.1, .string p.2], Value.bool true)
theorem Mp.lt {w : World} {b : Nat} {ks : List (ByteArray × ByteArray)} (h : Mp w b ks) : b < w.heap.size := by
  obtain ⟨es, c, h, _⟩ := h
  rcases Nat.lt_or_ge b w.heap.size with h' | h'
  · exact h'
  · simp [Array.getElem?_eq_none h'] at h
theorem Mp.chg {w w' : World} {b l h : Nat} {ks : List (ByteArray × ByteArray)} (hb : Mp w b ks) (hc : Chg l h w w') (ho : b < l ∨ h ≤ b) : Mp w' b ks := by
  have hlt := hb.lt
  obtain ⟨es, c, h1, h2⟩ := hb
  exact ⟨es, c, (hc.block b hlt ho).trans h1, h2⟩
theorem Mp.ext {w w' : World} {b : Nat} {ks : List (ByteArray × ByteArray)} (hb : Mp w b ks) (hc : Chg 0 0 w w') : Mp w' b ks := hb.chg hc (.inr (Nat.zero_le _))
theorem sx_makeMap {T : TypeId} (hn : Nat.blt d n = true)
    (h : ∀ b w', b = w.heap.size → w'.heap.size = b + 1 → Mp w' b [] → Chg 0 0 w w' → wl P n ops Q rest ((d, .map (some b)) :: fr) w') : wl P n ops Q (⟨some d, .makeMap T none, ty, pos, aft, none⟩ :: rest) fr w :=
  sx_val (w' := w.alloc (.map #[] 0)) rfl rfl hn (fun a _ => by simp [execOp, Instr.makeMap, newObj, Sem.run]) (h _ _ rfl (size_alloc w _) ⟨#[], 0, by unfold World.alloc; simp, rfl⟩ (Chg.alloc w _))
end
instance memDec (k : ByteArray × ByteArray) (ks : List (ByteArray × ByteArray)) : Decidable (k ∈ ks) := decidable_of_iff (∃ x, x ∈ ks ∧ x = k) ⟨fun ⟨_, h, e⟩ => e ▸ h, fun h => ⟨k, h, rfl⟩⟩
structure PairT (P : Program) (T : TypeId) : Prop where
  eq : ∀ (a b c d : ByteArray) (w : World), (Op.equal T (.agg #[.string a, .string b]) (.agg #[.string c, .string d])).run P w = .ok (decide (a = c ∧ b = d)) w
  key : ∀ (e : Bool) (a b : ByteArray) (w : World), (Instr.checkKey e 10000 T (.agg #[.string a, .string b])).run P w = .ok () w
  str : ∃ fs, P.underlying T = some (.struct fs)
  guard : P.eqGuardType P.depth T = false
theorem run_find {P : Program} {T : TypeId} (hT : PairT P T) (a b : ByteArray) (w : World) : ∀ (es : List MapEntry) (ks : List (ByteArray × ByteArray)) (i : Nat), es.map (fun e => (e.key, e.val)) = ks.map (fun p => (Value.agg #[.string p.1, .string p.2], Value.bool true)) →
    ∃ r, (Instr.findAsking T (.agg #[.string a, .string b]) es i).run P w = .ok r w ∧ (if (a, b) ∈ ks then ∃ j, r = some (j, .bool true) else r = none)
  | [], [], i, _ => ⟨none, by simp [Instr.findAsking], by simp⟩
  | [], _ :: _, _, h => by simp at h
  | _ :: _, [], _, h => by simp at h
  | e :: es, p :: ks, i, h => by
    simp only [List.map_cons, List.cons.injEq, Prod.mk.injEq] at h
    obtain ⟨⟨h1, h2⟩, h3⟩ := h
    by_cases hp : a = p.1 ∧ b = p.2
    · refine ⟨some (i, .bool true), ?_, ?_⟩
      · simp only [Instr.findAsking]
        rw [h1, run_bind_ok _ _ (hT.eq a b p.1 p.2 w)]
        simp [hp, h2]
      · have : (a, b) ∈ p :: ks := by rw [show (a, b) = p from Prod.ext hp.1 hp.2]; exact List.mem_cons_self ..
        rw [if_pos this]; exact ⟨i, rfl⟩
    · obtain ⟨r, hr, hm⟩ := run_find hT a b w es ks (i + 1) h3
      refine ⟨r, ?_, ?_⟩
      · simp only [Instr.findAsking]
        rw [h1, run_bind_ok _ _ (hT.eq a b p.1 p.2 w)]
        rw [decide_eq_false hp]
        simpa using hr
      · have : (a, b) ∈ p :: ks ↔ (a, b) ∈ ks := by
          rw [List.mem_cons]
          exact ⟨fun h => h.resolve_left fun h => hp ⟨congrArg (·.1) h, congrArg (·.2) h⟩, .inr⟩
        simp only [this]; exact hm
theorem run_findKey {P : Program} {T : TypeId} (hT : PairT P T) (a b : ByteArray) (w : World) (es : List MapEntry) (ks : List (ByteArray × ByteArray)) (h : es.map (fun e => (e.key, e.val)) = ks.map (fun p => (Value.agg #[.string p.1, .string p.2], Value.bool true))) :
    ∃ r, (Instr.findKey T (.agg #[.string a, .string b]) es).run P w = .ok r w ∧ (if (a, b) ∈ ks then ∃ j, r = some (j, .bool true) else r = none) := by
  obtain ⟨fs, hf⟩ := hT.str
  cases es with
  | nil =>
    cases ks with
    | nil => exact ⟨none, by simp [Instr.findKey, run_underlying hf, Instr.findNow], by simp⟩
    | cons p ks => simp at h
  | cons e es =>
    obtain ⟨r, hr, hm⟩ := run_find hT a b w (e :: es) ks 0 h
    refine ⟨r, ?_, hm⟩
    simp only [Instr.findKey]
    rw [run_bind_ok _ _ (run_underlying hf w)]
    simp only [Instr.findNow, Instr.sameNow]
    exact hr
section
variable {P : Program} {n : Nat} {Q : Exit → Act → World → Prop} {fr fr' : Fr} {w : World} {ops : Array Oper} {rest : List Oper} {d : Nat} {ty : TypeId} {pos : String} {aft : Array Edge} {dst : Option Tmp} {g : Option (Nat × Bool)}
theorem px_lookupM {x y : Operand} {T K E : TypeId} {b : Nat} {a c : ByteArray} {ks : List (ByteArray × ByteArray)} (hx : ev fr x = some (.map (some b))) (hy : ev fr y = some (.agg #[.string a, .string c])) (hT : P.underlying T = some (.map K E)) (hK : PairT P K)
    (hz : ∀ w, (zeroValue E).run P w = .ok (.bool false) w) (hm : Mp w b ks) : Px P n fr ⟨dst, .lookup T x y false, ty, pos, aft, g⟩ (.bool (decide ((a, c) ∈ ks))) w := fun ac ha => by
  obtain ⟨es, cl, h1, h2⟩ := hm
  obtain ⟨r, hr, hmem⟩ := run_findKey hK a c w es.toList ks h2
  have hget : (getObj b).run P w = .ok (.map es cl) w := by simp [getObj, Sem.run, h1]
  by_cases hp : (a, c) ∈ ks
  · rw [if_pos hp] at hmem
    obtain ⟨j, rfl⟩ := hmem
    simp [execOp, ha.ev hx, ha.ev hy, Instr.lookup, run_underlying hT, hget, hK.key, hr, Result.andThen, hp]
  · rw [if_neg hp] at hmem
    subst hmem
    simp [execOp, ha.ev hx, ha.ev hy, Instr.lookup, run_underlying hT, hget, hK.key, hr, Result.andThen, hz, hp]
theorem sx_mapUpdateM {x y z : Operand} {T K E : TypeId} {b : Nat} {a c : ByteArray} {ks : List (ByteArray × ByteArray)} (hx : ev fr x = some (.map (some b))) (hy : ev fr y = some (.agg #[.string a, .string c])) (hzv : ev fr z = some (.bool true)) (hT : P.underlying T = some (.map K E)) (hK : PairT P K)
    (hm : Mp w b ks) (hnew : (a, c) ∉ ks) (h : ∀ w', w'.heap.size = w.heap.size → Mp w' b (ks ++ [(a, c)]) → Chg b (b + 1) w w' → wl P n ops Q rest fr w') : wl P n ops Q (⟨none, .mapUpdate T x y z, ty, pos, aft, none⟩ :: rest) fr w := by
  have hlt := hm.lt
  obtain ⟨es, cl, h1, h2⟩ := hm
  obtain ⟨r, hr, hmem⟩ := run_findKey hK a c w es.toList ks h2
  rw [if_neg hnew] at hmem
  subst hmem
  have hget : (getObj b).run P w = .ok (.map es cl) w := by simp [getObj, Sem.run, h1]
  have hset : ∀ o, (setObj b o).run P w = .ok () { w with heap := w.heap.setIfInBounds b o } := fun o => by simp [setObj, Sem.run, h1]
  refine sx_unit (w' := { w with heap := w.heap.setIfInBounds b (.map (es.push { key := .agg #[.string a, .string c], val := .bool true, born := cl }) (cl + 1)) }) rfl rfl (fun ac ha => ?_) (h _ ?_ ⟨es.push { key := .agg #[.string a, .string c], val := .bool true, born := cl }, cl + 1, ?_, ?_⟩ ⟨rfl, rfl, rfl, ?_, fun k _ ho => ?_⟩)
  · simp [execOp, ha.ev hx, ha.ev hy, ha.ev hzv, Instr.mapUpdate, run_underlying hT, hget, hK.key, hr, hset, Result.andThen]
  · simp
  · simp [hlt]
  · simp [h2]
  · simp
  · exact Array.getElem?_setIfInBounds_ne (by omega)
theorem px_eqPair {x y : Operand} {T U : TypeId} {a b c e : ByteArray} (hx : ev fr x = some (.agg #[.string a, .string b])) (hy : ev fr y = some (.agg #[.string c, .string e])) (hT : PairT P T) : Px P n fr ⟨dst, .binOp .eql T x y U, ty, pos, aft, g⟩ (.bool (decide (a = c ∧ b = e))) w := fun ac ha => by
  simp [execOp, ha.ev hx, ha.ev hy, eqGuard, binOp, hT.eq, hT.guard]
end
end Go.Proofs.Ytjkeefmpjocilaa

namespace Go.Proofs.Ytjkeefmpjocilaa
open Go Go.RowKit
def RtO (w : World) (lo hi : Nat) (v : Value) (e f : TypeId) (ts : List Rt) (vs : List Value) : Prop :=
  ∃ (l1 h1 : Nat) (r : Nat → Nat), vs.length = ts.length ∧ Own w l1 h1 v e ts.length 5 (rtCells ts vs) ∧ lo ≤ l1 ∧ h1 ≤ r 0 ∧ (∀ i, i < ts.length → r i ≤ r (i + 1)) ∧ r ts.length ≤ hi ∧ ∀ i, i < ts.length → OwnI w (r i) (r (i + 1)) (vs.getD i vz) f (ts.getD i rt0).2.2.2.1
theorem mono_le {r : Nat → Nat} {n : Nat} (h : ∀ i, i < n → r i ≤ r (i + 1)) : ∀ {i j}, i ≤ j → j ≤ n → r i ≤ r j := fun {i j} hij hj => by
  induction j with
  | zero => have : i = 0 := by omega
            subst this; exact Nat.le_refl _
  | succ j ih =>
    rcases Nat.lt_or_ge i (j + 1) with h1 | h1
    · exact Nat.le_trans (ih (by omega) (by omega)) (h j (by omega))
    · have : i = j + 1 := by omega
      subst this; exact Nat.le_refl _
theorem RtO.toS {w : World} {lo hi : Nat} {v : Value} {e f : TypeId} {ts : List Rt} {vs : List Value} (h : RtO w lo hi v e f ts vs) : RtS w lo hi v ts vs := by
  obtain ⟨l1, h1, r, hl, hO, a1, a2, a3, a4, hn⟩ := h
  have h0 := mono_le a3 (Nat.zero_le ts.length) (Nat.le_refl _)
  refine ⟨hl, hO.sv.mono a1 (by omega), fun i hi => ?_⟩
  have h2 := mono_le a3 (Nat.zero_le i) (by omega)
  have h3 := mono_le a3 (show i + 1 ≤ ts.length by omega) (Nat.le_refl _)
  by_cases hb : l1 ≤ h1
  · exact (hn i hi).sv.mono (by omega) (by omega)
  · have : ts.length = 0 := by
      rcases hO.2 with ⟨h5, _⟩ | ⟨b, cap, sp, _, h5, h6, _⟩
      · exact h5
      · omega
    omega
theorem RtO.chg {w w' : World} {lo hi l h : Nat} {v : Value} {e f : TypeId} {ts : List Rt} {vs : List Value} (hs : RtO w lo hi v e f ts vs) (hc : Chg l h w w') (ho : hi ≤ l ∨ h ≤ lo) : RtO w' lo hi v e f ts vs := by
  obtain ⟨l1, h1, r, hl, hO, a1, a2, a3, a4, hn⟩ := hs
  have h0 := mono_le a3 (Nat.zero_le ts.length) (Nat.le_refl _)
  by_cases hb : l1 ≤ h1
  · refine ⟨l1, h1, r, hl, hO.chg hc (by omega), a1, a2, a3, a4, fun i hi => (hn i hi).chg hc ?_⟩
    have h2 := mono_le a3 (Nat.zero_le i) (by omega)
    have h3 := mono_le a3 (show i + 1 ≤ ts.length by omega) (Nat.le_refl _)
    omega
  · have hz : ts.length = 0 := by
      rcases hO.2 with ⟨h5, _⟩ | ⟨b, cap, sp, _, h5, h6, _⟩
      · exact h5
      · omega
    refine ⟨l1, h1, r, hl, ⟨hO.1, ?_⟩, a1, a2, a3, a4, fun i hi => by omega⟩
    rcases hO.2 with h5 | ⟨b, cap, sp, _, h5, h6, _⟩
    · exact .inl h5
    · omega
theorem RtO.ext {w w' : World} {lo hi : Nat} {v : Value} {e f : TypeId} {ts : List Rt} {vs : List Value} (hs : RtO w lo hi v e f ts vs) (hc : Chg 0 0 w w') : RtO w' lo hi v e f ts vs := hs.chg hc (.inr (Nat.zero_le _))
theorem RtO.mono {w : World} {lo hi lo' hi' : Nat} {v : Value} {e f : TypeId} {ts : List Rt} {vs : List Value} (hs : RtO w lo hi v e f ts vs) (hl : lo' ≤ lo) (hh : hi ≤ hi') : RtO w lo' hi' v e f ts vs := by
  obtain ⟨l1, h1, r, hl1, hO, a1, a2, a3, a4, hn⟩ := hs
  exact ⟨l1, h1, r, hl1, hO, by omega, a2, a3, by omega, hn⟩
theorem rto_copied {w : World} {lo hi : Nat} {v : Value} {e f : TypeId} {ts : List Rt} {us xs : List Value} {r : Nat → Nat} (hO : Own w lo hi v e ts.length 5 xs) (hu : us.length = ts.length) (hx : xs.take (ts.length * 5) = rtCells (ts.take ts.length) us)
    (h1 : hi ≤ r 0) (hm : ∀ i, i < ts.length → r i ≤ r (i + 1)) (hr : r ts.length ≤ w.heap.size) (hn : ∀ i, i < ts.length → OwnI w (r i) (r (i + 1)) (us.getD i vz) f (ts.getD i rt0).2.2.2.1) {lo2 : Nat} (h2 : lo2 ≤ lo) : RtO w lo2 w.heap.size v e f ts us := by
  rw [List.take_length, List.take_of_length_le (by rw [hO.1]; exact Nat.le_refl _)] at hx
  subst hx
  exact ⟨lo, hi, r, hu, hO, h2, h1, hm, hr, hn⟩
def rset (r : Nat → Nat) (k x : Nat) : Nat → Nat := fun j => if j ≤ k then r j else x
theorem rset_at {r : Nat → Nat} {k x : Nat} : rset r k x (k + 1) = x := by unfold rset; rw [if_neg (by omega)]
theorem rset_le {r : Nat → Nat} {k x j : Nat} (h : j ≤ k) : rset r k x j = r j := by unfold rset; rw [if_pos h]
theorem rset_mono {r : Nat → Nat} {k x : Nat} (h : ∀ i, i < k → r i ≤ r (i + 1)) (hx : r k ≤ x) : ∀ i, i < k + 1 → rset r k x i ≤ rset r k x (i + 1) := fun i hi => by
  by_cases e : i = k
  · subst e; rw [rset_at, rset_le (Nat.le_refl _)]; exact hx
  · rw [rset_le (by omega), rset_le (by omega)]; exact h i (by omega)
theorem nesto_next {w w' : World} {lo hi x : Nat} {f : TypeId} {ts : List Rt} {us : List Value} {k : Nat} {v : Value} {r : Nat → Nat} (hu : us.length = k) (hm : ∀ i, i < k → r i ≤ r (i + 1)) (h : ∀ i, i < k → OwnI w (r i) (r (i + 1)) (us.getD i vz) f (ts.getD i rt0).2.2.2.1) (hc : Chg lo hi w w') (ho : hi ≤ r 0)
    (hv : OwnI w' (r k) x v f (ts.getD k rt0).2.2.2.1) : ∀ i, i < k + 1 → OwnI w' (rset r k x i) (rset r k x (i + 1)) ((us ++ [v]).getD i vz) f (ts.getD i rt0).2.2.2.1 := fun i hi => by
  by_cases e : i = k
  · subst e; rw [getD_append_at hu.symm, rset_at, rset_le (Nat.le_refl _)]; exact hv
  · rw [getD_append_left' (by omega), rset_le (by omega), rset_le (by omega)]
    have := mono_le hm (Nat.zero_le i) (by omega)
    exact (h i (by omega)).chg hc (.inr (by omega))
theorem nest_rest {w w' : World} {l : Nat} {f : TypeId} {ts : List Rt} {vs : List Value} {k n : Nat} {r : Nat → Nat} (hm : ∀ i, i < n → r i ≤ r (i + 1)) (h : ∀ i, k ≤ i → i < n → OwnI w (r i) (r (i + 1)) (vs.getD i vz) f (ts.getD i rt0).2.2.2.1) (hc : Chg l (r (k + 1)) w w') :
    ∀ i, k + 1 ≤ i → i < n → OwnI w' (r i) (r (i + 1)) (vs.getD i vz) f (ts.getD i rt0).2.2.2.1 := fun i hi hn =>
  (h i (by omega) hn).chg hc (.inr (mono_le hm hi (by omega)))
theorem cells_rest {xs ys : List Value} {vs : List Value} {k n : Nat} (h : ∀ i, k ≤ i → i < n → xs[i * 5 + 3]? = some (vs.getD i vz)) (he : ∀ j, k * 5 + 5 ≤ j → ys[j]? = xs[j]?) : ∀ i, k + 1 ≤ i → i < n → ys[i * 5 + 3]? = some (vs.getD i vz) := fun i hi hn => by
  rw [he _ (by omega)]; exact h i (by omega) hn
theorem rt_mag {ts : List Rt} {vs : List Value} {n : Nat} (hl : vs.length = ts.length) (hn : n = ts.length) : ∀ i, 0 ≤ i → i < n → (rtCells ts vs)[i * 5 + 3]? = some (vs.getD i vz) := fun i _ hi => by
  rw [rtCells_at hl (by omega) (by decide)]; rfl
section
variable {P : Program} {n : Nat} {Q : Exit → Act → World → Prop} {fr fr' : Fr} {w : World} {ops : Array Oper} {rest : List Oper} {d : Nat} {ty : TypeId} {pos : String} {aft : Array Edge} {dst : Option Tmp} {g : Option (Nat × Bool)}
theorem px_convU8 {x : Operand} {S T : TypeId} {u : TypeDesc} {a : Int} (hS : P.underlying S = some u) (hT : P.underlying T = some (.int .u8)) (hx : ev fr x = some (.int .i64 a)) (hr : 0 ≤ a ∧ a ≤ 255) : Px P n fr ⟨dst, .convert S T x, ty, pos, aft, g⟩ (.int .u8 a) w :=
  fun c ha => by
    have e : IntKind.u8.wrap a = a := by
      have e : IntKind.u8.wrap a = a % 256 := by simp [IntKind.wrap, IntKind.bits, IntKind.signed]
      rw [e]; omega
    simp [execOp, ha.ev hx, convert, run_underlying hS, run_underlying hT, Conv.intToInt, e]
def byteS (a : Int) : ByteArray := ByteArray.empty.push (UInt8.ofNat a.toNat)
theorem byteS_size (a : Int) : (byteS a).size = 1 := rfl
theorem px_convS1 {x : Operand} {S T e : TypeId} {lo hi : Nat} {v : Value} {a : Int} (hS : P.underlying S = some (.slice e)) (hT : P.underlying T = some .string) (he : P.underlying e = some (.int .u8)) (hx : ev fr x = some v) (hs : Sv w lo hi v 1 1 [.int .u8 a]) : Px P n fr ⟨dst, .convert S T x, ty, pos, aft, g⟩ (.string (byteS a)) w :=
  fun c ha => by
    have hc := hs.cell (j := 0) (u := .int .u8 a) rfl
    rcases hs.2 with ⟨h, _⟩ | ⟨b, off, cap, cs, T', fz, rfl, _, _, h3, h4⟩
    · cases h
    · simp only [vblk, voff, Nat.add_zero] at hc
      have hl : (loadCells ⟨b, off, none⟩ 1).run P w = .ok #[.int .u8 a] w := by
        have := run_loadCells_list (P := P) w ⟨b, off, none⟩ [.int .u8 a] (fun j v hj => by
          match j, hj with
          | 0, hj => simp at hj; subst hj; simpa [Addr.add] using hc
          | j + 1, hj => simp at hj)
        simpa using this
      simp [execOp, ha.ev hx, convert, run_underlying hS, run_underlying hT, run_underlying he, Conv.bytesToString, hl, byteS]
end
end Go.Proofs.Ytjkeefmpjocilaa
namespace Go.Proofs.Ytjkeefmpjocilaa
open Go Go.RowKit
theorem rt_lookD {xs : List Value} {o : Nat} {a b c d e : Value} (h : ∀ j u, [a, b, c, d, e][j]? = some u → xs[o + j]? = some u) : ∀ j u, [c, d, e][j]? = some u → xs[o + 2 + j]? = some u := fun j u hj => by
  have := h (2 + j) u (by
    match j, hj with
    | 0, hj => exact hj
    | 1, hj => exact hj
    | 2, hj => exact hj
    | j + 3, hj => simp at hj)
  rwa [← Nat.add_assoc] at this
end Go.Proofs.Ytjkeefmpjocilaa

namespace Go.Proofs.Ytjkeefmpjocilaa
open Go Go.RowKit
def strB (s : ByteArray) (j : Nat) : Int := ((s[j]?.getD 0).toNat : Int)
theorem strB_range (s : ByteArray) (j : Nat) : 0 ≤ strB s j ∧ strB s j ≤ 255 := by
  unfold strB
  have := (s[j]?.getD 0).toNat_lt
  omega
section
variable {P : Program} {n : Nat} {Q : Exit → Act → World → Prop} {fr fr' : Fr} {w : World} {ops : Array Oper} {rest : List Oper} {d : Nat} {ty : TypeId} {pos : String} {aft : Array Edge} {dst : Option Tmp} {g : Option (Nat × Bool)}
theorem px_strTo {x y : Operand} {T : TypeId} {s : ByteArray} {h : Nat} {i : Int} (hx : ev fr x = some (.string s)) (hy : ev fr y = some (.int .i64 i)) (hi : i = (h : Int)) (hT : P.underlying T = some .string) (hh : h ≤ s.size) :
    Px P n fr ⟨dst, .slice T x none (some y) none, ty, pos, aft, g⟩ (.string (s.extract 0 h)) w := by
  subst hi
  intro a ha
  simp [execOp, ha.ev hx, ha.ev hy, Instr.sliceAt, run_underlying hT, Instr.slice, Instr.sliceBounds, Instr.sliceBound, asIntOf, hh]
theorem px_strFrom {x y : Operand} {T : TypeId} {s : ByteArray} {l : Nat} {i : Int} (hx : ev fr x = some (.string s)) (hy : ev fr y = some (.int .i64 i)) (hi : i = (l : Int)) (hT : P.underlying T = some .string) (hh : l ≤ s.size) :
    Px P n fr ⟨dst, .slice T x (some y) none none, ty, pos, aft, g⟩ (.string (s.extract l s.size)) w := by
  subst hi
  intro a ha
  simp [execOp, ha.ev hx, ha.ev hy, Instr.sliceAt, run_underlying hT, Instr.slice, Instr.sliceBounds, Instr.sliceBound, asIntOf, hh]
theorem px_strMid {x y z : Operand} {T : TypeId} {s : ByteArray} {l h : Nat} {i j : Int} (hx : ev fr x = some (.string s)) (hy : ev fr y = some (.int .i64 i)) (hz : ev fr z = some (.int .i64 j)) (hi : i = (l : Int)) (hj : j = (h : Int)) (hT : P.underlying T = some .string) (hl : l ≤ h) (hh : h ≤ s.size) :
    Px P n fr ⟨dst, .slice T x (some y) (some z) none, ty, pos, aft, g⟩ (.string (s.extract l h)) w := by
  subst hi; subst hj
  intro a ha
  simp [execOp, ha.ev hx, ha.ev hy, ha.ev hz, Instr.sliceAt, run_underlying hT, Instr.slice, Instr.sliceBounds, Instr.sliceBound, asIntOf, hh, hl]
theorem px_indexS {x y : Operand} {T : TypeId} {s : ByteArray} {j : Nat} {i : Int} (hx : ev fr x = some (.string s)) (hy : ev fr y = some (.int .i64 i)) (hj : i = (j : Int)) (hT : P.underlying T = some .string) (h1 : j < s.size) :
    Px P n fr ⟨dst, .index T x y, ty, pos, aft, g⟩ (.int .u8 (strB s j)) w := by
  subst hj
  intro a ha
  have e : s[j]? = some s[j] := getElem?_pos s j h1
  simp [execOp, ha.ev hx, ha.ev hy, Instr.index, asIntOf, run_underlying hT, e, strB]
theorem px_geS {x y : Operand} {T U : TypeId} {s t : ByteArray} (hx : ev fr x = some (.string s)) (hy : ev fr y = some (.string t)) : Px P n fr ⟨dst, .binOp .geq T x y U, ty, pos, aft, g⟩ (.bool (!Op.bytesLess s.toList t.toList)) w := fun a ha => by
  simp [execOp, ha.ev hx, ha.ev hy, eqGuard, binOp, Op.stringOp]
end
end Go.Proofs.Ytjkeefmpjocilaa
