/- Plain lemmas on numbers and lists; no program in sight. Conditions: none. -/
import Derived.Test.YtoeclobdbblohaaDoorSxB
set_option linter.unusedVariables false
set_option linter.unusedSimpArgs false
namespace Go.Proofs.YtoeclobdbblohaaDoor
open Go Go.RowKit
/-! ### slices of rates -/
abbrev Rt := ByteArray × ByteArray × Bool × List Int × Int
abbrev rt0 : Rt := (⟨#[]⟩, ⟨#[]⟩, false, [], 0)
abbrev RB (r : Rt) : Prop := r.1.size ≤ 9223372036854775807 ∧ r.2.1.size ≤ 9223372036854775807 ∧ r.2.2.2.1.length ≤ 9223372036854775807
abbrev vz : Value := .slice none 0 0
abbrev rtc (r : Rt) (v : Value) : List Value := [.string r.1, .string r.2.1, .bool r.2.2.1, v, .int .i64 r.2.2.2.2]
def rtCells : List Rt → List Value → List Value
  | r :: ts, v :: vs => rtc r v ++ rtCells ts vs
  | _, _ => []
theorem rtCells_len : ∀ {ts : List Rt} {vs : List Value}, vs.length = ts.length → (rtCells ts vs).length = ts.length * 5
  | [], [], _ => rfl
  | r :: ts, v :: vs, h => by
    have := rtCells_len (ts := ts) (vs := vs) (by simpa using h)
    simp only [rtCells, List.length_append, List.length_cons, List.length_nil, this]; omega
theorem rtCells_at : ∀ {ts : List Rt} {vs : List Value} {i q : Nat}, vs.length = ts.length → i < ts.length → q < 5 → (rtCells ts vs)[i * 5 + q]? = (rtc (ts.getD i rt0) (vs.getD i vz))[q]?
  | [], _, _, _, _, h, _ => by simp at h
  | r :: ts, [], _, _, h, _, _ => by simp at h
  | r :: ts, v :: vs, 0, q, _, _, hq => by
    simp only [rtCells, Nat.zero_mul, Nat.zero_add, List.getD_cons_zero]
    exact List.getElem?_append_left (by simpa using hq)
  | r :: ts, v :: vs, i + 1, q, hl, hi, hq => by
    have h := rtCells_at (ts := ts) (vs := vs) (i := i) (q := q) (by simpa using hl) (by simpa using hi) hq
    simp only [rtCells, List.getD_cons_succ]
    rw [List.getElem?_append_right (by simp only [List.length_cons, List.length_nil]; omega), ← h]
    congr 1
    simp only [List.length_cons, List.length_nil]; omega
theorem rt_look {ts : List Rt} {vs : List Value} {i : Nat} (hl : vs.length = ts.length) (hi : i < ts.length) : ∀ j u, (rtc (ts.getD i rt0) (vs.getD i vz))[j]? = some u → (rtCells ts vs)[i * 5 + j]? = some u := fun j u hj => by
  have : j < 5 := by
    rcases Nat.lt_or_ge j 5 with h | h
    · exact h
    · rw [List.getElem?_eq_none (by simpa using h)] at hj; cases hj
  rw [rtCells_at hl hi this]; exact hj
theorem rt_look1 {ts : List Rt} {vs : List Value} {i q : Nat} {u : Value} (hl : vs.length = ts.length) (hi : i < ts.length) (hq : (rtc (ts.getD i rt0) (vs.getD i vz))[q]? = some u) : (rtCells ts vs)[i * 5 + q]? = some u := rt_look hl hi q u hq
/-- a slice of rates that is read -/
structure RtS (w : World) (lo hi : Nat) (v : Value) (ts : List Rt) (vs : List Value) : Prop where
  len : vs.length = ts.length
  sv : Sv w lo hi v ts.length 5 (rtCells ts vs)
  nest : ∀ i, i < ts.length → Sl w lo hi (vs.getD i vz) (ts.getD i rt0).2.2.2.1
theorem RtS.chg {w w' : World} {lo hi l h : Nat} {v : Value} {ts : List Rt} {vs : List Value} (hs : RtS w lo hi v ts vs) (hc : Chg l h w w') (ho : hi ≤ l ∨ h ≤ lo) : RtS w' lo hi v ts vs := ⟨hs.len, hs.sv.chg hc ho, fun i hi => (hs.nest i hi).chg hc ho⟩
theorem RtS.ext {w w' : World} {lo hi : Nat} {v : Value} {ts : List Rt} {vs : List Value} (hs : RtS w lo hi v ts vs) (hc : Chg 0 0 w w') : RtS w' lo hi v ts vs := hs.chg hc (.inr (Nat.zero_le _))
theorem RtS.mono {w : World} {lo hi lo' hi' : Nat} {v : Value} {ts : List Rt} {vs : List Value} (hs : RtS w lo hi v ts vs) (hl : lo' ≤ lo) (hh : hi ≤ hi') : RtS w lo' hi' v ts vs := ⟨hs.len, hs.sv.mono hl hh, fun i h => (hs.nest i h).mono hl hh⟩
theorem RtS.fit {w : World} {lo hi : Nat} {v : Value} {ts : List Rt} {vs : List Value} (hs : RtS w lo hi v ts vs) : RtS w lo w.heap.size v ts vs := ⟨hs.len, hs.sv.fit, fun i h => (hs.nest i h).fit⟩
theorem RtS.one {w : World} {lo hi : Nat} {v : Value} {ts : List Rt} {vs : List Value} (hs : RtS w lo hi v ts vs) : v.oneCell' = true := hs.sv.one
theorem RtS.nil (w : World) (lo hi : Nat) : RtS w lo hi (.slice none 0 0) [] [] := ⟨rfl, Sv.nil _ _ _ _, fun _ h => by simp at h⟩
/-- out of parts: the row, and what hangs on it -/
theorem getD_append_left' {α : Type} {l k : List α} {d : α} {i : Nat} (h : i < l.length) : (l ++ k).getD i d = l.getD i d := by
  simp only [List.getD_eq_getElem?_getD]; rw [List.getElem?_append_left h]
theorem getD_append_at {α : Type} {l : List α} {x d : α} {i : Nat} (h : i = l.length) : (l ++ [x]).getD i d = x := by
  subst h; simp
theorem rtCells_snoc : ∀ {ts : List Rt} {vs : List Value} {r : Rt} {v : Value}, vs.length = ts.length → rtCells (ts ++ [r]) (vs ++ [v]) = rtCells ts vs ++ rtc r v
  | [], [], _, _, _ => by simp [rtCells]
  | a :: ts, b :: vs, r, v, h => by
    simp only [List.cons_append, rtCells, rtCells_snoc (ts := ts) (vs := vs) (r := r) (v := v) (by simpa using h), List.append_assoc]
  | [], _ :: _, _, _, h => by simp at h
  | _ :: _, [], _, _, h => by simp at h
theorem take_snoc {ts : List Rt} {k : Nat} (h : k < ts.length) : ts.take (k + 1) = ts.take k ++ [ts.getD k rt0] := by
  rw [List.take_succ_eq_append_getElem h]; simp [List.getElem?_eq_getElem h]
theorem rt_take_succ_eq {ts us : List Rt} {k : Nat} (h : ts.take k = us.take k) (h1 : k < ts.length) (h2 : k < us.length) (e : ts.getD k rt0 = us.getD k rt0) : ts.take (k + 1) = us.take (k + 1) := by
  rw [take_snoc h1, take_snoc h2, h, e]
section
variable {P : Program} {n : Nat} {Q : Exit → Act → World → Prop} {fr fr' : Fr} {w : World} {ops : Array Oper} {rest : List Oper} {d : Nat} {ty : TypeId} {pos : String} {aft : Array Edge} {dst : Option Tmp} {g : Option (Nat × Bool)}
/-- a store of a value of several cells into an owned row -/
theorem sx_storeOA {x y : Operand} {T e : TypeId} {lo hi m k j : Nat} {xs vs : List Value} {v u : Value} (hx : ev fr x = some (.pointer (some ⟨vblk v, voff v + j, none⟩))) (hy : ev fr y = some u)
    (hs : Own w lo hi v e m k xs) (hv : u.cells = vs.toArray) (hv0 : 0 < vs.length) (hj : j + vs.length ≤ xs.length) (hS : ∀ w, (sizeOf T).run P w = .ok vs.length w) (h1 : ∀ u ∈ vs, u.oneCell' = true)
    (h : ∀ w', w'.heap.size = w.heap.size → Own w' lo hi v e m k (xs.take j ++ vs ++ xs.drop (j + vs.length)) → Chg lo hi w w' → wl P n ops Q rest fr w') : wl P n ops Q (⟨none, .store T x y, ty, pos, aft, none⟩ :: rest) fr w := by
  rcases hs.2 with ⟨rfl, rfl⟩ | ⟨b, cap, sp, rfl, h1', h2, h3, h4, h5, h6⟩
  · have := hs.1; simp only [Nat.zero_mul] at this; omega
  · simp only [vblk, voff, Nat.zero_add] at hx
    have e1 : (xs ++ sp).take j ++ vs ++ (xs ++ sp).drop (j + vs.length) = xs.take j ++ vs ++ xs.drop (j + vs.length) ++ sp := by
      rw [List.take_append_of_le_length (by omega), List.drop_append_of_le_length (by omega)]; simp only [List.append_assoc]
    have hrun := run_storeBlk (P := P) (o := j) h5 hv hS (by simp only [List.length_append]; omega) h1
    rw [e1] at hrun
    refine sx_unit (w' := w.setRow b (xs.take j ++ vs ++ xs.drop (j + vs.length) ++ sp).toArray) rfl rfl
      (fun a ha => by simp [execOp, ha.ev hx, ha.ev hy, Instr.storeAt, Instr.sureAddr, hrun]) (h _ (by simp [World.setRow]) ⟨?_, .inr ⟨b, cap, sp, rfl, h1', h2, h3, h4, h5.setRow _, ?_⟩⟩ ((Chg.setRow b _).mono h1' (by omega)))
    · rw [← hs.1]; simp only [List.length_append, List.length_take, List.length_drop]; omega
    · rw [← h6]; simp only [List.length_append, List.length_take, List.length_drop]; omega
/-! ### maps from pairs of texts -/
/-- block b is a map that says true at these keys and has no others -/
def Mp (w : World) (b : Nat) (ks : List (ByteArray × ByteArray)) : Prop := ∃ es clock, w.heap[b]? = some (.map es clock) ∧ es.toList.map (fun e => (e.key, e.val)) = ks.map fun p => (Value.agg #[.string p.1, .string p.2], Value.bool true)
theorem Mp.lt {w : World} {b : Nat} {ks : List (ByteArray × ByteArray)} (h : Mp w b ks) : b < w.heap.size := by
  obtain ⟨es, c, h, _⟩ := h
  rcases Nat.lt_or_ge b w.heap.size with h' | h'
  · exact h'
  · simp [Array.getElem?_eq_none h'] at h
theorem Mp.chg {w w' : World} {b l h : Nat} {ks : List (ByteArray × ByteArray)} (hb : Mp w b ks) (hc : Chg l h w w') (ho : b < l ∨ h ≤ b) : Mp w' b ks := by
  have hlt := hb.lt
  obtain ⟨es, c, h1, h2⟩ := hb
  exact ⟨es, c, (hc.block b hlt ho).trans h1, h2⟩
theorem Mp.ext {w w' : World} {b : Nat} {ks : List (ByteArray × ByteArray)} (hb : Mp w b ks) (hc : Chg 0 0 w w') : Mp w' b ks := hb.chg hc (.inr (Nat.zero_le _))
theorem sx_makeMap {T : TypeId} (hn : Nat.blt d n = true)
    (h : ∀ b w', b = w.heap.size → w'.heap.size = b + 1 → Mp w' b [] → Chg 0 0 w w' → wl P n ops Q rest ((d, .map (some b)) :: fr) w') : wl P n ops Q (⟨some d, .makeMap T none, ty, pos, aft, none⟩ :: rest) fr w :=
  sx_val (w' := w.alloc (.map #[] 0)) rfl rfl hn (fun a _ => by simp [execOp, Instr.makeMap, newObj, Sem.run]) (h _ _ rfl (size_alloc w _) ⟨#[], 0, by unfold World.alloc; simp, rfl⟩ (Chg.alloc w _))
end
instance memDec (k : ByteArray × ByteArray) (ks : List (ByteArray × ByteArray)) : Decidable (k ∈ ks) := decidable_of_iff (∃ x, x ∈ ks ∧ x = k) ⟨fun ⟨_, h, e⟩ => e ▸ h, fun h => ⟨k, h, rfl⟩⟩
/-- what is asked of the type of the keys: a struct of two texts -/
structure PairT (P : Program) (T : TypeId) : Prop where
  eq : ∀ (a b c d : ByteArray) (w : World), (Op.equal T (.agg #[.string a, .string b]) (.agg #[.string c, .string d])).run P w = .ok (decide (a = c ∧ b = d)) w
  key : ∀ (e : Bool) (a b : ByteArray) (w : World), (Instr.checkKey e 10000 T (.agg #[.string a, .string b])).run P w = .ok () w
  str : ∃ fs, P.underlying T = some (.struct fs)
  guard : P.eqGuardType P.depth T = false
theorem run_find {P : Program} {T : TypeId} (hT : PairT P T) (a b : ByteArray) (w : World) : ∀ (es : List MapEntry) (ks : List (ByteArray × ByteArray)) (i : Nat), es.map (fun e => (e.key, e.val)) = ks.map (fun p => (Value.agg #[.string p.1, .string p.2], Value.bool true)) →
    ∃ r, (Instr.findAsking T (.agg #[.string a, .string b]) es i).run P w = .ok r w ∧ (if (a, b) ∈ ks then ∃ j, r = some (j, .bool true) else r = none)
  | [], [], i, _ => ⟨none, by simp [Instr.findAsking], by simp⟩
  | [], _ :: _, _, h => by simp at h
  | _ :: _, [], _, h => by simp at h
  | e :: es, p :: ks, i, h => by
    simp only [List.map_cons, List.cons.injEq, Prod.mk.injEq] at h
    obtain ⟨⟨h1, h2⟩, h3⟩ := h
    by_cases hp : a = p.1 ∧ b = p.2
    · refine ⟨some (i, .bool true), ?_, ?_⟩
      · simp only [Instr.findAsking]
        rw [h1, run_bind_ok _ _ (hT.eq a b p.1 p.2 w)]
        simp [hp, h2]
      · have : (a, b) ∈ p :: ks := by rw [show (a, b) = p from Prod.ext hp.1 hp.2]; exact List.mem_cons_self ..
        rw [if_pos this]; exact ⟨i, rfl⟩
    · obtain ⟨r, hr, hm⟩ := run_find hT a b w es ks (i + 1) h3
      refine ⟨r, ?_, ?_⟩
      · simp only [Instr.findAsking]
        rw [h1, run_bind_ok _ _ (hT.eq a b p.1 p.2 w)]
        rw [decide_eq_false hp]
        simpa using hr
      · have : (a, b) ∈ p :: ks ↔ (a, b) ∈ ks := by
          rw [List.mem_cons]
          exact ⟨fun h => h.resolve_left fun h => hp ⟨congrArg (·.1) h, congrArg (·.2) h⟩, .inr⟩
        simp only [this]; exact hm
theorem run_findKey {P : Program} {T : TypeId} (hT : PairT P T) (a b : ByteArray) (w : World) (es : List MapEntry) (ks : List (ByteArray × ByteArray)) (h : es.map (fun e => (e.key, e.val)) = ks.map (fun p => (Value.agg #[.string p.1, .string p.2], Value.bool true))) :
    ∃ r, (Instr.findKey T (.agg #[.string a, .string b]) es).run P w = .ok r w ∧ (if (a, b) ∈ ks then ∃ j, r = some (j, .bool true) else r = none) := by
  obtain ⟨fs, hf⟩ := hT.str
  cases es with
  | nil =>
    cases ks with
    | nil => exact ⟨none, by simp [Instr.findKey, run_underlying hf, Instr.findNow], by simp⟩
    | cons p ks => simp at h
  | cons e es =>
    obtain ⟨r, hr, hm⟩ := run_find hT a b w (e :: es) ks 0 h
    refine ⟨r, ?_, hm⟩
    simp only [Instr.findKey]
    rw [run_bind_ok _ _ (run_underlying hf w)]
    simp only [Instr.findNow, Instr.sameNow]
    exact hr
section
variable {P : Program} {n : Nat} {Q : Exit → Act → World → Prop} {fr fr' : Fr} {w : World} {ops : Array Oper} {rest : List Oper} {d : Nat} {ty : TypeId} {pos : String} {aft : Array Edge} {dst : Option Tmp} {g : Option (Nat × Bool)}
theorem px_lookupM {x y : Operand} {T K E : TypeId} {b : Nat} {a c : ByteArray} {ks : List (ByteArray × ByteArray)} (hx : ev fr x = some (.map (some b))) (hy : ev fr y = some (.agg #[.string a, .string c])) (hT : P.underlying T = some (.map K E)) (hK : PairT P K)
    (hz : ∀ w, (zeroValue E).run P w = .ok (.bool false) w) (hm : Mp w b ks) : Px P n fr ⟨dst, .lookup T x y false, ty, pos, aft, g⟩ (.bool (decide ((a, c) ∈ ks))) w := fun ac ha => by
  obtain ⟨es, cl, h1, h2⟩ := hm
  obtain ⟨r, hr, hmem⟩ := run_findKey hK a c w es.toList ks h2
  have hget : (getObj b).run P w = .ok (.map es cl) w := by simp [getObj, Sem.run, h1]
  by_cases hp : (a, c) ∈ ks
  · rw [if_pos hp] at hmem
    obtain ⟨j, rfl⟩ := hmem
    simp [execOp, ha.ev hx, ha.ev hy, Instr.lookup, run_underlying hT, hget, hK.key, hr, Result.andThen, hp]
  · rw [if_neg hp] at hmem
    subst hmem
    simp [execOp, ha.ev hx, ha.ev hy, Instr.lookup, run_underlying hT, hget, hK.key, hr, Result.andThen, hz, hp]
theorem sx_mapUpdateM {x y z : Operand} {T K E : TypeId} {b : Nat} {a c : ByteArray} {ks : List (ByteArray × ByteArray)} (hx : ev fr x = some (.map (some b))) (hy : ev fr y = some (.agg #[.string a, .string c])) (hzv : ev fr z = some (.bool true)) (hT : P.underlying T = some (.map K E)) (hK : PairT P K)
    (hm : Mp w b ks) (hnew : (a, c) ∉ ks) (h : ∀ w', w'.heap.size = w.heap.size → Mp w' b (ks ++ [(a, c)]) → Chg b (b + 1) w w' → wl P n ops Q rest fr w') : wl P n ops Q (⟨none, .mapUpdate T x y z, ty, pos, aft, none⟩ :: rest) fr w := by
  have hlt := hm.lt
  obtain ⟨es, cl, h1, h2⟩ := hm
  obtain ⟨r, hr, hmem⟩ := run_findKey hK a c w es.toList ks h2
  rw [if_neg hnew] at hmem
  subst hmem
  have hget : (getObj b).run P w = .ok (.map es cl) w := by simp [getObj, Sem.run, h1]
  have hset : ∀ o, (setObj b o).run P w = .ok () { w with heap := w.heap.setIfInBounds b o } := fun o => by simp [setObj, Sem.run, h1]
  refine sx_unit (w' := { w with heap := w.heap.setIfInBounds b (.map (es.push { key := .agg #[.string a, .string c], val := .bool true, born := cl }) (cl + 1)) }) rfl rfl (fun ac ha => ?_) (h _ ?_ ⟨es.push { key := .agg #[.string a, .string c], val := .bool true, born := cl }, cl + 1, ?_, ?_⟩ ⟨rfl, rfl, rfl, ?_, fun k _ ho => ?_⟩)
  · simp [execOp, ha.ev hx, ha.ev hy, ha.ev hzv, Instr.mapUpdate, run_underlying hT, hget, hK.key, hr, hset, Result.andThen]
  · simp
  · simp [hlt]
  · simp [h2]
  · simp
  · exact Array.getElem?_setIfInBounds_ne (by omega)
/-- two pairs compared -/
theorem px_eqPair {x y : Operand} {T U : TypeId} {a b c e : ByteArray} (hx : ev fr x = some (.agg #[.string a, .string b])) (hy : ev fr y = some (.agg #[.string c, .string e])) (hT : PairT P T) : Px P n fr ⟨dst, .binOp .eql T x y U, ty, pos, aft, g⟩ (.bool (decide (a = c ∧ b = e))) w := fun ac ha => by
  simp [execOp, ha.ev hx, ha.ev hy, eqGuard, binOp, hT.eq, hT.guard]
end
end Go.Proofs.YtoeclobdbblohaaDoor
