/- The lemmas of a walk over association-list frames: each code form, each operation, memory as intervals of blocks. Conditions: none. -/
import Derived.Test.YtjkeefmpjocilaaRows
import Derived.WalkKit
import Derived.WalkSpells
import Derived.WalkLawsBesides
import Derived.OrdersHeld
set_option linter.unusedVariables false
set_option linter.unusedSimpArgs false
namespace Go.Proofs.Ytjkeefmpjocilaa
open Go Go.RowKit

/-! ### frames as association lists -/
abbrev Fr := List (Nat × Value)
def alook : Fr → Nat → Option Value
  | [], _ => none
  | (k, v) :: l, t => bif Nat.beq k t then some v else alook l t
structure Agr (n : Nat) (fr : Fr) (a : Act) : Prop where
  size : a.tmps.size = n
  defs : a.defers = []
  look : ∀ t v, alook fr t = some v → a.tmps[t]? = some v
def ev (fr : Fr) : Operand → Option Value
  | .tmp t => alook fr t
  | .const v => some v
  | .global g => some (.pointer (some ⟨g, 0, none⟩))
  | .func f => some (.func (.func f) #[] #[])
theorem Agr.ev {n : Nat} {fr : Fr} {a : Act} (h : Agr n fr a) {x : Operand} {v : Value} (hx : ev fr x = some v) : a.eval x = v := by
  cases x with
  | tmp t => simp [Act.eval, h.look t v hx]
  | const u => exact Option.some.inj hx
  | global g => exact Option.some.inj hx
  | func f => exact Option.some.inj hx
theorem beq_ne {d t : Nat} (e : ¬ d = t) : Nat.beq d t = false := by
  cases hb : Nat.beq d t
  · rfl
  · exact absurd (Nat.eq_of_beq_eq_true hb) e
theorem Agr.put {n : Nat} {fr : Fr} {a : Act} (h : Agr n fr a) (d : Nat) (hd : d < n) (v : Value) : Agr n ((d, v) :: fr) (a.put (some d) v) := by
  refine ⟨by simp [Act.put, h.size], by simp [Act.put, h.defs], fun t u ht => ?_⟩
  simp only [alook] at ht
  by_cases e : d = t
  · subst e
    simp at ht
    subst ht
    simp [Act.put, h.size, hd]
  · have := beq_ne e
    rw [this] at ht
    simp only [cond_false] at ht
    simp [Act.put, Array.getElem?_setIfInBounds_ne e, h.look t u ht]
theorem Agr.put_none {n : Nat} {fr : Fr} {a : Act} (h : Agr n fr a) (v : Value) : Agr n fr (a.put none v) := h
theorem alook_mem {fr : Fr} {t : Nat} {v : Value} (h : alook fr t = some v) : (t, v) ∈ fr := by
  induction fr with
  | nil => simp [alook] at h
  | cons p l ih =>
    obtain ⟨k, u⟩ := p
    simp only [alook] at h
    by_cases e : k = t
    · subst e; simp at h; subst h; simp
    · have := beq_ne e
      rw [this] at h
      exact List.mem_cons_of_mem _ (ih h)
def Sub (fr fr' : Fr) : Prop := ∀ p ∈ fr', alook fr p.1 = some p.2
theorem Agr.sub {n : Nat} {fr fr' : Fr} {a : Act} (h : Agr n fr a) (hs : Sub fr fr') : Agr n fr' a :=
  ⟨h.size, h.defs, fun t v ht => h.look t v (hs (t, v) (alook_mem ht))⟩
theorem Sub.nil {fr : Fr} : Sub fr [] := fun _ h => by cases h
theorem Sub.cons {fr fr' : Fr} {t : Nat} {v : Value} (h : alook fr t = some v) (hs : Sub fr fr') : Sub fr ((t, v) :: fr') := fun p hp => by
  rcases List.mem_cons.1 hp with rfl | hp
  · exact h
  · exact hs p hp

/-! ### the goals -/
def qw (n : Nat) (Q : Exit → Act → World → Prop) (e : Exit) (fr : Fr) (w : World) : Prop := ∀ a, Agr n fr a → Q e a w
def kw (n : Nat) (K : Act → World → Prop) (fr : Fr) (w : World) : Prop := ∀ a, Agr n fr a → K a w
def cw (P : Program) (n : Nat) (c : Code) (Q : Exit → Act → World → Prop) (fr : Fr) (w : World) : Prop := ∀ a, Agr n fr a → c.wp P Q a w
def wl (P : Program) (n : Nat) (ops : Array Oper) (Q : Exit → Act → World → Prop) (l : List Oper) (fr : Fr) (w : World) : Prop :=
  ∀ a, Agr n fr a → wpList P ops Q l a w
section
variable {P : Program} {n : Nat} {Q : Exit → Act → World → Prop} {fr fr' : Fr} {w : World} {K : Act → World → Prop}
theorem sx_seq {x y : Code} (h : ∀ K : Act → World → Prop, (∀ fr w, cw P n y Q fr w → kw n K fr w) → cw P n x (Exit.then K Q) fr w) : cw P n (.seq x y) Q fr w :=
  fun a ha => wp_seq (h (y.wp P Q) (fun _ _ hy => hy) a ha)
theorem sx_skip (h : qw n Q .normal fr w) : cw P n .skip Q fr w := fun a ha => wp_skip (h a ha)
theorem sx_exit {i : Nat} (h : qw n Q (.exit i) fr w) : cw P n (.exit i) Q fr w := fun a ha => wp_exit (h a ha)
theorem sx_retc (h : qw n Q .ret fr w) : cw P n .ret Q fr w := fun a ha => wp_ret (h a ha)
theorem sx_block {i : Nat} {c : Code} (h : cw P n c (Exit.inBlock i Q) fr w) : cw P n (.block i c) Q fr w := fun a ha => wp_block (h a ha)
theorem sx_region {i : Nat} {l : List Oper} (h : wl P n l.toArray Q l fr w) : cw P n (.region i l.toArray false) Q fr w := fun a ha => wp_region_lit (h a ha)
theorem sx_condT {c : Operand} {x y : Code} (hc : ev fr c = some (.bool true)) (h : cw P n x Q fr w) : cw P n (.cond c x y) Q fr w := fun a ha => wp_cond_true (ha.ev hc) (h a ha)
theorem sx_condF {c : Operand} {x y : Code} (hc : ev fr c = some (.bool false)) (h : cw P n y Q fr w) : cw P n (.cond c x y) Q fr w := fun a ha => wp_cond_false (ha.ev hc) (h a ha)
theorem sx_condP {c : Operand} {x y : Code} {p : Prop} [Decidable p] (hc : ev fr c = some (.bool (decide p))) (ht : p → cw P n x Q fr w) (hf : ¬ p → cw P n y Q fr w) : cw P n (.cond c x y) Q fr w := by
  by_cases hp : p
  · exact sx_condT (by rw [hc]; simp [hp]) (ht hp)
  · exact sx_condF (by rw [hc]; simp [hp]) (hf hp)
theorem sx_condB {c : Operand} {x y : Code} {b : Bool} (hc : ev fr c = some (.bool b)) (ht : b = true → cw P n x Q fr w) (hf : b = false → cw P n y Q fr w) : cw P n (.cond c x y) Q fr w := by
  cases b
  · exact sx_condF hc (hf rfl)
  · exact sx_condT hc (ht rfl)
theorem sx_sub {c : Code} (hs : Sub fr fr') (h : cw P n c Q fr' w) : cw P n c Q fr w := fun a ha => h a (ha.sub hs)
theorem wl_sub {ops : Array Oper} {l : List Oper} (hs : Sub fr fr') (h : wl P n ops Q l fr' w) : wl P n ops Q l fr w := fun a ha => h a (ha.sub hs)
theorem wl_nil {ops : Array Oper} (h : qw n Q .normal fr w) : wl P n ops Q [] fr w := fun a ha => wpList_nil (h a ha)
theorem q_n (h : kw n K fr w) : qw n (Exit.then K Q) .normal fr w := h
theorem q_e {i : Nat} (h : qw n Q (.exit i) fr w) : qw n (Exit.then K Q) (.exit i) fr w := h
theorem q_r (h : qw n Q .ret fr w) : qw n (Exit.then K Q) .ret fr w := h
theorem q_bn {i : Nat} (h : qw n Q .normal fr w) : qw n (Exit.inBlock i Q) .normal fr w := h
theorem q_br {i : Nat} (h : qw n Q .ret fr w) : qw n (Exit.inBlock i Q) .ret fr w := h
theorem q_bx {i : Nat} (h : qw n Q .normal fr w) : qw n (Exit.inBlock i Q) (.exit i) fr w := fun a ha => by simp only [Exit.inBlock, if_true]; exact h a ha
theorem q_be {i j : Nat} (hij : Nat.beq j i = false) (h : qw n Q (.exit j) fr w) : qw n (Exit.inBlock i Q) (.exit j) fr w := fun a ha => by
  have : j ≠ i := fun e => by subst e; simp at hij
  simp only [Exit.inBlock, if_neg this]; exact h a ha

/-! ### loops -/
theorem least_of {p : Nat → Prop} : ∀ m, p m → ∃ l, p l ∧ ∀ k, p k → l ≤ k := by
  intro m
  induction m using Nat.strongRecOn with
  | _ m ih =>
    intro hm
    by_cases h : ∃ k, k < m ∧ p k
    · obtain ⟨k, hk, hp⟩ := h; exact ih k hk hp
    · exact ⟨m, hm, fun k hk => Nat.le_of_not_lt fun hlt => h ⟨k, hlt, hk⟩⟩
theorem loop_wp {c : Code} {a : Act} (R : Nat → Act → World → Prop) (m : Nat) (h0 : R m a w)
    (h : ∀ m a w, R m a w → c.wp P (Exit.then (fun a' w' => ∃ m', m' < m ∧ R m' a' w') Q) a w) : (Code.loop c).wp P Q a w := by
  have hl : ∀ a w, (∃ m, R m a w) → R (Classical.epsilon fun l => R l a w ∧ ∀ k, R k a w → l ≤ k) a w ∧ ∀ k, R k a w → (Classical.epsilon fun l => R l a w ∧ ∀ k, R k a w → l ≤ k) ≤ k := fun a w ⟨m, hm⟩ =>
    Classical.epsilon_spec (p := fun l => R l a w ∧ ∀ k, R k a w → l ≤ k) (least_of m hm)
  refine wp_loop (fun a w => ∃ m, R m a w) (fun a w => Classical.epsilon fun l => R l a w ∧ ∀ k, R k a w → l ≤ k) ⟨m, h0⟩ fun a w hR => ?_
  refine wp_mono (h _ a w (hl a w hR).1) fun e a' w' hq => ?_
  cases e with
  | normal => obtain ⟨m', hm', hR'⟩ := hq; exact ⟨⟨m', hR'⟩, Nat.lt_of_le_of_lt ((hl a' w' ⟨m', hR'⟩).2 m' hR') hm'⟩
  | _ => exact hq
theorem sx_loop {c : Code} (R : Nat → Act → World → Prop) (m : Nat) (h0 : ∀ a, Agr n fr a → R m a w)
    (h : ∀ m a w, R m a w → c.wp P (Exit.then (fun a' w' => ∃ m', m' < m ∧ R m' a' w') Q) a w) : cw P n (.loop c) Q fr w :=
  fun a ha => loop_wp R m (h0 a ha) h

/-! ### entering and leaving -/
def enumFr : Nat → List Value → Fr
  | _, [] => []
  | i, v :: l => (i, v) :: enumFr (i + 1) l
theorem alook_enum : ∀ (vs : List Value) (i t : Nat) (v : Value), alook (enumFr i vs) t = some v → i ≤ t ∧ vs[t - i]? = some v
  | [], i, t, v, h => by simp [enumFr, alook] at h
  | u :: l, i, t, v, h => by
    simp only [enumFr, alook] at h
    by_cases e : i = t
    · subst e; simp at h; subst h; simp
    · rw [beq_ne e] at h
      obtain ⟨h1, h2⟩ := alook_enum l (i + 1) t v h
      refine ⟨by omega, ?_⟩
      have : t - i = (t - (i + 1)) + 1 := by omega
      rw [this]; simpa using h2
def Ret (P : Program) (f : FuncId) (args : List Value) (w : World) (Post : Value → World → Prop) : Prop :=
  Calls P f args.toArray w fun e w' => ∃ v, e = .returned v ∧ Post v w'
theorem sx_enter {f : FuncId} {fn : Func} {c : Code} {vs : List Value} {Post : Value → World → Prop} (hf : P.funcs[f]? = some fn) (hb : fn.body = some c) (hn : fn.ntmps = n)
    (hle : vs.length ≤ n) (h : cw P n c (bodyPost P fn fun e w' => ∃ v, e = .returned v ∧ Post v w') (enumFr 0 vs) w) : Ret P f vs w Post := by
  refine calls_of_wp hf hb (h _ ⟨?_, rfl, fun t v ht => ?_⟩)
  · simp [hn]; omega
  · obtain ⟨_, h2⟩ := alook_enum vs 0 t v ht
    rw [Nat.sub_zero] at h2
    rw [Array.getElem?_append]
    have hlt : t < vs.length := by
      rcases Nat.lt_or_ge t vs.length with h' | h'
      · exact h'
      · simp [List.getElem?_eq_none h'] at h2
    simp [hlt]; simpa [hlt] using h2
theorem Ret.mono {f : FuncId} {args : List Value} {Post Post' : Value → World → Prop} (h : Ret P f args w Post) (hr : ∀ v w', Post v w' → Post' v w') : Ret P f args w Post' :=
  Calls.mono h fun _ _ ⟨v, he, hp⟩ => ⟨v, he, hr _ _ hp⟩
/-- what one result variable holds -/
def resOne (P : Program) (fr : Fr) (w : World) : ResultVar → Value → Prop
  | .tmp t, v => alook fr t = some v
  | .cell t ty, v => ∃ a, alook fr t = some (.pointer (some a)) ∧ (loadVar ty a).run P w = .ok v w
theorem sx_ret1 {fn : Func} {Post : Value → World → Prop} {r : ResultVar} {v : Value} (hr : fn.results = #[r]) (h1 : resOne P fr w r v) (hp : Post v w) :
    qw n (bodyPost P fn fun e w' => ∃ v, e = .returned v ∧ Post v w') .ret fr w := fun a ha => by
  refine ⟨ha.defs, v, ?_, v, rfl, hp⟩
  cases r with
  | tmp t => simp [results, hr, ha.look t v h1]
  | cell t ty =>
    obtain ⟨ad, h2, h3⟩ := h1
    simp [results, hr, ha.look t _ h2, asAddr, h3]
theorem sx_ret2 {fn : Func} {Post : Value → World → Prop} {r s : ResultVar} {v u : Value} (hr : fn.results = #[r, s]) (h1 : resOne P fr w r v) (h2 : resOne P fr w s u) (hp : Post (.tuple #[v, u]) w) :
    qw n (bodyPost P fn fun e w' => ∃ v, e = .returned v ∧ Post v w') .ret fr w := fun a ha => by
  refine ⟨ha.defs, _, ?_, _, rfl, hp⟩
  cases r with
  | tmp t =>
    cases s with
    | tmp t' => simp [results, hr, ha.look t v h1, ha.look t' u h2]
    | cell t' ty =>
      obtain ⟨ad, h4, h3⟩ := h2
      simp [results, hr, ha.look t v h1, ha.look t' _ h4, asAddr, h3]
  | cell t ty =>
    obtain ⟨ad, h5, h6⟩ := h1
    cases s with
    | tmp t' => simp [results, hr, ha.look t _ h5, asAddr, h6, ha.look t' u h2]
    | cell t' ty =>
      obtain ⟨ad', h4, h3⟩ := h2
      simp [results, hr, ha.look t _ h5, asAddr, h6, ha.look t' _ h4, h3]
end
/-! ### memory -/
structure Chg (l h : Nat) (w w' : World) : Prop where
  os : w'.os = w.os
  tape : w'.tape = w.tape
  output : w'.output = w.output
  size : w.heap.size ≤ w'.heap.size
  block : ∀ k, k < w.heap.size → (k < l ∨ h ≤ k) → w'.heap[k]? = w.heap[k]?
theorem Chg.refl (l h : Nat) (w : World) : Chg l h w w := ⟨rfl, rfl, rfl, Nat.le_refl _, fun _ _ _ => rfl⟩
theorem Chg.trans {l h : Nat} {a b c : World} (x : Chg l h a b) (y : Chg l h b c) : Chg l h a c :=
  ⟨y.os.trans x.os, y.tape.trans x.tape, y.output.trans x.output, Nat.le_trans x.size y.size, fun k hk ho => (y.block k (Nat.lt_of_lt_of_le hk x.size) ho).trans (x.block k hk ho)⟩
/-- what changes only from 'B' on (B at most the size) changes nothing of what was -/
theorem Chg.new {B h : Nat} {w w' : World} (x : Chg B h w w') (hB : w.heap.size ≤ B) : Chg 0 0 w w' :=
  ⟨x.os, x.tape, x.output, x.size, fun k hk _ => x.block k hk (.inl (by omega))⟩
theorem Chg.mono {l h l' h' : Nat} {w w' : World} (x : Chg l h w w') (hl : l' ≤ l) (hh : h ≤ h') : Chg l' h' w w' :=
  ⟨x.os, x.tape, x.output, x.size, fun k hk ho => x.block k hk (by omega)⟩
theorem Chg.zero {l h : Nat} {w w' : World} (x : Chg 0 0 w w') : Chg l h w w' := ⟨x.os, x.tape, x.output, x.size, fun k hk _ => x.block k hk (.inr (Nat.zero_le _))⟩
/-- two steps, the second changing only what was not there at the first one's start -/
theorem Chg.step {l h l' h' : Nat} {a b c : World} (x : Chg l h a b) (y : Chg l' h' b c) (hB : a.heap.size ≤ l' ∨ h' ≤ l' ∨ (l ≤ l' ∧ (h' ≤ h ∨ a.heap.size ≤ h))) : Chg l h a c :=
  ⟨y.os.trans x.os, y.tape.trans x.tape, y.output.trans x.output, Nat.le_trans x.size y.size, fun k hk ho => (y.block k (Nat.lt_of_lt_of_le hk x.size) (by omega)).trans (x.block k hk ho)⟩
theorem Chg.below {w w' : World} (x : Chg 0 0 w w') : Below w.heap.size w w' := ⟨x.os, x.tape, x.output, x.size, fun k hk => x.block k hk (.inr (Nat.zero_le _))⟩
theorem Chg.alloc (w : World) (o : Obj) : Chg 0 0 w (w.alloc o) :=
  ⟨rfl, rfl, rfl, by simp, fun k hk _ => Below.heap_alloc _ _ _ hk⟩
theorem Chg.setCell (w : World) (b o : Nat) (v : Value) : Chg b (b + 1) w (w.setCell ⟨b, o, none⟩ v) :=
  ⟨rfl, rfl, rfl, by simp [World.setCell], fun k _ ho => Below.heap_setCell _ _ _ _ (by simp; omega)⟩
theorem Chg.drew (w : World) : Chg 0 0 w w.drew := ⟨rfl, rfl, rfl, Nat.le_refl _, fun _ _ _ => rfl⟩
/-- block b is a row of these cells, none frozen -/
def Blk (w : World) (b : Nat) (cs : List Value) (T : TypeId) : Prop := w.heap[b]? = some (.cells cs.toArray T (0, 0))
theorem Blk.lt {w : World} {b : Nat} {cs : List Value} {T : TypeId} (h : Blk w b cs T) : b < w.heap.size := by
  rcases Nat.lt_or_ge b w.heap.size with h' | h'
  · exact h'
  · unfold Blk at h; simp [Array.getElem?_eq_none h'] at h
theorem Blk.chg {w w' : World} {b l h : Nat} {cs : List Value} {T : TypeId} (hb : Blk w b cs T) (hc : Chg l h w w') (ho : b < l ∨ h ≤ b) : Blk w' b cs T :=
  (hc.block b hb.lt ho).trans hb
theorem Blk.ext {w w' : World} {b : Nat} {cs : List Value} {T : TypeId} (hb : Blk w b cs T) (hc : Chg 0 0 w w') : Blk w' b cs T := hb.chg hc (.inr (Nat.zero_le _))
theorem Blk.cell {w : World} {b o : Nat} {cs : List Value} {T : TypeId} {v : Value} (hb : Blk w b cs T) (hv : cs[o]? = some v) : w.cell? ⟨b, o, none⟩ = some v := by
  unfold Blk at hb; simp [World.cell?, hb, hv]
theorem Blk.frozen {w : World} {b o : Nat} {cs : List Value} {T : TypeId} (hb : Blk w b cs T) : w.frozen? ⟨b, o, none⟩ = false := by
  unfold Blk at hb; simp [World.frozen?, hb]
theorem Blk.set {w : World} {b o : Nat} {cs : List Value} {T : TypeId} (hb : Blk w b cs T) (v : Value) : Blk (w.setCell ⟨b, o, none⟩ v) b (cs.set o v) T := by
  unfold Blk at *
  simp [World.setCell, Array.getElem?_modify, hb]
theorem Blk.new (w : World) (cs : List Value) (T : TypeId) : Blk (w.alloc (.cells cs.toArray T (0, 0))) w.heap.size cs T := by
  unfold Blk World.alloc; simp
def vblk : Value → Nat
  | .slice (some a) _ _ => a.block
  | _ => 0
def voff : Value → Nat
  | .slice (some a) _ _ => a.off
  | _ => 0
/-- v is a slice of n elements of k cells each; its cells are xs; its block, if it has elements, lies in [lo, hi) -/
def Sv (w : World) (lo hi : Nat) (v : Value) (n k : Nat) (xs : List Value) : Prop :=
  xs.length = n * k ∧ ((n = 0 ∧ ∃ a c, v = .slice a 0 c) ∨ ∃ b off cap cs T fz, v = .slice (some ⟨b, off, none⟩) n cap ∧ (n ≤ cap ∧ lo ≤ b) ∧ b < hi ∧ w.heap[b]? = some (.cells cs T fz) ∧ ∀ j u, xs[j]? = some u → cs[off + j]? = some u)
theorem Sv.chg {w w' : World} {lo hi l h : Nat} {v : Value} {n k : Nat} {xs : List Value} (hs : Sv w lo hi v n k xs) (hc : Chg l h w w') (ho : hi ≤ l ∨ h ≤ lo) : Sv w' lo hi v n k xs := by
  refine ⟨hs.1, hs.2.imp id ?_⟩
  rintro ⟨b, off, cap, cs, T, fz, e, h1, h2, h3, h4⟩
  refine ⟨b, off, cap, cs, T, fz, e, h1, h2, ?_, h4⟩
  have hlt : b < w.heap.size := by
    rcases Nat.lt_or_ge b w.heap.size with h' | h'
    · exact h'
    · simp [Array.getElem?_eq_none h'] at h3
  rw [hc.block b hlt (by omega)]; exact h3
theorem Sv.ext {w w' : World} {lo hi : Nat} {v : Value} {n k : Nat} {xs : List Value} (hs : Sv w lo hi v n k xs) (hc : Chg 0 0 w w') : Sv w' lo hi v n k xs := hs.chg hc (.inr (Nat.zero_le _))
theorem Sv.mono {w : World} {lo hi lo' hi' : Nat} {v : Value} {n k : Nat} {xs : List Value} (hs : Sv w lo hi v n k xs) (hl : lo' ≤ lo) (hh : hi ≤ hi') : Sv w lo' hi' v n k xs := by
  refine ⟨hs.1, hs.2.imp id ?_⟩
  rintro ⟨b, off, cap, cs, T, fz, e, h1, h2, h3, h4⟩
  exact ⟨b, off, cap, cs, T, fz, e, ⟨h1.1, by omega⟩, by omega, h3, h4⟩
theorem Sv.fit {w : World} {lo hi : Nat} {v : Value} {n k : Nat} {xs : List Value} (hs : Sv w lo hi v n k xs) : Sv w lo w.heap.size v n k xs := by
  refine ⟨hs.1, hs.2.imp id ?_⟩
  rintro ⟨b, off, cap, cs, T, fz, e, h1, h2, h3, h4⟩
  refine ⟨b, off, cap, cs, T, fz, e, h1, ?_, h3, h4⟩
  rcases Nat.lt_or_ge b w.heap.size with h' | h'
  · exact h'
  · simp [Array.getElem?_eq_none h'] at h3
theorem Sv.shape {w : World} {lo hi : Nat} {v : Value} {n k : Nat} {xs : List Value} (hs : Sv w lo hi v n k xs) : ∃ a c, v = .slice a n c := by
  rcases hs.2 with ⟨rfl, a, c, e⟩ | ⟨b, off, cap, cs, T, fz, e, _⟩
  · exact ⟨a, c, e⟩
  · exact ⟨_, _, e⟩
theorem Sv.one {w : World} {lo hi : Nat} {v : Value} {n k : Nat} {xs : List Value} (hs : Sv w lo hi v n k xs) : v.oneCell' = true := by
  obtain ⟨a, c, rfl⟩ := hs.shape; rfl
theorem Sv.cell {w : World} {lo hi : Nat} {v : Value} {n k : Nat} {xs : List Value} (hs : Sv w lo hi v n k xs) {j : Nat} {u : Value} (hj : xs[j]? = some u) :
    w.cell? ⟨vblk v, voff v + j, none⟩ = some u := by
  rcases hs.2 with ⟨rfl, a, c, e⟩ | ⟨b, off, cap, cs, T, fz, e, _, _, h3, h4⟩
  · have := hs.1; simp at this; subst this; simp at hj
  · subst e; simp [World.cell?, vblk, voff, h3, h4 j u hj]
/-- a slice of ints -/
abbrev Sl (w : World) (lo hi : Nat) (v : Value) (zs : List Int) : Prop := Sv w lo hi v zs.length 1 (zs.map (Value.int .i64))

/-! ### operations -/
section
variable {P : Program} {n : Nat} {Q : Exit → Act → World → Prop} {fr fr' : Fr} {w : World} {ops : Array Oper} {rest : List Oper} {d : Nat} {ty : TypeId} {pos : String} {aft : Array Edge} {dst : Option Tmp} {g : Option (Nat × Bool)}
theorem sx_val {o : Oper} {v : Value} {w' : World} (hg : o.guard = none) (hd : o.dst = some d) (hn : Nat.blt d n = true)
    (hrun : ∀ a : Act, Agr n fr a → (execOp a.eval o).run P w = .ok (.value v) w') (h : wl P n ops Q rest ((d, v) :: fr) w') : wl P n ops Q (o :: rest) fr w := fun a ha =>
  wpList_plain hg fun K hK => by
    unfold Oper.wp
    rw [hrun a ha]
    simp only [Oper.upon, hd]
    exact hK _ _ (h _ (ha.put d (by simpa [Nat.blt_eq] using hn) v))
theorem sx_unit {o : Oper} {w' : World} (hg : o.guard = none) (hd : o.dst = none)
    (hrun : ∀ a : Act, Agr n fr a → (execOp a.eval o).run P w = .ok .skip w') (h : wl P n ops Q rest fr w') : wl P n ops Q (o :: rest) fr w := fun a ha =>
  wpList_plain hg fun K hK => by
    unfold Oper.wp
    rw [hrun a ha]
    simp only [Oper.upon, hd]
    exact hK _ _ (h _ ha)
def Px (P : Program) (n : Nat) (fr : Fr) (o : Oper) (v : Value) (w : World) : Prop := ∀ a : Act, Agr n fr a → (execOp a.eval o).run P w = .ok (.value v) w
theorem sx_pure {o : Oper} {v : Value} (hg : o.guard = none) (hd : o.dst = some d) (hn : Nat.blt d n = true) (hp : Px P n fr o v w) (h : wl P n ops Q rest ((d, v) :: fr) w) : wl P n ops Q (o :: rest) fr w :=
  sx_val hg hd hn hp h
theorem px_move {x : Operand} {v : Value} (hx : ev fr x = some v) : Px P n fr ⟨dst, .move x, ty, pos, aft, g⟩ (v) w :=
  fun a ha => by simp [execOp, ha.ev hx]
theorem px_assign {x : Operand} {v : Value} (hx : ev fr x = some v) : Px P n fr ⟨dst, .assign x, ty, pos, aft, g⟩ (v) w :=
  fun a ha => by simp [execOp, ha.ev hx]
def evs (fr : Fr) : List Operand → Option (List Value)
  | [] => some []
  | x :: l => match ev fr x, evs fr l with
    | some v, some vs => some (v :: vs)
    | _, _ => none
theorem Agr.evs {a : Act} (ha : Agr n fr a) : ∀ {l : List Operand} {vs : List Value}, Ytjkeefmpjocilaa.evs fr l = some vs → l.map a.eval = vs
  | [], vs, h => by simp [Ytjkeefmpjocilaa.evs] at h; subst h; rfl
  | x :: l, vs, h => by
    simp only [Ytjkeefmpjocilaa.evs] at h
    split at h
    · rename_i v us hv hus
      simp at h; subst h
      simp [ha.ev hv, ha.evs hus]
    · cases h
theorem sx_guardT {o : Oper} {g t : Nat} {want : Bool} (hg : o.guard = some (g, want)) (ht : (ops[g]?).bind (·.dst) = some t) (hv : alook fr t = some (.bool want))
    (h : wl P n ops Q ({ o with guard := none } :: rest) fr w) : wl P n ops Q (o :: rest) fr w := fun a ha => by
  have h1 := h a ha
  have hw : Region.wanted o (yielded ops a.tmps) = true := by
    simp [Region.wanted, hg, yielded, ht, ha.look t _ hv]
  unfold wpList at h1 ⊢
  rw [if_pos hw]
  rw [if_pos (by simp [Region.wanted])] at h1
  exact h1
theorem sx_guardF {o : Oper} {g t d : Nat} {want b : Bool} (hg : o.guard = some (g, want)) (ht : (ops[g]?).bind (·.dst) = some t) (hv : alook fr t = some (.bool b)) (hb : (b == want) = false)
    (hd : o.dst = some d) (hn : Nat.blt d n = true) (h : wl P n ops Q rest ((d, undef) :: fr) w) : wl P n ops Q (o :: rest) fr w := fun a ha => by
  have hw : Region.wanted o (yielded ops a.tmps) = false := by
    have : b ≠ want := by simpa using hb
    simp [Region.wanted, hg, yielded, ht, ha.look t _ hv, this]
  unfold wpList
  rw [if_neg (by simp [hw]), hd]
  exact h _ (ha.put d (by simpa [Nat.blt_eq] using hn) undef)
theorem sx_guardN {o : Oper} {g t : Nat} {want b : Bool} (hg : o.guard = some (g, want)) (ht : (ops[g]?).bind (·.dst) = some t) (hv : alook fr t = some (.bool b)) (hb : (b == want) = false)
    (hd : o.dst = none) (h : wl P n ops Q rest fr w) : wl P n ops Q (o :: rest) fr w := fun a ha => by
  have hw : Region.wanted o (yielded ops a.tmps) = false := by
    have : b ≠ want := by simpa using hb
    simp [Region.wanted, hg, yielded, ht, ha.look t _ hv, this]
  unfold wpList
  rw [if_neg (by simp [hw]), hd]
  exact h _ ha
theorem sx_guardFU {o : Oper} {g t d : Nat} {want : Bool} (hg : o.guard = some (g, want)) (ht : (ops[g]?).bind (·.dst) = some t) (hv : alook fr t = some undef)
    (hd : o.dst = some d) (hn : Nat.blt d n = true) (h : wl P n ops Q rest ((d, undef) :: fr) w) : wl P n ops Q (o :: rest) fr w := fun a ha => by
  have hw : Region.wanted o (yielded ops a.tmps) = false := by
    have h1 := ha.look t _ hv
    simp only [undef] at h1
    simp [Region.wanted, hg, yielded, ht, h1]
  unfold wpList
  rw [if_neg (by simp [hw]), hd]
  exact h _ (ha.put d (by simpa [Nat.blt_eq] using hn) undef)
theorem sx_guardNU {o : Oper} {g t : Nat} {want : Bool} (hg : o.guard = some (g, want)) (ht : (ops[g]?).bind (·.dst) = some t) (hv : alook fr t = some undef)
    (hd : o.dst = none) (h : wl P n ops Q rest fr w) : wl P n ops Q (o :: rest) fr w := fun a ha => by
  have hw : Region.wanted o (yielded ops a.tmps) = false := by
    have h1 := ha.look t _ hv
    simp only [undef] at h1
    simp [Region.wanted, hg, yielded, ht, h1]
  unfold wpList
  rw [if_neg (by simp [hw]), hd]
  exact h _ ha
/-- part on what a temporary holds -/
theorem sx_tmpP {t : Nat} {p : Prop} [Decidable p] {l : List Oper} (hv : alook fr t = some (.bool (decide p))) (ht : p → wl P n ops Q l ((t, .bool true) :: fr) w) (hf : ¬ p → wl P n ops Q l ((t, .bool false) :: fr) w) :
    wl P n ops Q l fr w := fun a ha => by
  by_cases hp : p
  · refine ht hp a ⟨ha.size, ha.defs, fun t' u hu => ?_⟩
    simp only [alook] at hu
    by_cases e : t = t'
    · subst e; simp at hu; subst hu; rw [ha.look t _ hv]; simp [hp]
    · rw [beq_ne e] at hu; exact ha.look t' u hu
  · refine hf hp a ⟨ha.size, ha.defs, fun t' u hu => ?_⟩
    simp only [alook] at hu
    by_cases e : t = t'
    · subst e; simp at hu; subst hu; rw [ha.look t _ hv]; simp [hp]
    · rw [beq_ne e] at hu; exact ha.look t' u hu
theorem sx_tmpB {t : Nat} {b : Bool} {l : List Oper} (hv : alook fr t = some (.bool b)) (ht : b = true → wl P n ops Q l ((t, .bool true) :: fr) w) (hf : b = false → wl P n ops Q l ((t, .bool false) :: fr) w) :
    wl P n ops Q l fr w := sx_tmpP (p := b = true) (by simpa using hv) ht (fun h => hf (by simpa using h))
/-- a temporary's value in another spelling -/
theorem sx_let {t : Nat} {v u : Value} {l : List Oper} (hv : alook fr t = some v) (e : v = u) (h : wl P n ops Q l ((t, u) :: fr) w) : wl P n ops Q l fr w := fun a ha => by
  subst e
  refine h a ⟨ha.size, ha.defs, fun t' u' hu => ?_⟩
  simp only [alook] at hu
  by_cases e : t = t'
  · subst e; simp at hu; subst hu; exact ha.look t _ hv
  · rw [beq_ne e] at hu; exact ha.look t' u' hu
theorem px_pick {c x y : Operand} {b : Bool} {v : Value} (hc : ev fr c = some (.bool b)) (hx : ev fr (bif b then x else y) = some v) : Px P n fr ⟨dst, .pick c x y, ty, pos, aft, g⟩ (v) w :=
  fun a ha => by
    have hx' := ha.ev hx
    cases b <;> simp only [cond_true, cond_false] at hx' <;> simp [execOp, ha.ev hc, asBool, hx']
/-! arithmetic on int -/
theorem i64_wrap {m : Int} (h : -9223372036854775808 ≤ m ∧ m ≤ 9223372036854775807) : IntKind.i64.wrap m = m := IntWalk.i64_in m h
theorem px_add {x y : Operand} {T U : TypeId} {a b : Int} (hx : ev fr x = some (.int .i64 a)) (hy : ev fr y = some (.int .i64 b)) (hr : -9223372036854775808 ≤ a + b ∧ a + b ≤ 9223372036854775807) : Px P n fr ⟨dst, .binOp .add T x y U, ty, pos, aft, g⟩ (.int .i64 (a + b)) w :=
  fun c ha => by simp [execOp, ha.ev hx, ha.ev hy, eqGuard, binOp, Op.intArith, i64_wrap hr]
theorem px_sub {x y : Operand} {T U : TypeId} {a b : Int} (hx : ev fr x = some (.int .i64 a)) (hy : ev fr y = some (.int .i64 b)) (hr : -9223372036854775808 ≤ a - b ∧ a - b ≤ 9223372036854775807) : Px P n fr ⟨dst, .binOp .sub T x y U, ty, pos, aft, g⟩ (.int .i64 (a - b)) w :=
  fun c ha => by simp [execOp, ha.ev hx, ha.ev hy, eqGuard, binOp, Op.intArith, i64_wrap hr]
theorem px_mul {x y : Operand} {T U : TypeId} {a b : Int} (hx : ev fr x = some (.int .i64 a)) (hy : ev fr y = some (.int .i64 b)) (hr : -9223372036854775808 ≤ a * b ∧ a * b ≤ 9223372036854775807) : Px P n fr ⟨dst, .binOp .mul T x y U, ty, pos, aft, g⟩ (.int .i64 (a * b)) w :=
  fun c ha => by simp [execOp, ha.ev hx, ha.ev hy, eqGuard, binOp, Op.intArith, i64_wrap hr]
theorem px_quo {x y : Operand} {T U : TypeId} {a b : Int} (hx : ev fr x = some (.int .i64 a)) (hy : ev fr y = some (.int .i64 b)) (ha0 : 0 ≤ a) (ha1 : a ≤ 9223372036854775807) (hb : 0 < b) : Px P n fr ⟨dst, .binOp .quo T x y U, ty, pos, aft, g⟩ (.int .i64 (a / b)) w :=
  fun c ha => by
    have e : a.tdiv b = a / b := Int.tdiv_eq_ediv_of_nonneg ha0
    have h1 : 0 ≤ a / b := Int.ediv_nonneg ha0 (by omega)
    have h2 : a / b ≤ a := Int.ediv_le_self b ha0
    have hb0 : ¬ b = 0 := by omega
    simp [execOp, ha.ev hx, ha.ev hy, eqGuard, binOp, Op.intDiv, hb0, e, i64_wrap (m := a / b) ⟨by omega, by omega⟩]
theorem px_rem {x y : Operand} {T U : TypeId} {a b : Int} (hx : ev fr x = some (.int .i64 a)) (hy : ev fr y = some (.int .i64 b)) (ha0 : 0 ≤ a) (hb : 0 < b) : Px P n fr ⟨dst, .binOp .rem T x y U, ty, pos, aft, g⟩ (.int .i64 (a % b)) w :=
  fun c ha => by
    have e : a.tmod b = a % b := Int.tmod_eq_emod_of_nonneg ha0
    have hb0 : ¬ b = 0 := by omega
    simp [execOp, ha.ev hx, ha.ev hy, eqGuard, binOp, Op.intDiv, hb0, e]
theorem px_lt {k : IntKind} {x y : Operand} {T U : TypeId} {a b : Int} (hx : ev fr x = some (.int k a)) (hy : ev fr y = some (.int k b)) : Px P n fr ⟨dst, .binOp .lss T x y U, ty, pos, aft, g⟩ (.bool (decide (a < b))) w :=
  fun c ha => by simp [execOp, ha.ev hx, ha.ev hy, eqGuard, binOp, Op.intCmp]
theorem px_le {k : IntKind} {x y : Operand} {T U : TypeId} {a b : Int} (hx : ev fr x = some (.int k a)) (hy : ev fr y = some (.int k b)) : Px P n fr ⟨dst, .binOp .leq T x y U, ty, pos, aft, g⟩ (.bool (decide (a ≤ b))) w :=
  fun c ha => by simp [execOp, ha.ev hx, ha.ev hy, eqGuard, binOp, Op.intCmp]
theorem px_gt {k : IntKind} {x y : Operand} {T U : TypeId} {a b : Int} (hx : ev fr x = some (.int k a)) (hy : ev fr y = some (.int k b)) : Px P n fr ⟨dst, .binOp .gtr T x y U, ty, pos, aft, g⟩ (.bool (decide (b < a))) w :=
  fun c ha => by simp [execOp, ha.ev hx, ha.ev hy, eqGuard, binOp, Op.intCmp]
theorem px_ge {k : IntKind} {x y : Operand} {T U : TypeId} {a b : Int} (hx : ev fr x = some (.int k a)) (hy : ev fr y = some (.int k b)) : Px P n fr ⟨dst, .binOp .geq T x y U, ty, pos, aft, g⟩ (.bool (decide (b ≤ a))) w :=
  fun c ha => by simp [execOp, ha.ev hx, ha.ev hy, eqGuard, binOp, Op.intCmp]
theorem px_eq {k : IntKind} {x y : Operand} {T U : TypeId} {a b : Int} (hx : ev fr x = some (.int k a)) (hy : ev fr y = some (.int k b)) : Px P n fr ⟨dst, .binOp .eql T x y U, ty, pos, aft, g⟩ (.bool (decide (a = b))) w :=
  fun c ha => by
    have e : (a == b) = decide (a = b) := by rw [Bool.eq_iff_iff]; simp
    simp [execOp, ha.ev hx, ha.ev hy, eqGuard, binOp, Op.intCmp, e]
theorem px_ne {k : IntKind} {x y : Operand} {T U : TypeId} {a b : Int} (hx : ev fr x = some (.int k a)) (hy : ev fr y = some (.int k b)) : Px P n fr ⟨dst, .binOp .neq T x y U, ty, pos, aft, g⟩ (.bool (decide (a ≠ b))) w :=
  fun c ha => by
    have e : (a != b) = decide (a ≠ b) := by rw [Bool.eq_iff_iff]; simp
    simp [execOp, ha.ev hx, ha.ev hy, eqGuard, binOp, Op.intCmp, e]
theorem px_eqB {x y : Operand} {T U : TypeId} {a b : Bool} (hT : P.underlying T = some .bool) (hx : ev fr x = some (.bool a)) (hy : ev fr y = some (.bool b)) : Px P n fr ⟨dst, .binOp .eql T x y U, ty, pos, aft, g⟩ (.bool (a == b)) w :=
  fun c ha => by simp [execOp, ha.ev hx, ha.ev hy, eqGuard, binOp, run_equal_bool w T a b hT]
theorem px_neB {x y : Operand} {T U : TypeId} {a b : Bool} (hT : P.underlying T = some .bool) (hx : ev fr x = some (.bool a)) (hy : ev fr y = some (.bool b)) : Px P n fr ⟨dst, .binOp .neq T x y U, ty, pos, aft, g⟩ (.bool (a != b)) w :=
  fun c ha => by simp [execOp, ha.ev hx, ha.ev hy, eqGuard, binOp, run_equal_bool w T a b hT, bne]
theorem px_not {x : Operand} {T : TypeId} {a : Bool} (hx : ev fr x = some (.bool a)) : Px P n fr ⟨dst, .unOp .not T x, ty, pos, aft, g⟩ (.bool (!a)) w :=
  fun c ha => by simp [execOp, ha.ev hx, Op.unary]
theorem px_neg {x : Operand} {T : TypeId} {a : Int} (hx : ev fr x = some (.int .i64 a)) (hr : -9223372036854775808 ≤ -a ∧ -a ≤ 9223372036854775807) : Px P n fr ⟨dst, .unOp .neg T x, ty, pos, aft, g⟩ (.int .i64 (-a)) w :=
  fun c ha => by
    have e : (0 : Int) - a = -a := by omega
    simp [execOp, ha.ev hx, Op.unary, Op.intArith, e, i64_wrap hr]
end
/-- a slice that the call owns whole: at the head of an unfrozen row; it may be appended to and stored into -/
def Own (w : World) (lo hi : Nat) (v : Value) (e : TypeId) (n k : Nat) (xs : List Value) : Prop :=
  xs.length = n * k ∧ ((n = 0 ∧ v = .slice none 0 0) ∨
    ∃ b cap sp, v = .slice (some ⟨b, 0, none⟩) n cap ∧ lo ≤ b ∧ b < hi ∧ n ≤ cap ∧ cap ≤ maxLen ∧ Blk w b (xs ++ sp) e ∧ (xs ++ sp).length = cap * k)
theorem Own.sv {w : World} {lo hi : Nat} {v : Value} {e : TypeId} {n k : Nat} {xs : List Value} (h : Own w lo hi v e n k xs) : Sv w lo hi v n k xs := by
  refine ⟨h.1, ?_⟩
  rcases h.2 with ⟨rfl, rfl⟩ | ⟨b, cap, sp, rfl, h1, h2, h3, h4, h5, h6⟩
  · exact .inl ⟨rfl, _, _, rfl⟩
  · refine .inr ⟨b, 0, cap, _, e, _, rfl, ⟨h3, h1⟩, h2, h5, fun j u hj => ?_⟩
    have hlt : j < xs.length := by
      rcases Nat.lt_or_ge j xs.length with h' | h'
      · exact h'
      · simp [List.getElem?_eq_none h'] at hj
    simp [List.getElem?_append_left hlt, hj]
theorem Own.chg {w w' : World} {lo hi l h : Nat} {v : Value} {e : TypeId} {n k : Nat} {xs : List Value} (hs : Own w lo hi v e n k xs) (hc : Chg l h w w') (ho : hi ≤ l ∨ h ≤ lo) : Own w' lo hi v e n k xs := by
  refine ⟨hs.1, hs.2.imp id ?_⟩
  rintro ⟨b, cap, sp, rfl, h1, h2, h3, h4, h5, h6⟩
  exact ⟨b, cap, sp, rfl, h1, h2, h3, h4, h5.chg hc (by omega), h6⟩
theorem Own.ext {w w' : World} {lo hi : Nat} {v : Value} {e : TypeId} {n k : Nat} {xs : List Value} (hs : Own w lo hi v e n k xs) (hc : Chg 0 0 w w') : Own w' lo hi v e n k xs := hs.chg hc (.inr (Nat.zero_le _))
theorem Own.mono {w : World} {lo hi lo' hi' : Nat} {v : Value} {e : TypeId} {n k : Nat} {xs : List Value} (hs : Own w lo hi v e n k xs) (hl : lo' ≤ lo) (hh : hi ≤ hi') : Own w lo' hi' v e n k xs := by
  refine ⟨hs.1, hs.2.imp id ?_⟩
  rintro ⟨b, cap, sp, rfl, h1, h2, h3, h4, h5, h6⟩
  exact ⟨b, cap, sp, rfl, by omega, by omega, h3, h4, h5, h6⟩
theorem Own.of_row {w : World} {lo : Nat} {v : Value} {e : TypeId} {n k : Nat} {xs : List Value} (h : w.ownsRow lo e k v n xs) : Own w lo w.heap.size v e n k xs := by
  obtain ⟨h0, h⟩ := h
  refine ⟨h0, ?_⟩
  rcases h with ⟨hv, hn⟩ | ⟨g, cap, cur, rfl, h1, h2, h3, h4, h5, h6⟩
  · exact .inl ⟨hn, hv⟩
  · have hb : g < w.heap.size := by
      rcases Nat.lt_or_ge g w.heap.size with h' | h'
      · exact h'
      · simp [Array.getElem?_eq_none h'] at h2
    have he : xs ++ cur.toList.drop (n * k) = cur.toList := by rw [← h6]; exact List.take_append_drop _ _
    refine .inr ⟨g, cap, cur.toList.drop (n * k), rfl, h1, hb, h3, h4, ?_, ?_⟩
    · unfold Blk; rw [he, Array.toArray_toList]; exact h2
    · rw [he]; simpa using h5
theorem Own.row {w : World} {lo hi : Nat} {v : Value} {e : TypeId} {n k : Nat} {xs : List Value} (h : Own w lo hi v e n k xs) : w.ownsRow lo e k v n xs := by
  refine ⟨h.1, ?_⟩
  rcases h.2 with ⟨hn, hv⟩ | ⟨b, cap, sp, rfl, h1, h2, h3, h4, h5, h6⟩
  · exact .inl ⟨hv, hn⟩
  · refine .inr ⟨b, cap, (xs ++ sp).toArray, rfl, h1, h5, h3, h4, by simpa using h6, ?_⟩
    rw [← h.1]; simp
theorem Chg.grown {w w' : World} {v : Value} {e : TypeId} {n k lo hi : Nat} {xs : List Value} (h : Own w lo hi v e n k xs) (hg : w.grownBy w' v.ownBlock) : Chg lo hi w w' := by
  refine ⟨hg.os, hg.tape, hg.output, hg.size, fun j hj ho => hg.block j hj fun heq => ?_⟩
  rcases h.2 with ⟨_, rfl⟩ | ⟨b, cap, sp, rfl, h1, h2, _⟩
  · simp [Value.ownBlock] at heq
  · simp [Value.ownBlock] at heq; omega
theorem Chg.grown0 {w w' : World} (hg : w.grownBy w' none) : Chg 0 0 w w' :=
  ⟨hg.os, hg.tape, hg.output, hg.size, fun j hj _ => hg.block j hj (by simp)⟩
theorem Own.one {w : World} {lo hi : Nat} {v : Value} {e : TypeId} {n k : Nat} {xs : List Value} (hs : Own w lo hi v e n k xs) : v.oneCell' = true := hs.sv.one
/-- a cell of an owned slice is stored into -/
theorem Own.store {w : World} {lo hi : Nat} {v : Value} {e : TypeId} {n k : Nat} {xs : List Value} (hs : Own w lo hi v e n k xs) {j : Nat} (hj : j < xs.length) (u : Value) :
    Own (w.setCell ⟨vblk v, voff v + j, none⟩ u) lo hi v e n k (xs.set j u) ∧ Chg lo hi w (w.setCell ⟨vblk v, voff v + j, none⟩ u) ∧ (∃ x, w.cell? ⟨vblk v, voff v + j, none⟩ = some x) ∧ w.frozen? ⟨vblk v, voff v + j, none⟩ = false := by
  rcases hs.2 with ⟨rfl, rfl⟩ | ⟨b, cap, sp, rfl, h1, h2, h3, h4, h5, h6⟩
  · have := hs.1; simp at this; subst this; simp at hj
  · simp only [vblk, voff, Nat.zero_add]
    refine ⟨⟨by simpa using hs.1, .inr ⟨b, cap, sp, rfl, h1, h2, h3, h4, ?_, by simpa using h6⟩⟩, (Chg.setCell w b j u).mono h1 (by omega), ⟨(xs ++ sp)[j]'(by simp; omega), h5.cell (by simp)⟩, h5.frozen⟩
    have := h5.set (o := j) u
    rwa [List.set_append_left _ _ hj] at this

theorem run_bind_ok {α β : Type} {P : Program} {w w' : World} {x : α} (m : Sem α) (f : α → Sem β) (h : m.run P w = .ok x w') : (m >>= f).run P w = (f x).run P w' := by
  simp [h]
theorem size_alloc (w : World) (o : Obj) : (w.alloc o).heap.size = w.heap.size + 1 := by unfold World.alloc; exact Array.size_push _
section
variable {P : Program} {n : Nat} {Q : Exit → Act → World → Prop} {fr fr' : Fr} {w : World} {ops : Array Oper} {rest : List Oper} {d : Nat} {ty : TypeId} {pos : String} {aft : Array Edge} {dst : Option Tmp} {g : Option (Nat × Bool)}
/-! boxes -/
theorem sx_box {x : Operand} {v : Value} {T : TypeId} (cs : List Value) (hn : Nat.blt d n = true) (hx : ev fr x = some v) (hv : v.cells = cs.toArray)
    (h : ∀ b w', b = w.heap.size → w'.heap.size = b + 1 → Blk w' b cs T → Chg 0 0 w w' → wl P n ops Q rest ((d, .pointer (some ⟨b, 0, none⟩)) :: fr) w') : wl P n ops Q (⟨some d, .box T x, ty, pos, aft, none⟩ :: rest) fr w :=
  sx_val (w' := w.alloc (.cells cs.toArray T (0, 0))) rfl rfl hn (fun a ha => by simp [execOp, ha.ev hx, Instr.box, newVar, newRow, hv])
    (h _ _ rfl (size_alloc w _) (Blk.new w cs T) (Chg.alloc w _))
theorem sx_alloc {T : TypeId} {z : Value} (cs : List Value) (hn : Nat.blt d n = true) (hz : ∀ w, (zeroValue T).run P w = .ok z w) (hv : z.cells = cs.toArray)
    (h : ∀ b w', b = w.heap.size → w'.heap.size = b + 1 → Blk w' b cs T → Chg 0 0 w w' → wl P n ops Q rest ((d, .pointer (some ⟨b, 0, none⟩)) :: fr) w') : wl P n ops Q (⟨some d, .alloc T, ty, pos, aft, none⟩ :: rest) fr w :=
  sx_val (w' := w.alloc (.cells cs.toArray T (0, 0))) rfl rfl hn (fun a _ => by simp [execOp, Instr.alloc, newVar, newRow, hv, hz])
    (h _ _ rfl (size_alloc w _) (Blk.new w cs T) (Chg.alloc w _))
/-- the address of a field: hF is a closed fact of the type's layout -/
theorem px_field {x : Operand} {S i b o o' : Nat} (hx : ev fr x = some (.pointer (some ⟨b, o, none⟩)))
    (hF : ∀ b o w, (Instr.fieldAt S (.pointer (some ⟨b, o, none⟩)) i).run P w = .ok (.pointer (some ⟨b, o + o', none⟩)) w) : Px P n fr ⟨dst, .fieldAddr S x i, ty, pos, aft, g⟩ (.pointer (some ⟨b, o + o', none⟩)) w :=
  fun a ha => by simp [execOp, ha.ev hx, hF]
theorem run_load1 {T : TypeId} {a : Addr} {v : Value} (hA : ∀ w, (isAgg T).run P w = .ok false w) (hc : w.cell? a = some v) : (loadVar T a).run P w = .ok v w := by
  simp [loadVar, hA, load, Sem.run, hc]
theorem run_loadA {T : TypeId} {a : Addr} {cs : List Value} (hA : ∀ w, (isAgg T).run P w = .ok true w) (hS : ∀ w, (sizeOf T).run P w = .ok cs.length w)
    (hc : ∀ j v, cs[j]? = some v → w.cell? (a.add j) = some v) : (loadVar T a).run P w = .ok (.agg cs.toArray) w := by
  simp [loadVar, hA, hS, run_loadCells_list w a cs hc]
theorem px_load {x : Operand} {T : TypeId} {a : Addr} {v : Value} (hx : ev fr x = some (.pointer (some a))) (hl : (loadVar T a).run P w = .ok v w) : Px P n fr ⟨dst, .load T x, ty, pos, aft, g⟩ (v) w :=
  fun a ha => by simp [execOp, ha.ev hx, Instr.loadAt, Instr.sureAddr, hl]
theorem Blk.load1 {T U : TypeId} {b o : Nat} {cs : List Value} {v : Value} (hb : Blk w b cs U) (hv : cs[o]? = some v) (hA : ∀ w, (isAgg T).run P w = .ok false w) : (loadVar T ⟨b, o, none⟩).run P w = .ok v w :=
  run_load1 hA (hb.cell hv)
theorem add_at (b o j : Nat) : (Addr.add ⟨b, o, none⟩ j) = ⟨b, o + j, none⟩ := by
  unfold Addr.add; split
  · rename_i h; subst h; rfl
  · rfl
theorem Blk.loadA {T U : TypeId} {b o : Nat} {cs vs : List Value} (hb : Blk w b cs U) (hv : ∀ j v, vs[j]? = some v → cs[o + j]? = some v) (hA : ∀ w, (isAgg T).run P w = .ok true w) (hS : ∀ w, (sizeOf T).run P w = .ok vs.length w) :
    (loadVar T ⟨b, o, none⟩).run P w = .ok (.agg vs.toArray) w :=
  run_loadA hA hS fun j v hj => by rw [add_at]; exact hb.cell (hv j v hj)
theorem Sv.load1 {T : TypeId} {lo hi : Nat} {v u : Value} {m k : Nat} {xs : List Value} {j : Nat} (hs : Sv w lo hi v m k xs) (hj : xs[j]? = some u) (hA : ∀ w, (isAgg T).run P w = .ok false w) :
    (loadVar T ⟨vblk v, voff v + j, none⟩).run P w = .ok u w := run_load1 hA (hs.cell hj)
theorem Sv.loadA {T : TypeId} {lo hi : Nat} {v : Value} {m k : Nat} {xs vs : List Value} {o : Nat} (hs : Sv w lo hi v m k xs) (hj : ∀ j u, vs[j]? = some u → xs[o + j]? = some u) (hA : ∀ w, (isAgg T).run P w = .ok true w) (hS : ∀ w, (sizeOf T).run P w = .ok vs.length w) :
    (loadVar T ⟨vblk v, voff v + o, none⟩).run P w = .ok (.agg vs.toArray) w :=
  run_loadA hA hS fun j u hu => by rw [add_at, Nat.add_assoc]; exact hs.cell (hj j u hu)
/-- a store of a value of one or more cells into a block that is known whole -/
theorem run_storeBlk {T U : TypeId} {b o : Nat} {cs vs : List Value} {v : Value} (hb : Blk w b cs U) (hv : v.cells = vs.toArray) (hS : ∀ w, (sizeOf T).run P w = .ok vs.length w) (ho : o + vs.length ≤ cs.length) (h1 : ∀ u ∈ vs, u.oneCell' = true) :
    (storeVar T ⟨b, o, none⟩ v).run P w = .ok () (w.setRow b (cs.take o ++ vs ++ cs.drop (o + vs.length)).toArray) := by
  have := run_storeCells_at (P := P) b o U vs 0 cs.toArray w hb (by simpa using ho) h1
  simp only [Nat.add_zero] at this
  simp [storeVar, hS, hv, this]
theorem Blk.setRow {b : Nat} {cs : List Value} {T : TypeId} (hb : Blk w b cs T) (cs' : List Value) : Blk (w.setRow b cs'.toArray) b cs' T := by
  unfold Blk at *
  unfold World.setRow
  simp [Array.getElem?_modify, hb]
theorem Chg.setRow (b : Nat) (cs' : Array Value) : Chg b (b + 1) w (w.setRow b cs') := by
  refine ⟨rfl, rfl, rfl, by simp [World.setRow], fun k _ ho => ?_⟩
  unfold World.setRow
  simp only [Array.getElem?_modify]
  rw [if_neg (by omega)]
theorem sx_store {x y : Operand} {T U : TypeId} {b o : Nat} {cs vs : List Value} {v : Value} (hx : ev fr x = some (.pointer (some ⟨b, o, none⟩))) (hy : ev fr y = some v)
    (hb : Blk w b cs U) (hv : v.cells = vs.toArray) (hS : ∀ w, (sizeOf T).run P w = .ok vs.length w) (ho : o + vs.length ≤ cs.length) (h1 : ∀ u ∈ vs, u.oneCell' = true)
    (h : ∀ w', w'.heap.size = w.heap.size → Blk w' b (cs.take o ++ vs ++ cs.drop (o + vs.length)) U → Chg b (b + 1) w w' → wl P n ops Q rest fr w') : wl P n ops Q (⟨none, .store T x y, ty, pos, aft, none⟩ :: rest) fr w :=
  sx_unit (w' := w.setRow b (cs.take o ++ vs ++ cs.drop (o + vs.length)).toArray) rfl rfl
    (fun a ha => by simp [execOp, ha.ev hx, ha.ev hy, Instr.storeAt, Instr.sureAddr, run_storeBlk hb hv hS ho h1])
    (h _ (by simp [World.setRow]) (hb.setRow _) (Chg.setRow b _))
theorem sx_storeO {x y : Operand} {T e : TypeId} {lo hi m k j : Nat} {xs : List Value} {v u : Value} (hx : ev fr x = some (.pointer (some ⟨vblk v, voff v + j, none⟩))) (hy : ev fr y = some u)
    (hs : Own w lo hi v e m k xs) (hj : j < xs.length) (hS : ∀ w, (sizeOf T).run P w = .ok 1 w) (h1 : u.oneCell' = true)
    (h : ∀ w', w'.heap.size = w.heap.size → Own w' lo hi v e m k (xs.set j u) → Chg lo hi w w' → wl P n ops Q rest fr w') : wl P n ops Q (⟨none, .store T x y, ty, pos, aft, none⟩ :: rest) fr w := by
  obtain ⟨g1, g2, ⟨x0, g3⟩, g4⟩ := hs.store hj u
  refine sx_unit (w' := w.setCell ⟨vblk v, voff v + j, none⟩ u) rfl rfl (fun a ha => ?_) (h _ (by simp [World.setCell]) g1 g2)
  have hc : u.cells = #[u] := by cases u <;> first | rfl | cases h1
  have hst : (store ⟨vblk v, voff v + j, none⟩ u).run P w = .ok () (w.setCell ⟨vblk v, voff v + j, none⟩ u) := by
    cases u <;> first | (simp [store, Sem.run, g3, g4]; done) | cases h1
  simp [execOp, ha.ev hx, ha.ev hy, Instr.storeAt, Instr.sureAddr, storeVar, hS, hc, storeCells, Addr.add, hst]
/-! slices -/
theorem px_len {x : Operand} {T U e : TypeId} {lo hi m k : Nat} {xs : List Value} {v : Value} (hx : ev fr x = some v) (hT : P.underlying T = some (.slice e)) (hs : Sv w lo hi v m k xs) : Px P n fr ⟨dst, .call { callee := .builtin .len, args := #[x], argTypes := #[T] }, U, pos, aft, g⟩ (.int .i64 m) w := by
  obtain ⟨a, c, rfl⟩ := hs.shape
  exact fun a ha => by simp [execOp, resolve, ha.ev hx, invoke, builtin, Builtin.len_, run_underlying hT, goInt]
theorem px_indexAddr {x y : Operand} {T e : TypeId} {lo hi m k : Nat} {i : Int} {xs : List Value} {v : Value} (hx : ev fr x = some v) (hy : ev fr y = some (.int .i64 i)) (hT : P.underlying T = some (.slice e)) (hS : ∀ w, (sizeOf e).run P w = .ok k w)
    (hs : Sv w lo hi v m k xs) (h0 : 0 ≤ i) (h1 : i < m) : Px P n fr ⟨dst, .indexAddr T x y, ty, pos, aft, g⟩ (.pointer (some ⟨vblk v, voff v + i.toNat * k, none⟩)) w := by
  rcases hs.2 with ⟨rfl, _⟩ | ⟨b, off, cap, cs, T', fz, rfl, _, _, h3, h4⟩
  · omega
  · intro a ha
    simp [execOp, ha.ev hx, ha.ev hy, Instr.indexAt, asIntOf, run_underlying hT, hS, h0, h1, vblk, voff, add_at]
/-! calls -/
theorem sx_call {f : FuncId} {xs : List Operand} {ats : Array TypeId} {vs : List Value} {Post : Value → World → Prop} (hn : Nat.blt d n = true) (ha : evs fr xs = some vs) (hf : ∀ args w, (callFunc f args).run P w = .ok (.enter f args) w)
    (hc : Ret P f vs w Post) (h : ∀ v w', Post v w' → wl P n ops Q rest ((d, v) :: fr) w') :
    wl P n ops Q (⟨some d, .call { callee := .value (.func f), args := xs.toArray, argTypes := ats }, ty, pos, aft, none⟩ :: rest) fr w := fun a hA =>
  wpList_plain rfl fun K hK => by
    unfold Oper.wp
    have hr : (execOp a.eval ⟨some d, .call { callee := .value (.func f), args := xs.toArray, argTypes := ats }, ty, pos, aft, none⟩).run P w = .ok (.enter f vs.toArray) w := by
      simp [execOp, resolve, Act.eval, Deferred.ofValue, invoke, hf]
      rw [← hA.evs ha]
    rw [hr]
    simp only [Oper.upon]
    exact Calls.mono hc fun e w'' ⟨v, he, hp⟩ => by
      subst he
      exact hK _ _ (h v w'' hp _ (hA.put d (by simpa [Nat.blt_eq] using hn) v))
theorem sx_callV {f : FuncId} {x : Operand} {first cap : Array Value} {xs : List Operand} {ats : Array TypeId} {vs : List Value} {Post : Value → World → Prop} (hn : Nat.blt d n = true) (hx : ev fr x = some (.func (.func f) first cap)) (ha : evs fr xs = some vs)
    (hf : ∀ args w, (callFunc f args).run P w = .ok (.enter f args) w)
    (hc : Ret P f (first.toList ++ vs ++ cap.toList) w Post) (h : ∀ v w', Post v w' → wl P n ops Q rest ((d, v) :: fr) w') :
    wl P n ops Q (⟨some d, .call { callee := .value x, args := xs.toArray, argTypes := ats }, ty, pos, aft, none⟩ :: rest) fr w := fun a hA =>
  wpList_plain rfl fun K hK => by
    unfold Oper.wp
    have hr : (execOp a.eval ⟨some d, .call { callee := .value x, args := xs.toArray, argTypes := ats }, ty, pos, aft, none⟩).run P w = .ok (.enter f (first.toList ++ vs ++ cap.toList).toArray) w := by
      simp [execOp, resolve, hA.ev hx, Deferred.ofValue, invoke, hf, hA.evs ha]
    rw [hr]
    simp only [Oper.upon]
    exact Calls.mono hc fun e w'' ⟨v, he, hp⟩ => by
      subst he
      exact hK _ _ (h v w'' hp _ (hA.put d (by simpa [Nat.blt_eq] using hn) v))
theorem px_extract {x : Operand} {i : Nat} {vs : List Value} {v : Value} (hx : ev fr x = some (.tuple vs.toArray)) (hv : vs[i]? = some v) : Px P n fr ⟨dst, .extract x i, ty, pos, aft, g⟩ (v) w :=
  fun a ha => by simp [execOp, ha.ev hx, Instr.extract, hv]
/-! max, min -/
theorem px_max {x y : Operand} {ats : Array TypeId} {U : TypeId} {a b : Int} (hx : ev fr x = some (.int .i64 a)) (hy : ev fr y = some (.int .i64 b)) : Px P n fr ⟨dst, .call { callee := .builtin .max, args := #[x, y], argTypes := ats }, U, pos, aft, g⟩ (.int .i64 (max a b)) w :=
  fun c ha => by
    have e : (if a < b then b else a) = max a b := by omega
    simp [execOp, resolve, ha.ev hx, ha.ev hy, invoke, builtin, Builtin.max_, Builtin.max2, e]
theorem px_min {x y : Operand} {ats : Array TypeId} {U : TypeId} {a b : Int} (hx : ev fr x = some (.int .i64 a)) (hy : ev fr y = some (.int .i64 b)) : Px P n fr ⟨dst, .call { callee := .builtin .min, args := #[x, y], argTypes := ats }, U, pos, aft, g⟩ (.int .i64 (min a b)) w :=
  fun c ha => by
    have e : (if b < a then b else a) = min a b := by omega
    simp [execOp, resolve, ha.ev hx, ha.ev hy, invoke, builtin, Builtin.min_, Builtin.min2, e]
/-! make -/
/-- what is known of an element type: its row of the table -/
structure Elt (P : Program) (T e : TypeId) (i : TypeInfo) (z : Value) (k bytes : Nat) : Prop where
  ht : P.underlying T = some (.slice e)
  hi : P.info? e = some i
  hz : i.zero = some z
  hk : i.size = k
  hb : i.bytes = bytes
  hc : z.cells.size = k
  h0 : 0 < k
theorem sx_make {x y : Operand} {T e : TypeId} {i : TypeInfo} {z : Value} {k bytes c : Nat} {kl kc : IntKind} (hn : Nat.blt d n = true) (hE : Elt P T e i z k bytes) (hx : ev fr x = some (.int kl (c : Int))) (hy : ev fr y = some (.int kc (c : Int)))
    (hc : bytes * c ≤ 281474976710656) (h63 : c ≤ maxLen)
    (h : ∀ v w', Own w' w.heap.size w'.heap.size v e c k (madeCells z.cells (c * k)).toList → Chg 0 0 w w' → w.heap.size < w'.heap.size → wl P n ops Q rest ((d, v) :: fr) w') :
    wl P n ops Q (⟨some d, .makeSlice T x y, ty, pos, aft, none⟩ :: rest) fr w := by
  obtain ⟨w', h1, h2, h3⟩ := run_make_full w w.heap.size T e i z k hE.ht hE.hi hE.hz hE.hk kl kc c (by rw [hE.hb]; exact hc) h63 (Nat.le_refl _)
  have ho := Own.of_row h2
  have hlt : w.heap.size < w'.heap.size := by
    rcases ho.2 with ⟨_, hh⟩ | ⟨b, cap, sp, hh, _, h5, _⟩
    · cases hh
    · simp at hh; omega
  exact sx_val rfl rfl hn (fun a ha => by simp [execOp, ha.ev hx, ha.ev hy, h1]) (h _ _ ho (Chg.grown0 h3) hlt)
theorem sx_make0 {x y : Operand} {T e : TypeId} {i : TypeInfo} {z : Value} {k bytes c : Nat} {kl kc : IntKind} (hn : Nat.blt d n = true) (hE : Elt P T e i z k bytes) (hx : ev fr x = some (.int kl 0)) (hy : ev fr y = some (.int kc (c : Int)))
    (hc : bytes * c ≤ 281474976710656) (h63 : c ≤ maxLen)
    (h : ∀ v w', Own w' w.heap.size w'.heap.size v e 0 k [] → Chg 0 0 w w' → w.heap.size < w'.heap.size → wl P n ops Q rest ((d, v) :: fr) w') :
    wl P n ops Q (⟨some d, .makeSlice T x y, ty, pos, aft, none⟩ :: rest) fr w := by
  obtain ⟨w', h1, h2, h3⟩ := run_make_own w w.heap.size T e i z k hE.ht hE.hi hE.hz hE.hk kl kc c (by rw [hE.hb]; exact hc) h63 (Nat.le_refl _)
  have ho := Own.of_row h2
  have hlt : w.heap.size < w'.heap.size := by
    rcases ho.2 with ⟨_, hh⟩ | ⟨b, cap, sp, hh, _, h5, _⟩
    · cases hh
    · simp at hh; omega
  exact sx_val rfl rfl hn (fun a ha => by simp [execOp, ha.ev hx, ha.ev hy, h1]) (h _ _ ho (Chg.grown0 h3) hlt)
/-- a slice literal; hb: a closed fact -/
theorem sx_buildSlice {T e : TypeId} {k m : Nat} {parts : Array (Nat × Operand)} (vs : List Value) (hn : Nat.blt d n = true) (hm : m ≤ maxLen) (hl : vs.length = m * k)
    (hb : ∀ a, Agr n fr a → (Instr.buildSlice T m (parts.map fun (i, x) => (i, a.eval x))).run P w = .ok (.slice (some ⟨w.heap.size, 0, none⟩) m m) (w.alloc (.cells vs.toArray e (0, 0))))
    (h : ∀ v' w', w'.heap.size = w.heap.size + 1 → Own w' w.heap.size w'.heap.size v' e m k vs → Chg 0 0 w w' → wl P n ops Q rest ((d, v') :: fr) w') :
    wl P n ops Q (⟨some d, .buildSlice T m parts, ty, pos, aft, none⟩ :: rest) fr w :=
  sx_val rfl rfl hn (fun a ha => by
    have h2 := hb a ha
    simp only [execOp]
    rw [run_bind_ok _ _ h2]; rfl)
    (h _ _ (size_alloc _ _) ⟨hl, .inr ⟨_, m, [], rfl, Nat.le_refl _, (by rw [size_alloc]; exact Nat.lt_succ_self _), Nat.le_refl _, hm, by rw [List.append_nil]; exact Blk.new w vs e, by simpa using hl⟩⟩ (Chg.alloc _ _))
theorem range0 : Array.range 0 = #[] := by simp [Array.range]
theorem range1 : Array.range 1 = #[0] := by rw [← List.toArray_range]; rfl
theorem sx_lit0 {T e : TypeId} {i : TypeInfo} {z : Value} {k bytes : Nat} (hn : Nat.blt d n = true) (hE : Elt P T e i z k bytes)
    (h : ∀ v' w', w'.heap.size = w.heap.size + 1 → Own w' w.heap.size w'.heap.size v' e 0 k [] → Chg 0 0 w w' → wl P n ops Q rest ((d, v') :: fr) w') :
    wl P n ops Q (⟨some d, .buildSlice T 0 #[], ty, pos, aft, none⟩ :: rest) fr w :=
  sx_buildSlice [] hn (by simp [maxLen]) (by simp) (fun a _ => by
    simp [Instr.buildSlice, run_underlying hE.ht, sizeOf, typeInfo, hE.hi, Instr.fill, newRow, range0]) h
theorem sx_lit1 {T e : TypeId} {i : TypeInfo} {z : Value} {bytes : Nat} {x : Operand} {v : Value} (hn : Nat.blt d n = true) (hE : Elt P T e i z 1 bytes) (hx : ev fr x = some v) (h1 : v.oneCell' = true)
    (h : ∀ v' w', w'.heap.size = w.heap.size + 1 → Own w' w.heap.size w'.heap.size v' e 1 1 [v] → Chg 0 0 w w' → wl P n ops Q rest ((d, v') :: fr) w') :
    wl P n ops Q (⟨some d, .buildSlice T 1 #[(0, x)], ty, pos, aft, none⟩ :: rest) fr w :=
  sx_buildSlice [v] hn (by simp [maxLen]) (by simp) (fun a ha => by
    have hc : v.cells = #[v] := by cases v <;> first | rfl | cases h1
    simp [Instr.buildSlice, run_underlying hE.ht, sizeOf, zeroValue, typeInfo, hE.hi, hE.hz, hE.hk, Instr.fill, newRow, ha.ev hx, hc, range1]) h
theorem range2 : Array.range 2 = #[0, 1] := by rw [← List.toArray_range]; rfl
theorem range3 : Array.range 3 = #[0, 1, 2] := by rw [← List.toArray_range]; rfl
theorem range4 : Array.range 4 = #[0, 1, 2, 3] := by rw [← List.toArray_range]; rfl
theorem sx_lit2 {T e : TypeId} {i : TypeInfo} {z : Value} {bytes : Nat} {x0 x1 : Operand} {v0 v1 : Value} (hn : Nat.blt d n = true) (hE : Elt P T e i z 1 bytes) (hx0 : ev fr x0 = some v0) (hx1 : ev fr x1 = some v1) (h10 : v0.oneCell' = true) (h11 : v1.oneCell' = true)
    (h : ∀ v' w', w'.heap.size = w.heap.size + 1 → Own w' w.heap.size w'.heap.size v' e 2 1 [v0, v1] → Chg 0 0 w w' → wl P n ops Q rest ((d, v') :: fr) w') :
    wl P n ops Q (⟨some d, .buildSlice T 2 #[(0, x0), (1, x1)], ty, pos, aft, none⟩ :: rest) fr w :=
  sx_buildSlice [v0, v1] hn (by simp [maxLen]) (by simp) (fun a ha => by
    have hc0 : v0.cells = #[v0] := by cases v0 <;> first | rfl | cases h10
    have hc1 : v1.cells = #[v1] := by cases v1 <;> first | rfl | cases h11
    simp [Instr.buildSlice, run_underlying hE.ht, sizeOf, zeroValue, typeInfo, hE.hi, hE.hz, hE.hk, Instr.fill, newRow, ha.ev hx0, ha.ev hx1, hc0, hc1, range2]) h
theorem sx_lit3 {T e : TypeId} {i : TypeInfo} {z : Value} {bytes : Nat} {x0 x1 x2 : Operand} {v0 v1 v2 : Value} (hn : Nat.blt d n = true) (hE : Elt P T e i z 1 bytes) (hx0 : ev fr x0 = some v0) (hx1 : ev fr x1 = some v1) (hx2 : ev fr x2 = some v2) (h10 : v0.oneCell' = true) (h11 : v1.oneCell' = true) (h12 : v2.oneCell' = true)
    (h : ∀ v' w', w'.heap.size = w.heap.size + 1 → Own w' w.heap.size w'.heap.size v' e 3 1 [v0, v1, v2] → Chg 0 0 w w' → wl P n ops Q rest ((d, v') :: fr) w') :
    wl P n ops Q (⟨some d, .buildSlice T 3 #[(0, x0), (1, x1), (2, x2)], ty, pos, aft, none⟩ :: rest) fr w :=
  sx_buildSlice [v0, v1, v2] hn (by simp [maxLen]) (by simp) (fun a ha => by
    have hc0 : v0.cells = #[v0] := by cases v0 <;> first | rfl | cases h10
    have hc1 : v1.cells = #[v1] := by cases v1 <;> first | rfl | cases h11
    have hc2 : v2.cells = #[v2] := by cases v2 <;> first | rfl | cases h12
    simp [Instr.buildSlice, run_underlying hE.ht, sizeOf, zeroValue, typeInfo, hE.hi, hE.hz, hE.hk, Instr.fill, newRow, ha.ev hx0, ha.ev hx1, ha.ev hx2, hc0, hc1, hc2, range3]) h
theorem sx_lit4 {T e : TypeId} {i : TypeInfo} {z : Value} {bytes : Nat} {x0 x1 x2 x3 : Operand} {v0 v1 v2 v3 : Value} (hn : Nat.blt d n = true) (hE : Elt P T e i z 1 bytes) (hx0 : ev fr x0 = some v0) (hx1 : ev fr x1 = some v1) (hx2 : ev fr x2 = some v2) (hx3 : ev fr x3 = some v3) (h10 : v0.oneCell' = true) (h11 : v1.oneCell' = true) (h12 : v2.oneCell' = true) (h13 : v3.oneCell' = true)
    (h : ∀ v' w', w'.heap.size = w.heap.size + 1 → Own w' w.heap.size w'.heap.size v' e 4 1 [v0, v1, v2, v3] → Chg 0 0 w w' → wl P n ops Q rest ((d, v') :: fr) w') :
    wl P n ops Q (⟨some d, .buildSlice T 4 #[(0, x0), (1, x1), (2, x2), (3, x3)], ty, pos, aft, none⟩ :: rest) fr w :=
  sx_buildSlice [v0, v1, v2, v3] hn (by simp [maxLen]) (by simp) (fun a ha => by
    have hc0 : v0.cells = #[v0] := by cases v0 <;> first | rfl | cases h10
    have hc1 : v1.cells = #[v1] := by cases v1 <;> first | rfl | cases h11
    have hc2 : v2.cells = #[v2] := by cases v2 <;> first | rfl | cases h12
    have hc3 : v3.cells = #[v3] := by cases v3 <;> first | rfl | cases h13
    simp [Instr.buildSlice, run_underlying hE.ht, sizeOf, zeroValue, typeInfo, hE.hi, hE.hz, hE.hk, Instr.fill, newRow, ha.ev hx0, ha.ev hx1, ha.ev hx2, ha.ev hx3, hc0, hc1, hc2, hc3, range4]) h
/-! append -/
theorem sx_append {x y : Operand} {T e U : TypeId} {i : TypeInfo} {z : Value} {k bytes m c lo hi lo' hi' : Nat} {v u : Value} {xs ys : List Value} (hn : Nat.blt d n = true) (hE : Elt P T e i z k bytes) (hx : ev fr x = some v) (hy : ev fr y = some u)
    (hv : Own w lo hi v e m k xs) (hu : Sv w lo' hi' u c k ys) (h1 : ∀ q ∈ ys, q.oneCell' = true) (hlo : lo ≤ w.heap.size) (hc : (m + c) * bytes ≤ 140737488355328) (h63 : m + c ≤ maxLen)
    (h : ∀ v' w', Own w' lo (max hi w'.heap.size) v' e (m + c) k (xs ++ ys) → Chg lo hi w w' → wl P n ops Q rest ((d, v') :: fr) w') :
    wl P n ops Q (⟨some d, .call { callee := .builtin .append, args := #[x, y], argTypes := #[T, T] }, U, pos, aft, none⟩ :: rest) fr w := by
  have main : ∀ ad c', u = .slice (some ad) c c' → (∀ j q, ys[j]? = some q → w.cell? (ad.add j) = some q) → wl P n ops Q (⟨some d, .call { callee := .builtin .append, args := #[x, y], argTypes := #[T, T] }, U, pos, aft, none⟩ :: rest) fr w := by
    intro ad c' he hcell
    subst he
    obtain ⟨v', w', r1, r2, r3, r4⟩ := run_append_own (P := P) w lo T U e i z k bytes hE.ht hE.hi hE.hz hE.hk hE.hb hE.hc hE.h0 v m xs hv.row ad c c' ys hu.1 hcell h1 h63 hc hlo
    refine sx_val rfl rfl hn (fun a ha => ?_) (h v' w' ((Own.of_row r2).mono (Nat.le_refl _) (Nat.le_max_right _ _)) (Chg.grown hv r3))
    simp [execOp, resolve, ha.ev hx, ha.ev hy, invoke, builtin, r1]
  rcases hu.2 with ⟨rfl, a, c', rfl⟩ | ⟨b, off, cap, cs, T', fz, rfl, _, _, h3, h4⟩
  · have hys : ys = [] := by have := hu.1; simpa using this
    subst hys
    cases a with
    | some ad => exact main ad c' rfl (fun j q hj => by simp at hj)
    | none =>
      refine sx_val rfl rfl hn (fun a ha => ?_) (h v w (by simpa using hv.mono (Nat.le_refl _) (Nat.le_max_left _ _)) (Chg.refl _ _ _))
      obtain ⟨a', cc, hsh⟩ := hv.sv.shape
      have hcap : m ≤ cc := by
        rcases hv.2 with ⟨h5, h6⟩ | ⟨b, cap, sp, h5, _, _, h6, _⟩
        · omega
        · rw [h5] at hsh; simp at hsh; omega
      subst hsh
      cases a' <;> simp [execOp, resolve, ha.ev hx, ha.ev hy, invoke, builtin, Builtin.append_, run_underlying hE.ht, sizeOf, typeInfo, hE.hi, Builtin.lenOf, Builtin.firstCells, hcap, storeCells]
  · exact main _ cap rfl fun j q hj => by
      rw [add_at]; simp [World.cell?, h3, h4 j q hj]
end
section
variable {P : Program} {n : Nat} {Q : Exit → Act → World → Prop} {fr fr' : Fr} {w : World} {ops : Array Oper} {rest : List Oper} {d : Nat} {ty : TypeId} {pos : String} {aft : Array Edge} {dst : Option Tmp} {g : Option (Nat × Bool)}
/-! ### regions that draw their order -/
def NoPanicQ (Q : Exit → Act → World → Prop) : Exit → Act → World → Prop
  | .panic _, _, _ => False
  | e, a, w => Q e a w
def dw (P : Program) (n : Nat) (ops : Array Oper) (Q : Exit → Act → World → Prop) (S : World → Prop) (fuel : Nat) (listed : Array Bool) (fr : Fr) (w : World) : Prop :=
  ∀ a, Agr n fr a → wpAnyH P .any ops Q S fuel listed a w
/-- Q of one effectful step -/
def Qd (P : Program) (ops : Array Oper) (Q : Exit → Act → World → Prop) (S : World → Prop) (fuel : Nat) (listed : Array Bool) : Exit → Act → World → Prop
  | .normal, a, w => S w ∧ wpAnyH P .any ops Q S fuel listed a w
  | .outgrown, a, w => Q .outgrown a w
  | _, _, _ => False
theorem dx_region {id : Nat} (S : World → Prop) (hm : P.follows .mixedOrders = true) (hS : S w.drew) (h : dw P n ops (NoPanicQ Q) S ops.size (Array.replicate ops.size false) fr w.drew) : cw P n (.region id ops true) Q fr w := fun a ha =>
  Code.wp_mono (fun e a w hq => by cases e <;> first | exact hq | exact hq.elim) (wp_region_held hm (h a ha))
theorem dx_take {S : World → Prop} {fuel : Nat} {listed : Array Bool} (i : Nat) {o : Oper} {v : Value} (hi : ops[i]? = some o) (hg : o.guard = none) (hd : o.dst = some d) (hn : Nat.blt d n = true)
    (hs : Region.noSelect ops = true) (hf : Region.free .any ops listed i = true) (hr : (Region.ready .any ops listed).contains i = true) (hS : S w)
    (hp : ∀ w, S w → Px P n fr o v w) (h : dw P n ops (NoPanicQ Q) S fuel (listed.setIfInBounds i true) ((d, v) :: fr) w) : dw P n ops (NoPanicQ Q) S (fuel + 1) listed fr w := fun a ha => by
  refine wpAnyH_take (v := v) hi hs hf hr (fun c a w hq => hq) (.inl ⟨by simp [Region.wanted, hg], fun w hw => hp w hw a ha⟩) hS ?_
  rw [hd]
  exact h _ (ha.put d (by simpa [Nat.blt_eq] using hn) v)
theorem dx_skip {S : World → Prop} {fuel : Nat} {listed : Array Bool} (i : Nat) {o : Oper} {gi t : Nat} {want b : Bool} (hi : ops[i]? = some o) (hg : o.guard = some (gi, want)) (ht : (ops[gi]?).bind (·.dst) = some t) (hv : alook fr t = some (.bool b)) (hb : (b == want) = false)
    (hd : o.dst = some d) (hn : Nat.blt d n = true)
    (hs : Region.noSelect ops = true) (hf : Region.free .any ops listed i = true) (hr : (Region.ready .any ops listed).contains i = true) (hS : S w)
    (h : dw P n ops (NoPanicQ Q) S fuel (listed.setIfInBounds i true) ((d, undef) :: fr) w) : dw P n ops (NoPanicQ Q) S (fuel + 1) listed fr w := fun a ha => by
  have hw : Region.wanted o (yielded ops a.tmps) = false := by
    have : b ≠ want := by simpa using hb
    simp [Region.wanted, hg, yielded, ht, ha.look t _ hv, this]
  refine wpAnyH_take (v := undef) hi hs hf hr (fun c a w hq => hq) (.inr ⟨hw, rfl⟩) hS ?_
  rw [hd]
  exact h _ (ha.put d (by simpa [Nat.blt_eq] using hn) undef)
theorem dx_eff {S : World → Prop} {fuel : Nat} {listed : Array Bool} (i : Nat) {o : Oper} (hi : ops[i]? = some o) (hr : Region.ready .any ops listed = [i])
    (h : wl P n ops (Qd P ops (NoPanicQ Q) S fuel (listed.setIfInBounds i true)) [o] fr w) : dw P n ops (NoPanicQ Q) S (fuel + 1) listed fr w := fun a ha => by
  refine wpAnyH_all hr (by simp) fun j hj => ?_
  obtain rfl : j = i := by simpa using hj
  have h1 := h a ha
  unfold wpList at h1
  unfold wpOp
  simp only [hi]
  split
  · rename_i hw
    rw [if_pos hw] at h1
    rcases h1 with h1 | ⟨h1, a', w', h2⟩
    · left
      unfold Oper.wp at *
      generalize (execOp a.eval o).run P w = r at *
      cases r with
      | ok x w' =>
        cases x <;> simp only [Oper.upon] at h1 ⊢
        all_goals first
          | exact h1
          | exact Calls.mono h1 (fun e w'' he => by cases e <;> first | exact he | exact he.elim | (obtain ⟨a', w', he⟩ := he; exact ⟨a', w', he⟩))
          | exact Rows.mono h1 (fun _ _ he => he)
      | halt x w' => cases x <;> simp only [Oper.upon] at h1 ⊢ <;> first | exact h1 | exact h1.elim
    · right
      exact ⟨h1, a', w', h2⟩
  · rename_i hw
    rw [if_neg hw] at h1
    exact h1
theorem dx_effs {S : World → Prop} {fuel : Nat} {listed : Array Bool} (rs : List Nat) (hr : Region.ready .any ops listed = rs) (hne : rs ≠ [])
    (h : ∀ j ∈ rs, ∃ o, ops[j]? = some o ∧ wl P n ops (Qd P ops (NoPanicQ Q) S fuel (listed.setIfInBounds j true)) [o] fr w) : dw P n ops (NoPanicQ Q) S (fuel + 1) listed fr w := fun a ha => by
  refine wpAnyH_all hr hne fun j hj => ?_
  obtain ⟨o, hi, h⟩ := h j hj
  have h1 := h a ha
  unfold wpList at h1
  unfold wpOp
  simp only [hi]
  split
  · rename_i hw
    rw [if_pos hw] at h1
    rcases h1 with h1 | ⟨h1, a', w', h2⟩
    · left
      unfold Oper.wp at *
      generalize (execOp a.eval o).run P w = r at *
      cases r with
      | ok x w' =>
        cases x <;> simp only [Oper.upon] at h1 ⊢
        all_goals first
          | exact h1
          | exact Calls.mono h1 (fun e w'' he => by cases e <;> first | exact he | exact he.elim | (obtain ⟨a', w', he⟩ := he; exact ⟨a', w', he⟩))
          | exact Rows.mono h1 (fun _ _ he => he)
      | halt x w' => cases x <;> simp only [Oper.upon] at h1 ⊢ <;> first | exact h1 | exact h1.elim
    · right
      exact ⟨h1, a', w', h2⟩
  · rename_i hw
    rw [if_neg hw] at h1
    exact h1
theorem dx_eff2 {S : World → Prop} {fuel : Nat} {listed : Array Bool} (i j : Nat) {o u : Oper} (hi : ops[i]? = some o) (hj : ops[j]? = some u) (hr : Region.ready .any ops listed = [i, j])
    (h1 : wl P n ops (Qd P ops (NoPanicQ Q) S fuel (listed.setIfInBounds i true)) [o] fr w) (h2 : wl P n ops (Qd P ops (NoPanicQ Q) S fuel (listed.setIfInBounds j true)) [u] fr w) : dw P n ops (NoPanicQ Q) S (fuel + 1) listed fr w :=
  dx_effs [i, j] hr (by simp) fun k hk => by
    rcases List.mem_cons.1 hk with rfl | hk
    · exact ⟨_, hi, h1⟩
    · obtain rfl := List.mem_singleton.1 hk; exact ⟨_, hj, h2⟩
theorem dx_eff3 {S : World → Prop} {fuel : Nat} {listed : Array Bool} (i j l : Nat) {o u v : Oper} (hi : ops[i]? = some o) (hj : ops[j]? = some u) (hl : ops[l]? = some v) (hr : Region.ready .any ops listed = [i, j, l])
    (h1 : wl P n ops (Qd P ops (NoPanicQ Q) S fuel (listed.setIfInBounds i true)) [o] fr w) (h2 : wl P n ops (Qd P ops (NoPanicQ Q) S fuel (listed.setIfInBounds j true)) [u] fr w)
    (h3 : wl P n ops (Qd P ops (NoPanicQ Q) S fuel (listed.setIfInBounds l true)) [v] fr w) : dw P n ops (NoPanicQ Q) S (fuel + 1) listed fr w :=
  dx_effs [i, j, l] hr (by simp) fun k hk => by
    rcases List.mem_cons.1 hk with rfl | hk
    · exact ⟨_, hi, h1⟩
    · rcases List.mem_cons.1 hk with rfl | hk
      · exact ⟨_, hj, h2⟩
      · obtain rfl := List.mem_singleton.1 hk; exact ⟨_, hl, h3⟩
/-- a cut behind a region: what holds then, whatever order was drawn -/
theorem sx_cut {K : Act → World → Prop} {Q : Exit → Act → World → Prop} {x y : Code} {fr0 : Fr} {w0 : World} (k : ∀ fr w, cw P n y Q fr w → kw n K fr w) (R : Fr → World → Prop)
    (h1 : (∀ fr w, R fr w → kw n K fr w) → cw P n x (Exit.then K Q) fr0 w0) (h2 : ∀ fr w, R fr w → cw P n y Q fr w) : cw P n x (Exit.then K Q) fr0 w0 := h1 fun fr w h => k fr w (h2 fr w h)
theorem kw_sub {K : Act → World → Prop} {fr fr' : Fr} {w : World} (hs : Sub fr fr') (h : kw n K fr' w) : kw n K fr w := fun a ha => h a (ha.sub hs)
theorem dx_next {S : World → Prop} {fuel : Nat} {listed : Array Bool} (hS : S w) (h : dw P n ops Q S fuel listed fr w) : qw n (Qd P ops Q S fuel listed) .normal fr w := fun a ha => ⟨hS, h a ha⟩
theorem dx_done {S : World → Prop} {fuel : Nat} {listed : Array Bool} (hr : Region.ready .any ops listed = []) (h : qw n Q .normal fr w) : dw P n ops (NoPanicQ Q) S fuel listed fr w := fun a ha => wpAnyH_done (Q := NoPanicQ Q) hr (h a ha) fuel
end
theorem cells_agg (cs : Array Value) : (Value.agg cs).cells = cs := rfl
theorem bTrue {p : Prop} [Decidable p] (h : p) : Value.bool true = .bool (decide p) := by simp [h]
theorem bFalse {p : Prop} [Decidable p] (h : ¬ p) : Value.bool false = .bool (decide p) := by simp [h]
theorem bIff {p q : Prop} [Decidable p] [Decidable q] (h : p ↔ q) : Value.bool (decide p) = .bool (decide q) := by simp [h]
theorem iEq {a b : Int} (h : a = b) : Value.int .i64 a = .int .i64 b := by rw [h]
theorem one_nil : ∀ u ∈ ([] : List Value), u.oneCell' = true := fun _ h => by cases h
theorem one_cons {v : Value} {l : List Value} (h : v.oneCell' = true) (hl : ∀ u ∈ l, u.oneCell' = true) : ∀ u ∈ v :: l, u.oneCell' = true := fun u hu => by
  rcases List.mem_cons.1 hu with rfl | hu
  · exact h
  · exact hl u hu
theorem one_int {zs : List Int} : ∀ u ∈ zs.map (Value.int .i64), u.oneCell' = true := fun u hu => by
  obtain ⟨_, _, rfl⟩ := List.mem_map.1 hu; rfl
theorem one_str {ss : List ByteArray} : ∀ u ∈ ss.map Value.string, u.oneCell' = true := fun u hu => by
  obtain ⟨_, _, rfl⟩ := List.mem_map.1 hu; rfl
theorem at_str {zs : List ByteArray} {j : Nat} (h : j < zs.length) : (zs.map Value.string)[j]? = some (.string (zs.getD j ByteArray.empty)) := by
  simp [List.getElem?_eq_getElem h]
theorem made_int (n : Nat) : (madeCells (Value.cells (.int .i64 0)) (n * 1)).toList = (List.replicate n (0 : Int)).map (Value.int .i64) := by
  rw [Nat.mul_one]
  apply List.ext_getElem?
  intro j
  simp only [madeCells]
  simp [Value.cells, List.getElem?_replicate]
  by_cases h : j < n <;> simp [h, Nat.mod_one]
theorem map_set_int (zs : List Int) (j : Nat) (x : Int) : (zs.map (Value.int .i64)).set j (.int .i64 x) = (zs.set j x).map (Value.int .i64) := by
  rw [List.map_set]
theorem look_lit {vs cs : List Value} {o : Nat} (h : (cs.drop o).take vs.length = vs) : ∀ j v, vs[j]? = some v → cs[o + j]? = some v := fun j v hj => by
  have hl : j < vs.length := by
    rcases Nat.lt_or_ge j vs.length with h' | h'
    · exact h'
    · simp [List.getElem?_eq_none h'] at hj
  rw [← h, List.getElem?_take_of_lt hl, List.getElem?_drop] at hj
  exact hj
theorem look_int {fr : Fr} {t : Nat} {a b : Int} (h : alook fr t = some (.int .i64 a)) (e : a = b) : alook fr t = some (.int .i64 b) := by rw [h, e]
theorem at_int {zs : List Int} {j : Nat} (h : j < zs.length) : (zs.map (Value.int .i64))[j]? = some (.int .i64 (zs.getD j 0)) := by
  simp [List.getElem?_eq_getElem h]
theorem Sv.nil (w : World) (lo hi k : Nat) : Sv w lo hi (.slice none 0 0) 0 k [] := ⟨by simp, .inl ⟨rfl, _, _, rfl⟩⟩
theorem Own.nil (w : World) (lo hi : Nat) (e : TypeId) (k : Nat) : Own w lo hi (.slice none 0 0) e 0 k [] := ⟨by simp, .inl ⟨rfl, rfl⟩⟩
abbrev OwnI (w : World) (lo hi : Nat) (v : Value) (e : TypeId) (zs : List Int) : Prop := Own w lo hi v e zs.length 1 (zs.map (Value.int .i64))
abbrev SlS (w : World) (lo hi : Nat) (v : Value) (ss : List ByteArray) : Prop := Sv w lo hi v ss.length 1 (ss.map Value.string)
abbrev OwnS (w : World) (lo hi : Nat) (v : Value) (e : TypeId) (ss : List ByteArray) : Prop := Own w lo hi v e ss.length 1 (ss.map Value.string)
theorem Own.norm {α : Type} {f : α → Value} {w : World} {lo hi : Nat} {v : Value} {e : TypeId} {n : Nat} {zs : List α} (h : Own w lo hi v e n 1 (zs.map f)) : Own w lo hi v e zs.length 1 (zs.map f) := by
  have : n = zs.length := by have := h.1; simp at this; omega
  subst this; exact h
theorem Sv.norm {α : Type} {f : α → Value} {w : World} {lo hi : Nat} {v : Value} {n : Nat} {zs : List α} (h : Sv w lo hi v n 1 (zs.map f)) : Sv w lo hi v zs.length 1 (zs.map f) := by
  have : n = zs.length := by have := h.1; simp at this; omega
  subst this; exact h
theorem Own.set {α : Type} {f : α → Value} {w : World} {lo hi : Nat} {v : Value} {e : TypeId} {n j : Nat} {zs : List α} {x : α} (h : Own w lo hi v e n 1 ((zs.map f).set j (f x))) : Own w lo hi v e (zs.set j x).length 1 ((zs.set j x).map f) := by
  rw [← List.map_set] at h; exact h.norm
theorem Own.app {α : Type} {f : α → Value} {w : World} {lo hi : Nat} {v : Value} {e : TypeId} {n : Nat} {a b : List α} (h : Own w lo hi v e n 1 (a.map f ++ b.map f)) : Own w lo hi v e (a ++ b).length 1 ((a ++ b).map f) := by
  rw [← List.map_append] at h; exact h.norm
theorem Own.made {w : World} {lo hi : Nat} {v : Value} {e : TypeId} {n m : Nat} (h : Own w lo hi v e n 1 (madeCells (Value.cells (.int .i64 0)) (m * 1)).toList) : OwnI w lo hi v e (List.replicate m 0) := by
  rw [made_int] at h; exact h.norm
/-- the first h elements -/
def vtake : Value → Nat → Value
  | .slice a _ c, h => .slice a h c
  | v, _ => v
theorem Sv.take {w : World} {lo hi : Nat} {v : Value} {n k : Nat} {xs : List Value} (hs : Sv w lo hi v n k xs) {h : Nat} (hh : h ≤ n) : Sv w lo hi (vtake v h) h k (xs.take (h * k)) := by
  refine ⟨by rw [List.length_take, hs.1, Nat.min_eq_left (Nat.mul_le_mul_right _ hh)], ?_⟩
  rcases hs.2 with ⟨rfl, a, c, rfl⟩ | ⟨b, off, cap, cs, T, fz, rfl, h1, h2, h3, h4⟩
  · exact .inl ⟨by omega, a, c, by simp [vtake]; omega⟩
  · refine .inr ⟨b, off, cap, cs, T, fz, rfl, ⟨by omega, h1.2⟩, h2, h3, fun j u hj => h4 j u ?_⟩
    rw [List.getElem?_take] at hj
    split at hj
    · exact hj
    · cases hj
theorem Own.take {w : World} {lo hi : Nat} {v : Value} {e : TypeId} {n k : Nat} {xs : List Value} (hs : Own w lo hi v e n k xs) {h : Nat} (hh : h ≤ n) : Own w lo hi (vtake v h) e h k (xs.take (h * k)) := by
  refine ⟨by rw [List.length_take, hs.1, Nat.min_eq_left (Nat.mul_le_mul_right _ hh)], ?_⟩
  rcases hs.2 with ⟨rfl, rfl⟩ | ⟨b, cap, sp, rfl, h1, h2, h3, h4, h5, h6⟩
  · have : h = 0 := by omega
    subst this; exact .inl ⟨rfl, rfl⟩
  · refine .inr ⟨b, cap, xs.drop (h * k) ++ sp, rfl, h1, h2, by omega, h4, ?_, ?_⟩
    · rw [← List.append_assoc, List.take_append_drop]; exact h5
    · rw [← List.append_assoc, List.take_append_drop]; exact h6
theorem Own.takeI {α : Type} {f : α → Value} {w : World} {lo hi : Nat} {v : Value} {e : TypeId} {zs : List α} (hs : Own w lo hi v e zs.length 1 (zs.map f)) {h : Nat} (hh : h ≤ zs.length) : Own w lo hi (vtake v h) e (zs.take h).length 1 ((zs.take h).map f) := by
  have := Own.take hs hh
  rw [Nat.mul_one, ← List.map_take] at this; exact this.norm
theorem Sv.takeI {α : Type} {f : α → Value} {w : World} {lo hi : Nat} {v : Value} {zs : List α} (hs : Sv w lo hi v zs.length 1 (zs.map f)) {h : Nat} (hh : h ≤ zs.length) : Sv w lo hi (vtake v h) (zs.take h).length 1 ((zs.take h).map f) := by
  have := Sv.take hs hh
  rw [Nat.mul_one, ← List.map_take] at this; exact this.norm
section
variable {P : Program} {n : Nat} {Q : Exit → Act → World → Prop} {fr fr' : Fr} {w : World} {ops : Array Oper} {rest : List Oper} {d : Nat} {ty : TypeId} {pos : String} {aft : Array Edge} {dst : Option Tmp} {g : Option (Nat × Bool)}
theorem sx_condPT {c : Operand} {x y : Code} {p : Prop} [Decidable p] (hc : ev fr c = some (.bool (decide p))) (hp : p) (h : cw P n x Q fr w) : cw P n (.cond c x y) Q fr w := sx_condT (by rw [hc]; simp [hp]) h
theorem sx_condPF {c : Operand} {x y : Code} {p : Prop} [Decidable p] (hc : ev fr c = some (.bool (decide p))) (hp : ¬ p) (h : cw P n y Q fr w) : cw P n (.cond c x y) Q fr w := sx_condF (by rw [hc]; simp [hp]) h
theorem sx_condBT {c : Operand} {x y : Code} {b : Bool} (hc : ev fr c = some (.bool b)) (hp : b = true) (h : cw P n x Q fr w) : cw P n (.cond c x y) Q fr w := sx_condT (by rw [hc, hp]) h
theorem sx_condBF {c : Operand} {x y : Code} {b : Bool} (hc : ev fr c = some (.bool b)) (hp : b = false) (h : cw P n y Q fr w) : cw P n (.cond c x y) Q fr w := sx_condF (by rw [hc, hp]) h
theorem sx_tmpPT {t : Nat} {p : Prop} [Decidable p] {l : List Oper} (hv : alook fr t = some (.bool (decide p))) (hp : p) (h : wl P n ops Q l ((t, .bool true) :: fr) w) : wl P n ops Q l fr w := sx_tmpP hv (fun _ => h) (fun hn => absurd hp hn)
theorem sx_tmpPF {t : Nat} {p : Prop} [Decidable p] {l : List Oper} (hv : alook fr t = some (.bool (decide p))) (hp : ¬ p) (h : wl P n ops Q l ((t, .bool false) :: fr) w) : wl P n ops Q l fr w := sx_tmpP hv (fun h' => absurd h' hp) (fun _ => h)
theorem sx_tmpBT {t : Nat} {b : Bool} {l : List Oper} (hv : alook fr t = some (.bool b)) (hp : b = true) (h : wl P n ops Q l ((t, .bool true) :: fr) w) : wl P n ops Q l fr w := sx_tmpB hv (fun _ => h) (fun hn => by rw [hp] at hn; cases hn)
theorem sx_tmpBF {t : Nat} {b : Bool} {l : List Oper} (hv : alook fr t = some (.bool b)) (hp : b = false) (h : wl P n ops Q l ((t, .bool false) :: fr) w) : wl P n ops Q l fr w := sx_tmpB hv (fun hn => by rw [hp] at hn; cases hn) (fun _ => h)
theorem dx_takeG {S : World → Prop} {fuel : Nat} {listed : Array Bool} (i : Nat) {o : Oper} {v : Value} {gi t : Nat} {want : Bool} (hi : ops[i]? = some o) (hg : o.guard = some (gi, want)) (ht : (ops[gi]?).bind (·.dst) = some t) (hv : alook fr t = some (.bool want)) (hd : o.dst = some d) (hn : Nat.blt d n = true)
    (hs : Region.noSelect ops = true) (hf : Region.free .any ops listed i = true) (hr : (Region.ready .any ops listed).contains i = true) (hS : S w)
    (hp : ∀ w, S w → Px P n fr o v w) (h : dw P n ops (NoPanicQ Q) S fuel (listed.setIfInBounds i true) ((d, v) :: fr) w) : dw P n ops (NoPanicQ Q) S (fuel + 1) listed fr w := fun a ha => by
  refine wpAnyH_take (v := v) hi hs hf hr (fun c a w hq => hq) (.inl ⟨by simp [Region.wanted, hg, yielded, ht, ha.look t _ hv], fun w hw => hp w hw a ha⟩) hS ?_
  rw [hd]
  exact h _ (ha.put d (by simpa [Nat.blt_eq] using hn) v)
theorem dx_tmpPT {S : World → Prop} {fuel : Nat} {listed : Array Bool} {t : Nat} {p : Prop} [Decidable p] (hv : alook fr t = some (.bool (decide p))) (hp : p) (h : dw P n ops Q S fuel listed ((t, .bool true) :: fr) w) : dw P n ops Q S fuel listed fr w := fun a ha => h a ⟨ha.size, ha.defs, fun t' u hu => by
  simp only [alook] at hu
  by_cases e : t = t'
  · subst e; simp at hu; subst hu; rw [ha.look t _ hv]; simp [hp]
  · rw [beq_ne e] at hu; exact ha.look t' u hu⟩
theorem dx_tmpPF {S : World → Prop} {fuel : Nat} {listed : Array Bool} {t : Nat} {p : Prop} [Decidable p] (hv : alook fr t = some (.bool (decide p))) (hp : ¬ p) (h : dw P n ops Q S fuel listed ((t, .bool false) :: fr) w) : dw P n ops Q S fuel listed fr w := fun a ha => h a ⟨ha.size, ha.defs, fun t' u hu => by
  simp only [alook] at hu
  by_cases e : t = t'
  · subst e; simp at hu; subst hu; rw [ha.look t _ hv]; simp [hp]
  · rw [beq_ne e] at hu; exact ha.look t' u hu⟩
theorem px_notP {x : Operand} {T : TypeId} {p : Prop} [Decidable p] (hx : ev fr x = some (.bool (decide p))) : Px P n fr ⟨dst, .unOp .not T x, ty, pos, aft, g⟩ (.bool (decide (¬ p))) w := fun a ha => by
  by_cases hp : p <;> simp [execOp, ha.ev hx, Op.unary, hp]
theorem px_index1 {x y : Operand} {T e : TypeId} {lo hi m : Nat} {i : Int} {j : Nat} {xs : List Value} {v : Value} (hx : ev fr x = some v) (hy : ev fr y = some (.int .i64 i)) (hj : i = (j : Int)) (hT : P.underlying T = some (.slice e)) (hS : ∀ w, (sizeOf e).run P w = .ok 1 w)
    (hs : Sv w lo hi v m 1 xs) (h1 : j < m) : Px P n fr ⟨dst, .indexAddr T x y, ty, pos, aft, g⟩ (.pointer (some ⟨vblk v, voff v + j, none⟩)) w := by
  subst hj
  have := px_indexAddr (P := P) (n := n) (fr := fr) (ty := ty) (pos := pos) (aft := aft) (dst := dst) (g := g) hx hy hT hS hs (by omega) (by omega)
  simpa using this
theorem px_indexK {x y : Operand} {T e : TypeId} {lo hi m k : Nat} {i : Int} {j : Nat} {xs : List Value} {v : Value} (hx : ev fr x = some v) (hy : ev fr y = some (.int .i64 i)) (hj : i = (j : Int)) (hT : P.underlying T = some (.slice e)) (hS : ∀ w, (sizeOf e).run P w = .ok k w)
    (hs : Sv w lo hi v m k xs) (h1 : j < m) : Px P n fr ⟨dst, .indexAddr T x y, ty, pos, aft, g⟩ (.pointer (some ⟨vblk v, voff v + j * k, none⟩)) w := by
  subst hj
  have := px_indexAddr (P := P) (n := n) (fr := fr) (ty := ty) (pos := pos) (aft := aft) (dst := dst) (g := g) hx hy hT hS hs (by omega) (by omega)
  simpa using this
theorem px_sliceTo {x y : Operand} {T e : TypeId} {lo hi' m k h : Nat} {i : Int} {xs : List Value} {v : Value} (hx : ev fr x = some v) (hy : ev fr y = some (.int .i64 i)) (hi : i = (h : Int)) (hT : P.underlying T = some (.slice e)) (hS : ∀ w, (sizeOf e).run P w = .ok k w)
    (hs : Sv w lo hi' v m k xs) (hh : h ≤ m) : Px P n fr ⟨dst, .slice T x none (some y) none, ty, pos, aft, g⟩ (vtake v h) w := by
  subst hi
  intro a ha
  have key : ∀ A c, h ≤ c → (execOp a.eval ⟨dst, .slice T x none (some y) none, ty, pos, aft, g⟩ : Sem Next) = (execOp a.eval ⟨dst, .slice T x none (some y) none, ty, pos, aft, g⟩) → v = .slice A m c → (execOp a.eval ⟨dst, .slice T x none (some y) none, ty, pos, aft, g⟩).run P w = .ok (.value (vtake v h)) w := by
    intro A c hc _ hv
    subst hv
    have hA : (if c = 0 then A else Option.map (fun x => x.add 0) A) = A := by
      split
      · rfl
      · cases A <;> simp [Addr.add]
    simp [execOp, ha.ev hx, ha.ev hy, Instr.sliceAt, run_underlying hT, Instr.slice, Instr.sliceBounds, Instr.sliceBound, asIntOf, hS, vtake, hc, hA]
  rcases hs.2 with ⟨rfl, A, c, hv⟩ | ⟨b, off, cap, cs, T', fz, hv, h1, _⟩
  · exact key A c (by omega) rfl hv
  · exact key _ cap (by omega) rfl hv
theorem px_lenS {x : Operand} {T U : TypeId} {s : ByteArray} (hx : ev fr x = some (.string s)) (hT : P.underlying T = some .string) :
    Px P n fr ⟨dst, .call { callee := .builtin .len, args := #[x], argTypes := #[T] }, U, pos, aft, g⟩ (.int .i64 s.size) w := fun a ha => by
  simp [execOp, resolve, ha.ev hx, invoke, builtin, Builtin.len_, run_underlying hT, goInt]
theorem bytes_eq (s t : ByteArray) : (s.toList == t.toList) = decide (s = t) := by
  rw [Bool.eq_iff_iff]
  simp only [beq_iff_eq, decide_eq_true_eq]
  constructor
  · intro h
    have h' : s.data.toList = t.data.toList := by simpa [ByteArray.toList_eq] using h
    cases s; cases t; simp only [ByteArray.mk.injEq]; exact Array.toList_inj.1 h'
  · rintro rfl; rfl
theorem px_eqS {x y : Operand} {T U : TypeId} {s t : ByteArray} (hx : ev fr x = some (.string s)) (hy : ev fr y = some (.string t)) : Px P n fr ⟨dst, .binOp .eql T x y U, ty, pos, aft, g⟩ (.bool (decide (s = t))) w := fun a ha => by
  simp [execOp, ha.ev hx, ha.ev hy, eqGuard, binOp, Op.stringOp, bytes_eq]
theorem px_neS {x y : Operand} {T U : TypeId} {s t : ByteArray} (hx : ev fr x = some (.string s)) (hy : ev fr y = some (.string t)) : Px P n fr ⟨dst, .binOp .neq T x y U, ty, pos, aft, g⟩ (.bool (decide (s ≠ t))) w := fun a ha => by
  simp [execOp, ha.ev hx, ha.ev hy, eqGuard, binOp, Op.stringOp, bytes_eq]
theorem px_cat {x y : Operand} {T U : TypeId} {s t : ByteArray} (hx : ev fr x = some (.string s)) (hy : ev fr y = some (.string t)) (hl : s.size + t.size ≤ 9223372036854775807) : Px P n fr ⟨dst, .binOp .add T x y U, ty, pos, aft, g⟩ (.string (s ++ t)) w := fun a ha => by
  have hm : IntKind.i64.max = 9223372036854775807 := by decide
  have h : ¬ (((s.size + t.size : Nat) : Int) > IntKind.i64.max) := by rw [hm]; omega
  simp only [execOp, ha.ev hx, ha.ev hy]
  refine (run_bind_ok _ _ (x := Value.string (s ++ t)) (w' := w) ?_).trans rfl
  simp only [eqGuard, binOp, Op.stringOp]
  rw [if_neg h]; rfl
def evp (fr : Fr) : List (Nat × Operand) → Option (List (Nat × Value))
  | [] => some []
  | (i, x) :: l => match ev fr x, evp fr l with
    | some v, some vs => some ((i, v) :: vs)
    | _, _ => none
theorem Agr.evp {a : Act} (ha : Agr n fr a) : ∀ {l : List (Nat × Operand)} {vs : List (Nat × Value)}, Ytjkeefmpjocilaa.evp fr l = some vs → l.map (fun (i, x) => (i, a.eval x)) = vs
  | [], vs, h => by simp [Ytjkeefmpjocilaa.evp] at h; subst h; rfl
  | (i, x) :: l, vs, h => by
    simp only [Ytjkeefmpjocilaa.evp] at h
    split at h
    · rename_i v us hv hus
      simp at h; subst h
      simp only [List.map_cons, ha.ev hv, ha.evp hus]
    · cases h
theorem sx_litG {T e : TypeId} {k m : Nat} {l : List (Nat × Operand)} {ps : List (Nat × Value)} {vs : List Value} (hn : Nat.blt d n = true) (hp : evp fr l = some ps) (hl : m ≤ maxLen ∧ vs.length = m * k)
    (hb : ∀ w, (Instr.buildSlice T m ps.toArray).run P w = .ok (.slice (some ⟨w.heap.size, 0, none⟩) m m) (w.alloc (.cells vs.toArray e (0, 0))))
    (h : ∀ v' w', w'.heap.size = w.heap.size + 1 → Own w' w.heap.size w'.heap.size v' e m k vs → Chg 0 0 w w' → wl P n ops Q rest ((d, v') :: fr) w') :
    wl P n ops Q (⟨some d, .buildSlice T m l.toArray, ty, pos, aft, none⟩ :: rest) fr w :=
  sx_buildSlice vs hn hl.1 hl.2 (fun a ha => by
    have e : (l.toArray.map fun (i, x) => (i, a.eval x)) = ps.toArray := by rw [← ha.evp hp]; simp
    rw [e]; exact hb w) h
theorem px_build {T : TypeId} {l : List (Nat × Operand)} {vs : List (Nat × Value)} {v : Value} (hp : evp fr l = some vs) (hb : (Instr.build T vs.toArray).run P w = .ok v w) : Px P n fr ⟨dst, .build T l.toArray, ty, pos, aft, g⟩ v w := fun a ha => by
  have e : (l.toArray.map fun (i, x) => (i, a.eval x)) = vs.toArray := by rw [← ha.evp hp]; simp
  simp only [execOp]
  rw [e, run_bind_ok _ _ hb]; rfl
theorem px_fieldv {x : Operand} {T i : Nat} {v u : Value} (hx : ev fr x = some v) (hb : (Instr.field T v i).run P w = .ok u w) : Px P n fr ⟨dst, .field T x i, ty, pos, aft, g⟩ u w := fun a ha => by
  simp only [execOp, ha.ev hx]
  rw [run_bind_ok _ _ hb]; rfl
theorem px_makeFunc {fn : Fn} {l c : List Operand} {vs cs : List Value} (hl : evs fr l = some vs) (hc : evs fr c = some cs) : Px P n fr ⟨dst, .makeFunc fn l.toArray c.toArray, ty, pos, aft, g⟩ (.func fn vs.toArray cs.toArray) w := fun a ha => by
  simp [execOp, Instr.makeFunc, ha.evs hl, ha.evs hc]
theorem sx_end0 {fn : Func} {Post : Value → World → Prop} (hr : fn.results = #[]) (hp : Post (.tuple #[]) w) : qw n (bodyPost P fn fun e w' => ∃ v, e = .returned v ∧ Post v w') .normal fr w := fun a ha =>
  ⟨ha.defs, _, by simp [results, hr], _, rfl, hp⟩
theorem sx_ret0 {fn : Func} {Post : Value → World → Prop} (hr : fn.results = #[]) (hp : Post (.tuple #[]) w) : qw n (bodyPost P fn fun e w' => ∃ v, e = .returned v ∧ Post v w') .ret fr w := fun a ha =>
  ⟨ha.defs, _, by simp [results, hr], _, rfl, hp⟩
theorem cells_one {v : Value} (h : v.oneCell' = true) : v.cells = #[v] := by cases v <;> first | rfl | cases h
end
section
variable {P : Program} {n : Nat} {Q : Exit → Act → World → Prop} {fr fr' : Fr} {w : World} {ops : Array Oper} {rest : List Oper} {d : Nat} {ty : TypeId} {pos : String} {aft : Array Edge} {dst : Option Tmp} {g : Option (Nat × Bool)}
theorem sx_makeC {x y : Operand} {T e : TypeId} {i : TypeInfo} {z : Value} {k bytes l c : Nat} {kl kc : IntKind} (hn : Nat.blt d n = true) (hE : Elt P T e i z k bytes) (hx : ev fr x = some (.int kl (l : Int))) (hy : ev fr y = some (.int kc (c : Int)))
    (hlc : l ≤ c) (hc : bytes * c ≤ 281474976710656) (h63 : c ≤ maxLen)
    (h : ∀ v w', Own w' w.heap.size w'.heap.size v e l k ((madeCells z.cells (c * k)).toList.take (l * k)) → Chg 0 0 w w' → w.heap.size < w'.heap.size → wl P n ops Q rest ((d, v) :: fr) w') :
    wl P n ops Q (⟨some d, .makeSlice T x y, ty, pos, aft, none⟩ :: rest) fr w := by
  have hb := hE.hb
  have h63' : (c : Int) ≤ 9223372036854775807 := by have := h63; simp [maxLen] at this; omega
  have hb' : (i.bytes : Int) * (c : Int) ≤ 281474976710656 := by
    have h1 : ((i.bytes * c : Nat) : Int) ≤ 281474976710656 := by rw [hb]; omega
    rwa [Int.natCast_mul] at h1
  have hr := run_make (P := P) w T e i z hE.ht hE.hi hE.hz kl kc l c (by omega) (by omega) hb' h63'
  simp only [Int.toNat_natCast, hE.hk] at hr
  have hsz : (madeCells z.cells (c * k)).toList.length = c * k := by simp [madeCells]
  have hlk : l * k ≤ c * k := Nat.mul_le_mul_right _ hlc
  refine sx_val (w' := w.alloc (.cells (madeCells z.cells (c * k)) e)) rfl rfl hn (fun a ha => by simp [execOp, ha.ev hx, ha.ev hy, hr]) (h _ _ ⟨by rw [List.length_take, hsz]; omega, .inr ⟨w.heap.size, c, (madeCells z.cells (c * k)).toList.drop (l * k), rfl, Nat.le_refl _, ?_, hlc, h63, ?_, ?_⟩⟩ (Chg.alloc w _) ?_)
  · rw [size_alloc]; exact Nat.lt_succ_self _
  · rw [List.take_append_drop]; exact Blk.new w _ e
  · rw [List.take_append_drop]; exact hsz
  · rw [size_alloc]; exact Nat.lt_succ_self _
end
theorem Own.madeC {w : World} {lo hi : Nat} {v : Value} {e : TypeId} {n m : Nat} (h : Own w lo hi v e n 1 ((madeCells (Value.cells (.int .i64 0)) (m * 1)).toList.take (n * 1))) (hl : n ≤ m) : OwnI w lo hi v e (List.replicate n 0) := by
  rw [made_int, Nat.mul_one, ← List.map_take, List.take_replicate, Nat.min_eq_left hl] at h; exact h.norm
theorem sx_ret3 {P : Program} {n : Nat} {fr : Fr} {w : World} {fn : Func} {Post : Value → World → Prop} {r0 r1 r2 : ResultVar} {v0 v1 v2 : Value} (hr : fn.results = #[r0, r1, r2]) (h0 : resOne P fr w r0 v0) (h1 : resOne P fr w r1 v1) (h2 : resOne P fr w r2 v2) (hp : Post (.tuple #[v0, v1, v2]) w) :
    qw n (bodyPost P fn fun e w' => ∃ v, e = .returned v ∧ Post v w') .ret fr w := fun a ha => by
  refine ⟨ha.defs, _, ?_, _, rfl, hp⟩
  cases r0 with
  | tmp t0 =>
    cases r1 with
    | tmp t1 =>
      cases r2 with
      | tmp t2 =>
        simp [results, hr, asAddr, ha.look t0 v0 h0, ha.look t1 v1 h1, ha.look t2 v2 h2]
      | cell t2 ty2 =>
        obtain ⟨ad2, k2, l2⟩ := h2
        simp [results, hr, asAddr, ha.look t0 v0 h0, ha.look t1 v1 h1, ha.look t2 _ k2, l2]
    | cell t1 ty1 =>
      obtain ⟨ad1, k1, l1⟩ := h1
      cases r2 with
      | tmp t2 =>
        simp [results, hr, asAddr, ha.look t0 v0 h0, ha.look t1 _ k1, l1, ha.look t2 v2 h2]
      | cell t2 ty2 =>
        obtain ⟨ad2, k2, l2⟩ := h2
        simp [results, hr, asAddr, ha.look t0 v0 h0, ha.look t1 _ k1, l1, ha.look t2 _ k2, l2]
  | cell t0 ty0 =>
    obtain ⟨ad0, k0, l0⟩ := h0
    cases r1 with
    | tmp t1 =>
      cases r2 with
      | tmp t2 =>
        simp [results, hr, asAddr, ha.look t0 _ k0, l0, ha.look t1 v1 h1, ha.look t2 v2 h2]
      | cell t2 ty2 =>
        obtain ⟨ad2, k2, l2⟩ := h2
        simp [results, hr, asAddr, ha.look t0 _ k0, l0, ha.look t1 v1 h1, ha.look t2 _ k2, l2]
    | cell t1 ty1 =>
      obtain ⟨ad1, k1, l1⟩ := h1
      cases r2 with
      | tmp t2 =>
        simp [results, hr, asAddr, ha.look t0 _ k0, l0, ha.look t1 _ k1, l1, ha.look t2 v2 h2]
      | cell t2 ty2 =>
        obtain ⟨ad2, k2, l2⟩ := h2
        simp [results, hr, asAddr, ha.look t0 _ k0, l0, ha.look t1 _ k1, l1, ha.look t2 _ k2, l2]
section
variable {P : Program} {n : Nat} {Q : Exit → Act → World → Prop} {fr fr' : Fr} {w : World} {ops : Array Oper} {rest : List Oper} {d : Nat} {ty : TypeId} {pos : String} {aft : Array Edge} {dst : Option Tmp} {g : Option (Nat × Bool)}
theorem u64_wrap {m : Int} (h : 0 ≤ m ∧ m ≤ 18446744073709551615) : IntKind.u64.wrap m = m := by
  have e : IntKind.u64.wrap m = m % 18446744073709551616 := by simp [IntKind.wrap, IntKind.bits, IntKind.signed]
  rw [e]; omega
theorem px_remU {x y : Operand} {T U : TypeId} {a b : Int} (hx : ev fr x = some (.int .u64 a)) (hy : ev fr y = some (.int .u64 b)) (ha0 : 0 ≤ a) (hb : 0 < b) : Px P n fr ⟨dst, .binOp .rem T x y U, ty, pos, aft, g⟩ (.int .u64 (a % b)) w :=
  fun c ha => by
    have e : a.tmod b = a % b := Int.tmod_eq_emod_of_nonneg ha0
    have hb0 : ¬ b = 0 := by omega
    simp [execOp, ha.ev hx, ha.ev hy, eqGuard, binOp, Op.intDiv, hb0, e]
theorem px_quoU {x y : Operand} {T U : TypeId} {a b : Int} (hx : ev fr x = some (.int .u64 a)) (hy : ev fr y = some (.int .u64 b)) (ha0 : 0 ≤ a) (ha1 : a ≤ 18446744073709551615) (hb : 0 < b) : Px P n fr ⟨dst, .binOp .quo T x y U, ty, pos, aft, g⟩ (.int .u64 (a / b)) w :=
  fun c ha => by
    have e : a.tdiv b = a / b := Int.tdiv_eq_ediv_of_nonneg ha0
    have h1 : 0 ≤ a / b := Int.ediv_nonneg ha0 (by omega)
    have h2 : a / b ≤ a := Int.ediv_le_self b ha0
    have hb0 : ¬ b = 0 := by omega
    simp [execOp, ha.ev hx, ha.ev hy, eqGuard, binOp, Op.intDiv, hb0, e, u64_wrap (m := a / b) ⟨by omega, by omega⟩]
theorem px_negU {x : Operand} {T : TypeId} {a : Int} (hx : ev fr x = some (.int .u64 a)) (hr : 0 < a ∧ a ≤ 18446744073709551615) : Px P n fr ⟨dst, .unOp .neg T x, ty, pos, aft, g⟩ (.int .u64 (18446744073709551616 - a)) w :=
  fun c ha => by
    have e : (0 : Int) - a = -a := by omega
    have e3 : IntKind.u64.wrap (-a) = 18446744073709551616 - a := by
      have e : IntKind.u64.wrap (-a) = (-a) % 18446744073709551616 := by simp [IntKind.wrap, IntKind.bits, IntKind.signed]
      rw [e]; omega
    simp [execOp, ha.ev hx, Op.unary, Op.intArith, e, e3]
theorem px_convU {x : Operand} {S T : TypeId} {u : TypeDesc} {a : Int} (hS : P.underlying S = some u) (hT : P.underlying T = some (.int .u64)) (hx : ev fr x = some (.int .i64 a)) (hr : 0 ≤ a ∧ a ≤ 9223372036854775807) : Px P n fr ⟨dst, .convert S T x, ty, pos, aft, g⟩ (.int .u64 a) w :=
  fun c ha => by
    simp [execOp, ha.ev hx, convert, run_underlying hS, run_underlying hT, Conv.intToInt, u64_wrap (m := a) ⟨hr.1, by omega⟩]
theorem px_convUn {x : Operand} {S T : TypeId} {u : TypeDesc} {a : Int} (hS : P.underlying S = some u) (hT : P.underlying T = some (.int .u64)) (hx : ev fr x = some (.int .i64 a)) (hr : -9223372036854775808 ≤ a ∧ a < 0) : Px P n fr ⟨dst, .convert S T x, ty, pos, aft, g⟩ (.int .u64 (a + 18446744073709551616)) w :=
  fun c ha => by
    have e : IntKind.u64.wrap a = a + 18446744073709551616 := by
      have e : IntKind.u64.wrap a = a % 18446744073709551616 := by simp [IntKind.wrap, IntKind.bits, IntKind.signed]
      rw [e]; omega
    simp [execOp, ha.ev hx, convert, run_underlying hS, run_underlying hT, Conv.intToInt, e]
theorem px_convI {x : Operand} {S T : TypeId} {u : TypeDesc} {a : Int} (hS : P.underlying S = some u) (hT : P.underlying T = some (.int .i64)) (hx : ev fr x = some (.int .u64 a)) (hr : 0 ≤ a ∧ a ≤ 9223372036854775807) : Px P n fr ⟨dst, .convert S T x, ty, pos, aft, g⟩ (.int .i64 a) w :=
  fun c ha => by
    simp [execOp, ha.ev hx, convert, run_underlying hS, run_underlying hT, Conv.intToInt, i64_wrap (m := a) ⟨by omega, hr.2⟩]
end
section
variable {P : Program} {n : Nat} {Q : Exit → Act → World → Prop} {fr fr' : Fr} {w : World} {ops : Array Oper} {rest : List Oper} {d : Nat} {ty : TypeId} {pos : String} {aft : Array Edge} {dst : Option Tmp} {g : Option (Nat × Bool)}
theorem sm {x : Operand} {v : Value} {o : Oper} (ho : o = ⟨some d, .move x, ty, pos, aft, none⟩) (hn : Nat.blt d n = true) (hx : ev fr x = some v) (_ : 0 = 0) (h : wl P n ops Q rest ((d, v) :: fr) w) : wl P n ops Q (o :: rest) fr w := by
  subst ho; exact sx_pure rfl rfl hn (px_move hx) h
theorem sa {x : Operand} {v : Value} {o : Oper} (ho : o = ⟨some d, .assign x, ty, pos, aft, none⟩) (hn : Nat.blt d n = true) (hx : ev fr x = some v) (_ : 0 = 0) (h : wl P n ops Q rest ((d, v) :: fr) w) : wl P n ops Q (o :: rest) fr w := by
  subst ho; exact sx_pure rfl rfl hn (px_assign hx) h
end
theorem Chg.t {a b c : World} (h : Chg 0 0 a b) (k : Chg 0 0 b c) : Chg 0 0 a c := h.step k (by omega)
end Go.Proofs.Ytjkeefmpjocilaa
