/- Plain lemmas on numbers and lists; no program in sight. Conditions: none. -/
import Derived.Test.YtoeclobdbblohaaDoorNatCt
import Derived.Test.YtoeclobdbblohaaDoorSxW
import Derived.Lib.ConvBytes
import Derived.Lib.Join
import Derived.Lib.Bytealg
set_option linter.unusedVariables false
set_option linter.unusedSimpArgs false
namespace Go.Proofs.YtoeclobdbblohaaDoor
open Go Go.RowKit
/-! ### what the program reads out of a decimal's text -/
/-- texts put together -/
def jnT : List ByteArray → List UInt8
  | [] => []
  | a :: l => a.data.toList ++ jnT l
theorem jn_flat : ∀ l : List ByteArray, ((l.map fun s => s.data.toList).map (([] : List UInt8) ++ ·)).flatten = jnT l
  | [] => rfl
  | a :: l => by
    simp only [List.map_cons, List.flatten_cons, List.nil_append, jnT]
    rw [← jn_flat l]
    simp
theorem jn_join : ∀ l : List ByteArray, Lib.join (l.map fun s => s.data.toList) [] = jnT l
  | [] => rfl
  | a :: l => by
    rw [List.map_cons, Lib.join_cons]
    unfold Lib.joinTail
    rw [jn_flat]; rfl
/-- the digits without leading noughts -/
def whT (u : ByteArray) : ByteArray := bl (strip (jnT (cutT 46 u)))
/-- the length of the part behind the point -/
def scT (l : List ByteArray) : Int := if l.length = 2 then ((l.getD 1 ByteArray.empty).size : Int) else 0
theorem jn_len : ∀ l : List ByteArray, (jnT l).length = (l.map ByteArray.size).sum
  | [] => rfl
  | a :: l => by simp only [jnT, List.length_append, sz_list, List.map_cons, List.sum_cons, jn_len l]
theorem impl_read {s : ByteArray} {n : Bool} {z : List Int} {p : Int} (h : DOk n z p) (e : decT n z p = s) : (cutT 46 (unS s)).length ≤ 2 ∧ (unS s).size ≤ 100 ∧ tnK (whT (unS s)) = true ∧ dg (tnV (whT (unS s))) = z ∧ scT (cutT 46 (unS s)) = p ∧ sgK s = n := by
  subst e
  have d := decT_digits h
  have t := dec_tn h
  have l := unS_list h
  have pr := dec_parts h
  have tn := tn_of d.1 t.1 (by omega)
  have p0 := h.2.2.1
  have p1 := h.2.2.2
  have d4 := d.2.2.2
  have hT := sz_list (padT (natT z) (p + 1))
  have hsz := sz_list (unS (decT n z p))
  have hj : jnT (cutT 46 (unS (decT n z p))) = (padT (natT z) (p + 1)).data.toList := by
    rw [pr]
    split
    · simp only [jnT, bl_list, List.append_nil, List.take_append_drop]
    · simp only [jnT, List.append_nil]
  have hw : whT (unS (decT n z p)) = bl (strip (padT (natT z) (p + 1)).data.toList) := by unfold whT; rw [hj]
  refine ⟨?_, ?_, by rw [hw]; exact tn.1, by rw [hw, tn.2, d.2.2.1]; exact dg_vl h.1.1.1 h.1.1.2.2, ?_, dec_sgK h⟩
  · rw [pr]; split <;> simp
  · rw [← hsz, l]
    split
    · simp only [List.length_append, List.length_take, List.length_cons, List.length_drop]; omega
    · omega
  · rw [pr]
    unfold scT
    split
    · rename_i hp
      show ((bl (List.drop _ _)).size : Int) = p
      rw [bl_size, List.length_drop]; omega
    · rename_i hp
      rw [if_neg (by simp)]; omega
theorem whT_empty {s : ByteArray} (h : s.size = 0) : tnK (whT (unS s)) = false := by
  have e : s.data.toList = [] := List.eq_nil_of_length_eq_zero (by rw [sz_list]; exact h)
  have es : s = bl [] := by rw [← bl_of s, e]
  rw [es]
  decide
theorem decT_empty {n : Bool} {z : List Int} {p : Int} (h : ¬ DOk n z p) : (decT n z p).size = 0 := by unfold decT; rw [if_neg h]; rfl
/-- what the program says is right -/
theorem rdD_igood {s u : ByteArray} {n : Bool} {c : Int} (hu : unS s = u) (hc : scT (cutT 46 u) = c) (h1 : tnK (whT u) = true) (h2 : decT (nz n (dg (tnV (whT u)))) (dg (tnV (whT u))) c = s) : rdD s = (nz n (dg (tnV (whT u))), dg (tnV (whT u)), c, true) := by
  subst hu; subst hc
  by_cases h : DOk (nz n (dg (tnV (whT (unS s))))) (dg (tnV (whT (unS s)))) (scT (cutT 46 (unS s)))
  · exact rdD_yes h h2
  · have h3 := decT_empty h
    rw [h2] at h3
    rw [whT_empty h3] at h1; cases h1
theorem nz_ok {n : Bool} {z : List Int} {p : Int} (h : DOk n z p) : nz n z = n := by
  have h1 := h.1.2
  unfold nz
  cases n
  · simp
  · cases z with
    | nil => simp_all
    | cons a l => simp
theorem rdD_ibad {s u : ByteArray} {n : Bool} {c : Int} (hu : unS s = u) (hn : sgK s = n) (hc : scT (cutT 46 u) = c) (h : ¬ ((cutT 46 u).length ≤ 2 ∧ u.size ≤ 100 ∧ tnK (whT u) = true ∧ decT (nz n (dg (tnV (whT u)))) (dg (tnV (whT u))) c = s)) : rdD s = (false, [], 0, false) := by
  subst hn; subst hu; subst hc
  refine rdD_no fun n z p h1 h2 => ?_
  obtain ⟨a, b, c, d, e, f⟩ := impl_read h1 h2
  exact h ⟨a, b, c, by rw [d, e, f, nz_ok h1]; exact h2⟩
theorem strip_doneL {t : ByteArray} {l : List UInt8} (hst : strip t.data.toList = strip l) (h : ¬ (1 < t.size) ∨ strB t 0 ≠ 48) : t = bl (strip l) := by
  have hs : strip t.data.toList = t.data.toList := by
    by_cases h1 : 1 < t.size
    · obtain ⟨a, b, l, e, ha⟩ := strip_cons h1
      rcases h with h | h
      · exact absurd h1 h
      · rw [e, strip, if_neg (fun ea => h (by rw [ha, ea]; rfl))]
    · have hl := sz_list t
      match e : t.data.toList, hl with
      | [], _ => rfl
      | [a], _ => rfl
      | a :: b :: l, hl => simp at hl; omega
  rw [← hst, hs, bl_of]
/-! ### the bytes of a part -/
def strBs (s : ByteArray) : List Int := s.data.toList.map fun c => (c.toNat : Int)
theorem strBs_length (s : ByteArray) : (strBs s).length = s.size := by unfold strBs; rw [List.length_map, sz_list]
theorem strBs_get {s : ByteArray} {j : Nat} (h : j < s.size) : (strBs s).getD j 0 = strB s j := by
  have h2 : j < s.data.toList.length := by rw [sz_list]; exact h
  rw [strB_list h]
  unfold strBs
  rw [List.getD_eq_getElem?_getD, List.getD_eq_getElem?_getD, List.getElem?_map, List.getElem?_eq_getElem h2]
  rfl
theorem strB_part {s : ByteArray} {f e j : Nat} (h : f + j < e) (he : e ≤ s.size) : strB (s.extract f e) j = strB s (f + j) := by
  have h1 : j < (s.extract f e).size := by rw [ByteArray.size_extract]; omega
  rw [strB_list h1, strB_list (by omega)]
  congr 2
  simp only [ByteArray.data_extract, Array.toList_extract]
  rw [List.extract_eq_take_drop, List.getD_eq_getElem?_getD, List.getD_eq_getElem?_getD, List.getElem?_take_of_lt (by omega), List.getElem?_drop]
theorem strBs_part {s : ByteArray} {f e j : Nat} (h : f + j < e) (he : e ≤ s.size) : (strBs (s.extract f e)).getD j 0 = strB s (f + j) := by
  rw [strBs_get (by rw [ByteArray.size_extract]; omega), strB_part h he]
theorem strBs_plen {s : ByteArray} {f e : Nat} (h : f ≤ e) (he : e ≤ s.size) : (strBs (s.extract f e)).length = e - f := by
  rw [strBs_length, ByteArray.size_extract]; omega
theorem idx_one (b c : UInt8) : (0 ≤ Lib.indexByte [b] c) ↔ c = b := by
  unfold Lib.indexByte
  by_cases h : b = c
  · simp [h]
  · have : (b == c) = false := by simpa using h
    simp [this, Lib.indexByte, Ne.symm h]
theorem idx_str {t : ByteArray} {b : UInt8} (hb : t = ⟨#[b]⟩) (s : ByteArray) (j : Nat) : (0 ≤ Lib.indexByte t.data.toList (strB s j).toNat.toUInt8) ↔ strB s j = (b.toNat : Int) := by
  subst hb
  have e : (strB s j).toNat.toUInt8 = s[j]?.getD 0 := by
    unfold strB
    rw [Int.toNat_natCast]; exact UInt8.ofNat_toNat
  rw [e]
  show (0 ≤ Lib.indexByte [b] _) ↔ _
  rw [idx_one]
  unfold strB
  constructor
  · intro h; rw [h]
  · intro h; exact UInt8.toNat_inj.1 (by omega)
theorem sgK_yes {s : ByteArray} (h0 : 0 < s.size) (h : strB s 0 = 45) : sgK s = true := decide_eq_true ⟨h0, h⟩
theorem sgK_no {s : ByteArray} (h : s = ⟨#[]⟩ ∨ ¬ strB s 0 = 45) : sgK s = false := by
  unfold sgK
  rw [decide_eq_false_iff_not]
  rintro ⟨h1, h2⟩
  rcases h with h | h
  · rw [h] at h1; exact absurd h1 (by decide)
  · exact h h2
theorem unS_yes {s : ByteArray} (h : sgK s = true) : unS s = s.extract 1 s.size := by unfold unS; rw [if_pos h]
theorem unS_no {s : ByteArray} (h : sgK s = false) : unS s = s := by unfold unS; rw [if_neg (by rw [h]; decide)]
theorem scT_2 {l : List ByteArray} (h : ((l.length : Nat) : Int) = 2) : scT l = ((l.getD 1 ByteArray.empty).size : Int) := by unfold scT; rw [if_pos (by omega)]
theorem scT_n {l : List ByteArray} (h : ¬ ((l.length : Nat) : Int) = 2) : scT l = 0 := by unfold scT; rw [if_neg (by omega)]
theorem cutT_len {b : Int} {s : ByteArray} : (cutT b s).length ≤ s.size + 1 := by
  unfold cutT
  have := (cutGo_le (b := b) (s := s) s.size).2
  simp only [List.length_append, List.length_singleton]; omega
theorem jn_go {b : Int} {s : ByteArray} : ∀ i : Nat, i ≤ s.size → (jnT (cutGo b s i).1).length ≤ (cutGo b s i).2
  | 0, _ => Nat.zero_le _
  | i + 1, hi => by
    have ih := jn_go (b := b) (s := s) i (by omega)
    have h2 := cutGo_le (b := b) (s := s) i
    rw [cutGo]; split
    · show (jnT ((cutGo b s i).1 ++ [s.extract (cutGo b s i).2 i])).length ≤ i + 1
      rw [jn_len] at ih ⊢
      rw [List.map_append, List.sum_append]
      simp only [List.map_cons, List.map_nil, List.sum_cons, List.sum_nil, ByteArray.size_extract]
      omega
    · exact ih
theorem jn_cut {b : Int} {s : ByteArray} : (jnT (cutT b s)).length ≤ s.size := by
  have ih := jn_go (b := b) (s := s) s.size (Nat.le_refl _)
  have h2 := cutGo_le (b := b) (s := s) s.size
  unfold cutT
  rw [jn_len] at ih ⊢
  rw [List.map_append, List.sum_append]
  simp only [List.map_cons, List.map_nil, List.sum_cons, List.sum_nil, ByteArray.size_extract]
  omega
theorem cutGo_yes {b : Int} {s : ByteArray} {i : Nat} (h : strB s i = b) : cutGo b s (i + 1) = ((cutGo b s i).1 ++ [s.extract (cutGo b s i).2 i], i + 1) := by rw [cutGo, if_pos h]
theorem cutGo_no {b : Int} {s : ByteArray} {i : Nat} (h : ¬ strB s i = b) : cutGo b s (i + 1) = cutGo b s i := by rw [cutGo, if_neg h]
section
variable {P : Program} {n : Nat} {Q : Exit → Act → World → Prop} {fr fr' : Fr} {w : World} {ops : Array Oper} {rest : List Oper} {d : Nat} {ty : TypeId} {pos : String} {aft : Array Edge} {dst : Option Tmp} {g : Option (Nat × Bool)}
theorem px_subU8 {x y : Operand} {T U : TypeId} {a b : Int} (hx : ev fr x = some (.int .u8 a)) (hy : ev fr y = some (.int .u8 b)) (hr : 0 ≤ a - b ∧ a - b ≤ 255) : Px P n fr ⟨dst, .binOp .sub T x y U, ty, pos, aft, g⟩ (.int .u8 (a - b)) w :=
  fun c ha => by
    have e : IntKind.u8.wrap (a - b) = a - b := by
      have e : IntKind.u8.wrap (a - b) = (a - b) % 256 := by simp [IntKind.wrap, IntKind.bits, IntKind.signed]
      rw [e]; omega
    simp [execOp, ha.ev hx, ha.ev hy, eqGuard, binOp, Op.intArith, e]
theorem sx_convSB {x : Operand} {S T e : TypeId} {u : TypeDesc} {s : ByteArray} (hn : Nat.blt d n = true) (hS : P.underlying S = some u) (hT : P.underlying T = some (.slice e)) (he : P.underlying e = some (.int .u8)) (hx : ev fr x = some (.string s))
    (h : ∀ v' w', w'.heap.size = w.heap.size + 1 → SlB w' w.heap.size w'.heap.size v' (strBs s) → Chg 0 0 w w' → wl P n ops Q rest ((d, v') :: fr) w') :
    wl P n ops Q (⟨some d, .convert S T x, ty, pos, aft, none⟩ :: rest) fr w := by
  have hr := Lib.run_convert_string_bytes (P := P) w S T e s hS hT he
  have hz := Lib.bytesWorld_size w e s
  refine sx_val rfl rfl hn (fun a ha => by
    simp only [execOp, ha.ev hx]
    rw [run_bind_ok _ _ hr]; rfl) (h _ _ hz ⟨by simp, .inr ⟨w.heap.size, 0, _, _, e, _, by rw [strBs_length], ⟨by rw [strBs_length]; exact grownCap_ge w s.size 0 e, Nat.le_refl _⟩, by omega, Lib.bytesWorld_at_new w e s, fun j u hj => ?_⟩⟩ ⟨rfl, rfl, rfl, by omega, fun k hk _ => Lib.bytesWorld_at_old w e s k hk⟩)
  have hl : j < s.data.toList.length := by
    rcases Nat.lt_or_ge j s.data.toList.length with h' | h'
    · exact h'
    · rw [List.getElem?_eq_none (by simpa [strBs_length, sz_list] using h')] at hj; cases hj
  have hl2 : j < s.data.size := by simpa using hl
  unfold strBs at hj
  rw [List.getElem?_map, List.getElem?_map, List.getElem?_eq_getElem hl] at hj
  simp only [Option.map_some, Option.some.injEq] at hj
  unfold Lib.bytesCells
  rw [Nat.zero_add, Array.getElem?_append_left (by simpa using hl2), Array.getElem?_map, Array.getElem?_eq_getElem hl2]
  simp only [Option.map_some, ← hj]
  rfl
end
end Go.Proofs.YtoeclobdbblohaaDoor
