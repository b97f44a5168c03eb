/- Plain lemmas on numbers and lists; no program in sight. Conditions: none. -/
import Derived.Test.YtoeclobdbblohaaDoorNatIr
set_option linter.unusedVariables false
set_option linter.unusedSimpArgs false
namespace Go.Proofs.YtoeclobdbblohaaDoor
open Go Go.RowKit
/-! ### texts of money and of rates -/
theorem rdD_ok {s : ByteArray} (h : (rdD s).2.2.2 = true) : DOk (rdD s).1 (rdD s).2.1 (rdD s).2.2.1 ∧ decT (rdD s).1 (rdD s).2.1 (rdD s).2.2.1 = s := by
  by_cases hh : ∃ q, IsD s q
  · obtain ⟨⟨n, z, p⟩, h1, h2⟩ := hh
    rw [rdD_yes h1 h2]; exact ⟨h1, h2⟩
  · rw [rdD_no (fun n z p h1 h2 => hh ⟨(n, z, p), h1, h2⟩)] at h; cases h
noncomputable def rdX (s : ByteArray) : Int := vI (rdD s).1 (rdD s).2.1
noncomputable def rdP (s : ByteArray) : Int := (rdD s).2.2.1
noncomputable def rdK (s : ByteArray) : Bool := (rdD s).2.2.2
theorem rdX_of {x p : Int} {s : ByteArray} (h : DOk (ng x) (dg x.natAbs) p) (e : decT (ng x) (dg x.natAbs) p = s) : rdX s = x ∧ rdP s = p ∧ rdK s = true := by
  have e2 := rdD_yes h e
  unfold rdX rdP rdK
  rw [e2]
  exact ⟨vI_ng x, rfl, rfl⟩
theorem rdD_int (s : ByteArray) : (rdD s).1 = ng (rdX s) ∧ (rdD s).2.1 = dg (rdX s).natAbs := by
  by_cases hh : ∃ q, IsD s q
  · obtain ⟨⟨n, z, p⟩, h1, h2⟩ := hh
    have e := rdD_yes h1 h2
    obtain ⟨x, ex, ez, _⟩ := h1.int
    simp only at ex ez
    subst ex; subst ez
    rw [(rdX_of h1 h2).1, e]; exact ⟨rfl, rfl⟩
  · have e := rdD_no (s := s) (fun n z p h1 h2 => hh ⟨(n, z, p), h1, h2⟩)
    unfold rdX; rw [e]
    show false = ng (vI false []) ∧ [] = dg (vI false []).natAbs
    have : vI false [] = 0 := rfl
    rw [this]; exact ⟨rfl, dg_zero.symm⟩
theorem rdX_len (s : ByteArray) : (dg (rdX s).natAbs).length ≤ 6 := by rw [← (rdD_int s).2]; exact rdD_len s
theorem rdK_ok {s : ByteArray} (h : rdK s = true) : DOk (ng (rdX s)) (dg (rdX s).natAbs) (rdP s) ∧ decT (ng (rdX s)) (dg (rdX s).natAbs) (rdP s) = s := by
  have h1 := rdD_ok h
  rw [(rdD_int s).1, (rdD_int s).2] at h1
  exact h1
def cP (s : ByteArray) (i : Nat) : ByteArray := (cutT 32 s).getD i ByteArray.empty
noncomputable def rdM (s : ByteArray) : ByteArray × Int × Bool :=
  if (cutT 32 s).length = 2 ∧ rdK (cP s 1) = true ∧ MOk (cP s 0) (ng (rdX (cP s 1))) (dg (rdX (cP s 1)).natAbs) ∧ monT (cP s 0) (ng (rdX (cP s 1))) (dg (rdX (cP s 1)).natAbs) = s then (cP s 0, rdX (cP s 1), true) else (⟨#[]⟩, 0, false)
theorem rdM_yes {s : ByteArray} (h1 : (((cutT 32 s).length : Nat) : Int) = 2) (h2 : rdK (cP s 1) = true) (h3 : monT (cP s 0) (ng (rdX (cP s 1))) (dg (rdX (cP s 1)).natAbs) = s) (h4 : s ≠ ⟨#[]⟩) : rdM s = (cP s 0, rdX (cP s 1), true) := by
  have h5 := Decidable.byContradiction fun h5 => h4 (h3.symm.trans (monT_no h5))
  unfold rdM
  rw [if_pos ⟨by omega, h2, h5, h3⟩]
theorem monT_ne {c : ByteArray} {n : Bool} {z : List Int} (h : MOk c n z) : monT c n z ≠ ⟨#[]⟩ := fun e => by
  rw [monT_ok h] at e
  have := congrArg ByteArray.size e
  simp only [ByteArray.size_append] at this
  have h1 : (⟨#[32]⟩ : ByteArray).size = 1 := rfl
  have h2 : (⟨#[]⟩ : ByteArray).size = 0 := rfl
  omega
theorem rdM_no {s : ByteArray} (h : ¬ ((cutT 32 s).length = 2 ∧ rdK (cP s 1) = true ∧ MOk (cP s 0) (ng (rdX (cP s 1))) (dg (rdX (cP s 1)).natAbs) ∧ monT (cP s 0) (ng (rdX (cP s 1))) (dg (rdX (cP s 1)).natAbs) = s)) : rdM s = (⟨#[]⟩, 0, false) := by
  unfold rdM; rw [if_neg h]
theorem rdM_bad {s : ByteArray} (h : ¬ ((cutT 32 s).length = 2 ∧ rdK (cP s 1) = true ∧ monT (cP s 0) (ng (rdX (cP s 1))) (dg (rdX (cP s 1)).natAbs) = s ∧ s ≠ ⟨#[]⟩)) : rdM s = (⟨#[]⟩, 0, false) :=
  rdM_no fun ⟨a, b, c, d⟩ => h ⟨a, b, d, fun e => monT_ne c (d.trans e)⟩
theorem rdM_len (s : ByteArray) : (dg (rdM s).2.1.natAbs).length ≤ 4 := by
  unfold rdM; split
  · rename_i h; exact h.2.2.1.2.2
  · show (dg (0 : Int).natAbs).length ≤ 4
    rw [show dg (0 : Int).natAbs = [] from dg_zero]; simp
theorem mR_fine {c : ByteArray} {x : Int} (h : (mR c x).2.2.2 = true) : mR c x = (c, ng x, dg x.natAbs, true) ∧ MOk c (ng x) (dg x.natAbs) := by
  by_cases hm : MOk c (ng x) (dg x.natAbs)
  · exact ⟨mR_ok hm, hm⟩
  · rw [mR_no hm] at h; cases h
theorem mR_bad {c : ByteArray} {x : Int} (h : (mR c x).2.2.2 = false) : ¬ MOk c (ng x) (dg x.natAbs) := fun hm => by
  rw [mR_ok hm] at h; cases h
theorem own_nil0 {w : World} {lo hi : Nat} {e : TypeId} : OwnI w lo hi (.slice none 0 0) e (dg (0 : Int).natAbs) := by
  rw [show dg (0 : Int).natAbs = [] from dg_zero]; exact Own.nil _ _ _ _ _
theorem len_nil0 {k : Nat} : (dg (0 : Int).natAbs).length ≤ k := by
  rw [show dg (0 : Int).natAbs = [] from dg_zero]; exact Nat.zero_le _
noncomputable def rdR (s : ByteArray) : ByteArray × ByteArray × Int × Int × Bool :=
  if (cutT 32 s).length = 3 ∧ rdK (cP s 2) = true ∧ RateP (cP s 0) (cP s 1) (ng (rdX (cP s 2))) (dg (rdX (cP s 2)).natAbs) (rdP (cP s 2)) then (cP s 0, cP s 1, rdX (cP s 2), rdP (cP s 2), true) else (⟨#[]⟩, ⟨#[]⟩, 0, 0, false)
theorem rdR_yes {s : ByteArray} (h1 : (((cutT 32 s).length : Nat) : Int) = 3) (h2 : rdK (cP s 2) = true) (h3 : RateP (cP s 0) (cP s 1) (ng (rdX (cP s 2))) (dg (rdX (cP s 2)).natAbs) (rdP (cP s 2))) : rdR s = (cP s 0, cP s 1, rdX (cP s 2), rdP (cP s 2), true) := by
  unfold rdR; rw [if_pos ⟨by omega, h2, h3⟩]
theorem rdR_no {s : ByteArray} (h : ¬ ((cutT 32 s).length = 3 ∧ rdK (cP s 2) = true ∧ RateP (cP s 0) (cP s 1) (ng (rdX (cP s 2))) (dg (rdX (cP s 2)).natAbs) (rdP (cP s 2)))) : rdR s = (⟨#[]⟩, ⟨#[]⟩, 0, 0, false) := by
  unfold rdR; rw [if_neg h]
theorem rdR_len (s : ByteArray) : (dg (rdR s).2.2.1.natAbs).length ≤ 2 := by
  unfold rdR; split
  · rename_i h; exact h.2.2.2.2.2.2.2
  · exact len_nil0
/-! ### what was cut is put together -/
theorem cut_glue {b : UInt8} {s : ByteArray} : ∀ i : Nat, i ≤ s.size → s.data.toList.take (cutGo (b.toNat : Int) s i).2 = (cutGo (b.toNat : Int) s i).1.flatMap fun p => p.data.toList ++ [b]
  | 0, _ => by simp [cutGo]
  | i + 1, hi => by
    have ih := cut_glue (b := b) (s := s) i (by omega)
    have hle := (cutGo_le (b := (b.toNat : Int)) (s := s) i).1
    rw [cutGo]; split
    · rename_i hb
      have hl : i < s.data.toList.length := by rw [sz_list]; omega
      have hc := strB_mem (by omega) hb
      show s.data.toList.take (i + 1) = ((cutGo (b.toNat : Int) s i).1 ++ [s.extract (cutGo (b.toNat : Int) s i).2 i]).flatMap fun p => p.data.toList ++ [b]
      rw [List.flatMap_append, ← ih, List.take_succ_eq_append_getElem hl]
      have e1 : s.data.toList[i] = b := by
        rw [List.getD_eq_getElem?_getD, List.getElem?_eq_getElem hl, Option.getD_some] at hc; exact hc
      have e2 : (s.extract (cutGo (b.toNat : Int) s i).2 i).data.toList = (s.data.toList.drop (cutGo (b.toNat : Int) s i).2).take (i - (cutGo (b.toNat : Int) s i).2) := by
        simp only [ByteArray.data_extract, Array.toList_extract]
      simp only [List.flatMap_cons, List.flatMap_nil, List.append_nil, e1, e2]
      rw [← List.append_assoc]
      congr 1
      have := List.take_append_drop (cutGo (b.toNat : Int) s i).2 (s.data.toList.take i)
      rw [List.take_take, Nat.min_eq_left hle, List.drop_take] at this
      exact this.symm
    · exact ih
theorem cut_back3 {s x y z : ByteArray} (h : cutT 32 s = [x, y, z]) : x ++ ⟨#[32]⟩ ++ y ++ ⟨#[32]⟩ ++ z = s := by
  have g := cut_glue (b := 32) (s := s) s.size (Nat.le_refl _)
  have hle := (cutGo_le (b := 32) (s := s) s.size).1
  unfold cutT at h
  have h1 : (cutGo 32 s s.size).1 = [x, y] ∧ s.extract (cutGo 32 s s.size).2 s.size = z := by
    have h2 : (cutGo 32 s s.size).1 ++ [s.extract (cutGo 32 s s.size).2 s.size] = [x, y] ++ [z] := h
    have h3 := List.append_inj' h2 rfl
    exact ⟨h3.1, by simpa using h3.2⟩
  have g' : s.data.toList.take (cutGo 32 s s.size).2 = (cutGo 32 s s.size).1.flatMap fun p => p.data.toList ++ [32] := g
  rw [h1.1] at g'
  have e2 : z.data.toList = s.data.toList.drop (cutGo 32 s s.size).2 := by
    rw [← h1.2]
    simp only [ByteArray.data_extract, Array.toList_extract]
    rw [List.extract_eq_take_drop, List.take_of_length_le (by rw [List.length_drop, sz_list]; exact Nat.le_refl _)]
  apply ba_ext
  have := List.take_append_drop (cutGo 32 s s.size).2 s.data.toList
  rw [g', ← e2] at this
  rw [← this]
  simp only [ByteArray.data_append, Array.toList_append, List.flatMap_cons, List.flatMap_nil, List.append_nil, List.append_assoc, List.cons_append, List.nil_append]
theorem cut_rate {s : ByteArray} (h1 : (((cutT 32 s).length : Nat) : Int) = 3) (h2 : rdK (cP s 2) = true) (h3 : RateP (cP s 0) (cP s 1) (ng (rdX (cP s 2))) (dg (rdX (cP s 2)).natAbs) (rdP (cP s 2))) : ratT (cP s 0) (cP s 1) (ng (rdX (cP s 2))) (dg (rdX (cP s 2)).natAbs) (rdP (cP s 2)) = s := by
  rw [ratT_ok h3, (rdK_ok h2).2]
  have : cutT 32 s = [cP s 0, cP s 1, cP s 2] := by
    unfold cP
    generalize cutT 32 s = l at h1
    match l, h1 with
    | [a, b, c], _ => rfl
    | [], h => simp at h
    | [a], h => simp at h
    | [a, b], h => simp at h
    | a :: b :: c :: d :: l, h => simp at h; omega
  exact cut_back3 this
/-! ### a text that was made is read -/
theorem known_32 {c : ByteArray} (h : Known c) : (32 : UInt8) ∉ c.data.toList := by
  unfold Known at h
  obtain ⟨x, hx⟩ := Option.isSome_iff_exists.1 h
  have hm := List.mem_of_find?_eq_some hx
  have hp := List.find?_some hx
  have hp' : x.code = c := by simpa using hp
  subst hp'
  exact (show ∀ x ∈ tabI, (32 : UInt8) ∉ x.code.data.toList by decide) x hm
theorem decT_32 {n : Bool} {z : List Int} {p : Int} (h : DOk n z p) : (32 : UInt8) ∉ (decT n z p).data.toList := by
  have d := (decT_digits h).1
  have hno : (32 : UInt8) ∉ (padT (natT z) (p + 1)).data.toList := fun hc => by have := d 32 hc; simp at this
  rw [decT_list h]
  intro hc
  rcases List.mem_append.1 hc with hc | hc
  · split at hc <;> simp at hc
  · split at hc
    · rcases List.mem_append.1 hc with hc | hc
      · exact hno (List.mem_of_mem_take hc)
      · rcases List.mem_cons.1 hc with hc | hc
        · exact absurd hc (by decide)
        · exact hno (List.mem_of_mem_drop hc)
    · exact hno hc
theorem cut_two {b : UInt8} {s : ByteArray} {x y : List UInt8} (h : s.data.toList = x ++ b :: y) (hx : b ∉ x) : cutT (b.toNat : Int) s = bl x :: cutT (b.toNat : Int) (bl y) := by
  have hs : s.size = x.length + 1 + y.length := by rw [← sz_list, h]; simp; omega
  have h1 := cutGo_from (b := (b.toNat : Int)) (s := s) (q := 0) x.length (fun j _ hj => strB_ne (by omega) (fun e => by
    rw [h, List.getD_eq_getElem?_getD, List.getElem?_append_left (by omega), List.getElem?_eq_getElem (by omega), Option.getD_some] at e
    exact hx (e ▸ List.getElem_mem _)))
  rw [Nat.zero_add] at h1
  have e : strB s x.length = (b.toNat : Int) := by rw [strB_list (by omega), h]; simp
  have at_ : ∀ k, k < y.length → strB s (x.length + 1 + k) = strB (bl y) k := fun k hk => by
    rw [strB_list (by omega), strB_list (by rw [bl_size]; exact hk), bl_list, h]
    congr 2
    rw [List.getD_eq_getElem?_getD, List.getD_eq_getElem?_getD, List.getElem?_append_right (by omega), show x.length + 1 + k - x.length = k + 1 by omega, List.getElem?_cons_succ]
  have part : ∀ f i, f ≤ i → i ≤ y.length → s.extract (x.length + 1 + f) (x.length + 1 + i) = (bl y).extract f i := fun f i hf hi => ba_ext (by
    simp only [ByteArray.data_extract, Array.toList_extract, bl_list]
    rw [List.extract_eq_take_drop, List.extract_eq_take_drop, h, show x.length + 1 + i - (x.length + 1 + f) = i - f by omega]
    congr 1
    rw [show x ++ b :: y = (x ++ [b]) ++ y by simp, show x.length + 1 + f = (x ++ [b]).length + f by simp, List.drop_append]
    simp)
  have go : ∀ i, i ≤ y.length → (cutGo (b.toNat : Int) s (x.length + 1 + i)).1 = bl x :: (cutGo (b.toNat : Int) (bl y) i).1 ∧ (cutGo (b.toNat : Int) s (x.length + 1 + i)).2 = x.length + 1 + (cutGo (b.toNat : Int) (bl y) i).2 := by
    intro i
    induction i with
    | zero =>
      intro _
      rw [Nat.add_zero, cutGo_yes e, h1]
      have e1 : s.extract 0 x.length = bl x := ba_ext (by
        simp only [ByteArray.data_extract, Array.toList_extract, bl_list]
        rw [List.extract_eq_take_drop, h]; simp)
      exact ⟨by show [] ++ [s.extract 0 x.length] = _; rw [e1]; rfl, rfl⟩
    | succ i ih =>
      intro hi
      have ih := ih (by omega)
      have hq := at_ i (by omega)
      have hle := (cutGo_le (b := (b.toNat : Int)) (s := bl y) i).1
      show (cutGo (b.toNat : Int) s (x.length + 1 + i + 1)).1 = _ ∧ (cutGo (b.toNat : Int) s (x.length + 1 + i + 1)).2 = _
      by_cases hb : strB (bl y) i = (b.toNat : Int)
      · rw [cutGo_yes (hq.trans hb), cutGo_yes hb]
        refine ⟨?_, by show x.length + 1 + i + 1 = x.length + 1 + (i + 1); omega⟩
        show (cutGo (b.toNat : Int) s (x.length + 1 + i)).1 ++ [s.extract (cutGo (b.toNat : Int) s (x.length + 1 + i)).2 (x.length + 1 + i)] = bl x :: ((cutGo (b.toNat : Int) (bl y) i).1 ++ [(bl y).extract (cutGo (b.toNat : Int) (bl y) i).2 i])
        rw [ih.1, ih.2, part _ _ hle (by omega)]; rfl
      · rw [cutGo_no (fun h5 => hb (hq.symm.trans h5)), cutGo_no hb]; exact ih
  have hg := go y.length (Nat.le_refl _)
  unfold cutT
  rw [hs, hg.1, hg.2, bl_size, part _ _ (by have := (cutGo_le (b := (b.toNat : Int)) (s := bl y) y.length).1; exact this) (Nat.le_refl _)]
  rfl
theorem rdM_text {c : ByteArray} {x : Int} (h : MOk c (ng x) (dg x.natAbs)) (hd : DOk (ng x) (dg x.natAbs) (curOf c).places) : rdM (monT c (ng x) (dg x.natAbs)) = (c, x, true) := by
  have e := monT_ok h
  have hl : (monT c (ng x) (dg x.natAbs)).data.toList = c.data.toList ++ 32 :: (decT (ng x) (dg x.natAbs) (curOf c).places).data.toList := by
    rw [e]; simp
  have hc : cutT 32 (monT c (ng x) (dg x.natAbs)) = [c, decT (ng x) (dg x.natAbs) (curOf c).places] := by
    have := cut_one (b := 32) hl (known_32 h.1) (decT_32 hd)
    rw [bl_of, bl_of] at this; exact this
  have c0 : cP (monT c (ng x) (dg x.natAbs)) 0 = c := by unfold cP; rw [hc]; rfl
  have c1 : cP (monT c (ng x) (dg x.natAbs)) 1 = decT (ng x) (dg x.natAbs) (curOf c).places := by unfold cP; rw [hc]; rfl
  have hx := rdX_of hd rfl
  have := rdM_yes (s := monT c (ng x) (dg x.natAbs)) (by rw [hc]; rfl) (by rw [c1]; exact hx.2.2) (by rw [c1, c0, hx.1]) (monT_ne h)
  rw [this, c0, c1, hx.1]
theorem rdR_text {f t : ByteArray} {x p : Int} (h : RateP f t (ng x) (dg x.natAbs) p) : rdR (ratT f t (ng x) (dg x.natAbs) p) = (f, t, x, p, true) := by
  have e := ratT_ok h
  have hd := h.2.2.2.1
  have hl : (ratT f t (ng x) (dg x.natAbs) p).data.toList = f.data.toList ++ 32 :: (t.data.toList ++ 32 :: (decT (ng x) (dg x.natAbs) p).data.toList) := by
    rw [e]; simp
  have hc : cutT 32 (ratT f t (ng x) (dg x.natAbs) p) = [f, t, decT (ng x) (dg x.natAbs) p] := by
    have h1 := cut_two (b := 32) hl (known_32 h.1)
    have h2 := cut_one (b := 32) (s := bl (t.data.toList ++ 32 :: (decT (ng x) (dg x.natAbs) p).data.toList)) rfl (known_32 h.2.1) (decT_32 hd)
    rw [h2, bl_of, bl_of, bl_of] at h1; exact h1
  have c0 : cP (ratT f t (ng x) (dg x.natAbs) p) 0 = f := by unfold cP; rw [hc]; rfl
  have c1 : cP (ratT f t (ng x) (dg x.natAbs) p) 1 = t := by unfold cP; rw [hc]; rfl
  have c2 : cP (ratT f t (ng x) (dg x.natAbs) p) 2 = decT (ng x) (dg x.natAbs) p := by unfold cP; rw [hc]; rfl
  have hx := rdX_of hd rfl
  have := rdR_yes (s := ratT f t (ng x) (dg x.natAbs) p) (by rw [hc]; rfl) (by rw [c2]; exact hx.2.2) (by rw [c0, c1, c2, hx.1, hx.2.1]; exact h)
  rw [this, c0, c1, c2, hx.1, hx.2.1]
end Go.Proofs.YtoeclobdbblohaaDoor
namespace Go.Proofs.YtoeclobdbblohaaDoor
open Go Go.RowKit
theorem nt {a : Bool} (h : (!a) = true) (h2 : a = true) : False := by rw [h2] at h; cases h
theorem nff {a : Bool} (h : (!a) = true) : a = false := by cases a <;> first | rfl | cases h
theorem nf {a : Bool} (h : (!a) = false) : a = true := by cases a <;> first | rfl | cases h
theorem part_size {b : Int} {s : ByteArray} (i : Nat) : ((cutT b s).getD i ByteArray.empty).size ≤ s.size := by
  have h := jn_cut (b := b) (s := s)
  rw [jn_len] at h
  rw [List.getD_eq_getElem?_getD]
  rcases Nat.lt_or_ge i (cutT b s).length with hi | hi
  · rw [List.getElem?_eq_getElem hi, Option.getD_some]
    have hm : ∀ (l : List ByteArray) (x : ByteArray), x ∈ l → x.size ≤ (l.map ByteArray.size).sum := by
      intro l
      induction l with
      | nil => intro x hx; cases hx
      | cons a l ih =>
        intro x hx
        simp only [List.map_cons, List.sum_cons]
        rcases List.mem_cons.1 hx with hx | hx
        · subst hx; omega
        · have := ih x hx; omega
    exact Nat.le_trans (hm _ _ (List.getElem_mem hi)) h
  · rw [List.getElem?_eq_none hi]; exact Nat.zero_le _
end Go.Proofs.YtoeclobdbblohaaDoor
