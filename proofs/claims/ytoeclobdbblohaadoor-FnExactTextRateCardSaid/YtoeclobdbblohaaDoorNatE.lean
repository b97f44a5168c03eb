/- Plain lemmas on numbers and lists; no program in sight. Conditions: none. -/
import Derived.Test.YtoeclobdbblohaaDoorNatD
import Derived.Test.YtoeclobdbblohaaDoorCur
set_option linter.unusedVariables false
set_option linter.unusedSimpArgs false
namespace Go.Proofs.YtoeclobdbblohaaDoor
instance (s : ByteArray) : Decidable (Known s) := by unfold Known; infer_instance
/-! ### money -/
def MOk (c : ByteArray) (n : Bool) (zs : List Int) : Prop := Known c ∧ IOk n zs ∧ zs.length ≤ 4
instance (c : ByteArray) (n : Bool) (zs : List Int) : Decidable (MOk c n zs) := by unfold MOk; infer_instance
theorem MOk.int {c : ByteArray} {n : Bool} {zs : List Int} (h : MOk c n zs) : ∃ x : Int, n = ng x ∧ zs = dg x.natAbs ∧ (dg x.natAbs).length ≤ 4 := by
  obtain ⟨x, rfl, rfl, _⟩ := h.2.1.int
  exact ⟨x, rfl, rfl, h.2.2⟩
theorem MOk_iff {c : ByteArray} {x : Int} : MOk c (ng x) (dg x.natAbs) ↔ (Known c ∧ (dg x.natAbs).length ≤ 4) := ⟨fun h => ⟨h.1, h.2.2⟩, fun h => ⟨h.1, IOk_ng (by omega), h.2⟩⟩
def noM : ByteArray × Bool × List Int × Bool := (⟨#[]⟩, false, [], false)
def mR (c : ByteArray) (x : Int) : ByteArray × Bool × List Int × Bool := if Known c ∧ (dg x.natAbs).length ≤ 4 then (c, ng x, dg x.natAbs, true) else noM
theorem mR_ok {c : ByteArray} {x : Int} (h : MOk c (ng x) (dg x.natAbs)) : mR c x = (c, ng x, dg x.natAbs, true) := by unfold mR; rw [if_pos (MOk_iff.1 h)]
theorem mR_no {c : ByteArray} {x : Int} (h : ¬ MOk c (ng x) (dg x.natAbs)) : mR c x = noM := by unfold mR; rw [if_neg (mt MOk_iff.2 h)]
theorem mR_len {c : ByteArray} {x : Int} : (mR c x).2.2.1.length ≤ 4 := by
  unfold mR; split
  · rename_i h; exact h.2
  · simp [noM]
def Alike (c1 : ByteArray) (n1 : Bool) (z1 : List Int) (c2 : ByteArray) (n2 : Bool) (z2 : List Int) : Prop := MOk c1 n1 z1 ∧ MOk c2 n2 z2 ∧ c1 = c2
instance (c1 : ByteArray) (n1 : Bool) (z1 : List Int) (c2 : ByteArray) (n2 : Bool) (z2 : List Int) : Decidable (Alike c1 n1 z1 c2 n2 z2) := by unfold Alike; infer_instance
def mBin (f : Int → Int → Int) (c1 : ByteArray) (n1 : Bool) (z1 : List Int) (c2 : ByteArray) (n2 : Bool) (z2 : List Int) : ByteArray × Bool × List Int × Bool :=
  if Alike c1 n1 z1 c2 n2 z2 then mR c1 (f (vI n1 z1) (vI n2 z2)) else noM
theorem mBin_no {f : Int → Int → Int} {c1 : ByteArray} {n1 : Bool} {z1 : List Int} {c2 : ByteArray} {n2 : Bool} {z2 : List Int} (h : ¬ Alike c1 n1 z1 c2 n2 z2) : mBin f c1 n1 z1 c2 n2 z2 = noM := by unfold mBin; rw [if_neg h]
theorem mBin_ok {f : Int → Int → Int} {c1 c2 : ByteArray} {x y : Int} (h : Alike c1 (ng x) (dg x.natAbs) c2 (ng y) (dg y.natAbs)) : mBin f c1 (ng x) (dg x.natAbs) c2 (ng y) (dg y.natAbs) = mR c1 (f x y) := by unfold mBin; rw [if_pos h, vI_ng, vI_ng]
theorem mBin_len {f : Int → Int → Int} {c1 : ByteArray} {n1 : Bool} {z1 : List Int} {c2 : ByteArray} {n2 : Bool} {z2 : List Int} : (mBin f c1 n1 z1 c2 n2 z2).2.2.1.length ≤ 4 := by
  unfold mBin; split
  · exact mR_len
  · simp [noM]
abbrev gAdd (x y : Int) : Int := x + y
abbrev gSub (x y : Int) : Int := x + -y
def mUn (f : Int → Int) (c : ByteArray) (n : Bool) (zs : List Int) : ByteArray × Bool × List Int × Bool := if MOk c n zs then mR c (f (vI n zs)) else noM
theorem mUn_no {f : Int → Int} {c : ByteArray} {n : Bool} {zs : List Int} (h : ¬ MOk c n zs) : mUn f c n zs = noM := by unfold mUn; rw [if_neg h]
theorem mUn_ok {f : Int → Int} {c : ByteArray} {x : Int} (h : MOk c (ng x) (dg x.natAbs)) : mUn f c (ng x) (dg x.natAbs) = mR c (f x) := by unfold mUn; rw [if_pos h, vI_ng]
theorem mUn_len {f : Int → Int} {c : ByteArray} {n : Bool} {zs : List Int} : (mUn f c n zs).2.2.1.length ≤ 4 := by
  unfold mUn; split
  · exact mR_len
  · simp [noM]
abbrev uNeg (x : Int) : Int := -x
abbrev uTimes (k : Int) (x : Int) : Int := x * k
def mCmp (c1 : ByteArray) (n1 : Bool) (z1 : List Int) (c2 : ByteArray) (n2 : Bool) (z2 : List Int) : Int × Bool := if Alike c1 n1 z1 c2 n2 z2 then (cmpI (vI n1 z1) (vI n2 z2), true) else (0, false)
theorem mCmp_no {c1 : ByteArray} {n1 : Bool} {z1 : List Int} {c2 : ByteArray} {n2 : Bool} {z2 : List Int} (h : ¬ Alike c1 n1 z1 c2 n2 z2) : mCmp c1 n1 z1 c2 n2 z2 = (0, false) := by unfold mCmp; rw [if_neg h]
theorem mCmp_ok {c1 c2 : ByteArray} {x y : Int} (h : Alike c1 (ng x) (dg x.natAbs) c2 (ng y) (dg y.natAbs)) : mCmp c1 (ng x) (dg x.natAbs) c2 (ng y) (dg y.natAbs) = (cmpI x y, true) := by unfold mCmp; rw [if_pos h, vI_ng, vI_ng]
theorem cur_places (s : ByteArray) : 0 ≤ (curOf s).places ∧ (curOf s).places ≤ 9 := by
  unfold curOf
  cases e : byCode tabI s with
  | none => exact ⟨by decide, by decide⟩
  | some c =>
    have hc : c ∈ tabI := List.mem_of_find?_eq_some e
    have : ∀ c ∈ tabI, 0 ≤ c.places ∧ c.places ≤ 9 := by decide +kernel
    exact this c hc
end Go.Proofs.YtoeclobdbblohaaDoor
