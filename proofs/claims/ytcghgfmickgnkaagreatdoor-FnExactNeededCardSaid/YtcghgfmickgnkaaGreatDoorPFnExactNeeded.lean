/- The statement FnExactNeeded of the given rows and its tied card: for every input the law returns true, and its arguments and the listed variable read as they did. Conditions: those of the row. -/
import Derived.Test.YtcghgfmickgnkaaGreatDoorMFnExactNeeded
import Derived.Test.YtcghgfmickgnkaaGreatDoorOpen
import Derived.Test.YtcghgfmickgnkaaGreatDoorOpenR
import Derived.Test.YtcghgfmickgnkaaGreatDoorLaid
import Derived.Test.YtcghgfmickgnkaaGreatDoorTie
import Derived.Test.YtcghgfmickgnkaaGreatDoorCards
import Derived.WalkKit
import Derived.ProofKit
import Derived.OpenShut
import Derived.ShutString
import Derived.ChangeOld
import Derived.Below
import Derived.SevenTiedAt
import Derived.JoinedOf
set_option linter.unusedVariables false
set_option linter.unusedSimpArgs false
namespace Go.Proofs.YtcghgfmickgnkaaGreatDoor.fnExactNeeded
open Go Go.ChangeShapes Go.WideShapes Go.ChangeAt Go.RowKit
open Go.ChangeMaps (open_string shut_string)
theorem own : ownKnob Tryz.prog.godebug = none := by kernel_rfl
theorem laidOut : laidOutB Tryz.prog = true := by kernel_rfl
set_option maxRecDepth 100000 in
theorem lifted (os : Os) (started : os.Started) (H : Type) (enc : TypeId × Value → H) :
    ReturnsInHanded {} Tryz.checked os 6 .any (fun w args => (Rows.fnExactNeededSpec.pre enc Tryz.prog Tryz.f6 [] false w args ∧ laidMet Tryz.prog [("loop.example/g00793/impl.currencies", Rows.laid_loop_example_g00793_impl_currencies)] w) ∧ sizedMet enc Tryz.prog Tryz.f6 (OpenSpec.ofChange Rows.fnExactNeededSpec) false w args)
      (Rows.fnExactNeededSpec.post enc Tryz.prog Tryz.f6 false true false false) := by
  refine returnsInHanded_of_change_and (C := Tryz.checked) (X := fun w _ => laidMet Tryz.prog [("loop.example/g00793/impl.currencies", Rows.laid_loop_example_g00793_impl_currencies)] w) (fun _ _ _ hh h => h.of_heap hh) own started (by kernel_rfl) Tryz.func6
    (ChangeSpec.witness_at (enc := enc) (C := Tryz.checked) (os := os) (X := fun w _ => laidMet Tryz.prog [("loop.example/g00793/impl.currencies", Rows.laid_loop_example_g00793_impl_currencies)] w) false (laidWorld os) #[.agg #[.string ⟨#[]⟩, .slice none 0 0], .agg #[.string ⟨#[]⟩, .bool false, .slice none 0 0], .string ⟨#[]⟩] 8 rfl (by kernel_rfl) (by kernel_rfl) (by kernel_rfl) (by kernel_rfl) (by kernel_rfl)
      (laidMet_of_run' 8 (by kernel_rfl) (by kernel_rfl))) ?_
  intro W base args ds gs before hval0 hW _ _ hL _
  have hval : ∀ (j : Nat) t v, Tryz.f6.params[j]? = some t → args[j]? = some v → Value.okWide Tryz.prog W .any base t v := hval0
  have hW' := hW
  obtain ⟨p, q, hA0, hV0, rfl, hfz, hnd⟩ := hW
  have hA : DataW.TrodAll enc Tryz.prog W 0 (fun _ => true) true Tryz.f6.params.toList args.toList ds p := hA0
  have hV : DataW.TrodVars enc Tryz.prog W (fun _ => true) ["loop.example/g00793/impl.currencies"] gs q := hV0
  rw [Tryz.params6] at hA hval
  obtain ⟨v0, vs0, d0, ds0, p0, q0, hargs, rfl, rfl, h0, r0⟩ := trodAll_cons hA
  obtain ⟨v1, vs1, d1, ds1, p1, q1, rfl, rfl, rfl, h1, r1⟩ := trodAll_cons r0
  obtain ⟨v2, vs2, d2, ds2, p2, q2, rfl, rfl, rfl, h2, r2⟩ := trodAll_cons r1
  obtain ⟨rfl, rfl, rfl⟩ := trodAll_nil r2
  obtain rfl : args = #[v0, v1, v2] := by cases args; simp_all
  obtain ⟨g, t, cs, fuel, d, p', rfl, hg, ht, hvar, hd, rfl⟩ := trodVars_one hV
  obtain rfl := Option.some.inj (curVar.symm.trans hg)
  obtain rfl := Option.some.inj (curType.symm.trans ht)
  obtain rfl : cs = (crCells tabI).toArray := Option.some.inj (hvar.symm.trans (laid_cells hL))
  obtain ⟨rfl, rfl⟩ := DataW.Trod.unique (v := .agg (crCells tabI).toArray) ⟨fuel, hd⟩ ⟨4, reads_tab enc W _⟩
  have hG : Glob W := glob_of_var hvar
  have k0 := h0
  have lt0 : ∀ x ∈ p0, x.block < W.heap.size := by obtain ⟨m, hm⟩ := k0; exact DataW.trod_lt m _ _ _ hm
  have k1 := h1
  have lt1 : ∀ x ∈ p1, x.block < W.heap.size := by obtain ⟨m, hm⟩ := k1; exact DataW.trod_lt m _ _ _ hm
  have k2 := h2
  have lt2 : ∀ x ∈ p2, x.block < W.heap.size := by obtain ⟨m, hm⟩ := k2; exact DataW.trod_lt m _ _ _ hm
  obtain ⟨cs0, rfl, sz0⟩ := okWide_struct Tryz.underlying24 (hval 0 24 v0 rfl rfl)
  obtain ⟨x0x0, x0x1, rfl⟩ := arr2 (sz0.trans (by kernel_rfl))
  have g0 := openTop (cs := [x0x0, x0x1]) h0 (by simp [cells_agg])
  have g0x0 := openField (cs' := [x0x0]) Tryz.underlying24 g0 0 _ rfl (by decide) (by kernel_rfl)
  obtain ⟨ix0x0, rfl, bx0x0⟩ := openStr Tryz.underlying9 g0x0
  have g0x1 := openField (cs' := [x0x1]) Tryz.underlying24 g0 1 _ rfl (by decide) (by kernel_rfl)
  obtain ⟨tx0x1, ux0x1, wx0x1, lx0x1, bx0x1⟩ := openRts Tryz.underlying22 (by kernel_rfl) (fun cs hl qx0x1 => by
    obtain ⟨yx0x1x0, yx0x1x1, yx0x1x2, yx0x1x3, yx0x1x4, rfl⟩ := list5 hl
    have qx0x1x0 := openField (cs' := [yx0x1x0]) Tryz.underlying93 qx0x1 0 _ rfl (by decide) (by kernel_rfl)
    obtain ⟨iyx0x1x0, rfl, byx0x1x0⟩ := openStr Tryz.underlying9 qx0x1x0
    have qx0x1x1 := openField (cs' := [yx0x1x1]) Tryz.underlying93 qx0x1 1 _ rfl (by decide) (by kernel_rfl)
    obtain ⟨iyx0x1x1, rfl, byx0x1x1⟩ := openStr Tryz.underlying9 qx0x1x1
    have qx0x1x2 := openField (cs' := [yx0x1x2, yx0x1x3, yx0x1x4]) Tryz.underlying93 qx0x1 2 _ rfl (by decide) (by kernel_rfl)
    have qx0x1x2x0 := openField (cs' := [yx0x1x2, yx0x1x3]) Tryz.underlying91 qx0x1x2 0 _ rfl (by decide) (by kernel_rfl)
    have qx0x1x2x0x0 := openField (cs' := [yx0x1x2]) Tryz.underlying42 qx0x1x2x0 0 _ rfl (by decide) (by kernel_rfl)
    obtain ⟨iyx0x1x2, rfl⟩ := openBool Tryz.underlying4 qx0x1x2x0x0
    have qx0x1x2x0x1 := openField (cs' := [yx0x1x3]) Tryz.underlying42 qx0x1x2x0 1 _ rfl (by decide) (by kernel_rfl)
    obtain ⟨zyx0x1x3, wyx0x1x3, byx0x1x3⟩ := openInts Tryz.underlying26 Tryz.underlying3 (by kernel_rfl) qx0x1x2x0x1
    have qx0x1x2x1 := openField (cs' := [yx0x1x4]) Tryz.underlying91 qx0x1x2 1 _ rfl (by decide) (by kernel_rfl)
    obtain ⟨iyx0x1x4, rfl, wyx0x1x4⟩ := openInt Tryz.underlying3 qx0x1x2x1
    exact ⟨(iyx0x1x0, iyx0x1x1, iyx0x1x2, zyx0x1x3, iyx0x1x4), yx0x1x3, rfl, wyx0x1x3, byx0x1x0, byx0x1x1, byx0x1x3⟩) g0x1
  obtain ⟨cs1, rfl, sz1⟩ := okWide_struct Tryz.underlying44 (hval 1 44 v1 rfl rfl)
  obtain ⟨x1x0, x1x1, x1x2, rfl⟩ := arr3 (sz1.trans (by kernel_rfl))
  have g1 := openTop (cs := [x1x0, x1x1, x1x2]) h1 (by simp [cells_agg])
  have g1x0 := openField (cs' := [x1x0]) Tryz.underlying44 g1 0 _ rfl (by decide) (by kernel_rfl)
  obtain ⟨ix1x0, rfl, bx1x0⟩ := openStr Tryz.underlying9 g1x0
  have g1x1 := openField (cs' := [x1x1, x1x2]) Tryz.underlying44 g1 1 _ rfl (by decide) (by kernel_rfl)
  have g1x1x0 := openField (cs' := [x1x1]) Tryz.underlying42 g1x1 0 _ rfl (by decide) (by kernel_rfl)
  obtain ⟨ix1x1, rfl⟩ := openBool Tryz.underlying4 g1x1x0
  have g1x1x1 := openField (cs' := [x1x2]) Tryz.underlying42 g1x1 1 _ rfl (by decide) (by kernel_rfl)
  obtain ⟨zx1x2, wx1x2, bx1x2⟩ := openInts Tryz.underlying26 Tryz.underlying3 (by kernel_rfl) g1x1x1
  obtain ⟨a2, rfl, rfl, rfl, w2⟩ := open_string Tryz.underlying9 (hval 2 9 v2 rfl rfl) h2
  have b2 : a2.size ≤ 9223372036854775807 := by unfold maxLen at w2; omega
  have hwalk : Ret Tryz.prog 6 [.agg #[.string ix0x0, x0x1], .agg #[.string ix1x0, .bool ix1x1, x1x2], .string a2] W (fun v w' => v = .bool true ∧ Chg 0 0 W w') := law_Needed hG wx0x1 wx1x2 bx0x0 lx0x1 bx0x1 bx1x0 bx1x2 b2
  refine Calls.mono hwalk fun e W' ⟨v, he, hv, hgc⟩ => ?_
  subst he; subst hv
  have bel := hgc.below
  have hlt0 : 0 < W.heap.size := by
    obtain ⟨T, fz, h1⟩ := hG
    rcases Nat.lt_or_ge 0 W.heap.size with h' | h'
    · exact h'
    · simp [Array.getElem?_eq_none h'] at h1
  have hvars : ∀ sp : Nat → Bool, DataW.TrodVars enc Tryz.prog W' sp ["loop.example/g00793/impl.currencies"] [Rows.laid_loop_example_g00793_impl_currencies] (MemPlace.row ⟨0, 0, none⟩ (crCells tabI).toArray.size ++ [] ++ []) := fun sp =>
    ⟨0, _, (crCells tabI).toArray, 4, [], [], hg, ht, var?_below bel hg hlt0 hvar, reads_tab enc W' sp, rfl, rfl⟩
  exact ⟨_, rfl, _, _, _, [], _, _, hW', trodAll_mk1 (shut_bool Tryz.underlying4 _), (trodAll_cons_mk (Below.trod laidOut (by kernel_rfl) (of_decide_eq_true (by kernel_rfl)) k0 bel lt0) (trodAll_cons_mk (Below.trod laidOut (by kernel_rfl) (of_decide_eq_true (by kernel_rfl)) k1 bel lt1) (trodAll_cons_mk (Below.trod laidOut (by kernel_rfl) (of_decide_eq_true (by kernel_rfl)) k2 bel lt2) (trodAll_mk0)))), hvars _, bel.frame _, fun h => by cases h⟩
theorem over : Rows.fnExactNeededRow.holds Tryz.pinned (OpenSpec.ofChange Rows.fnExactNeededSpec) :=
  OpenClaim.holds_of_wide 6 Tryz.f6 rfl rfl rfl rfl rfl rfl rfl ⟨rfl, rfl, rfl, rfl, rfl⟩ rfl rfl rfl rfl rfl (by kernel_rfl) Tryz.func6 (by kernel_rfl)
    (of_decide_eq_true (by kernel_rfl)) (by unfold Func.isWrapper; rw [if_neg (by decide +kernel)]; exact ⟨rfl, rfl⟩)
    (fun os started H enc _ => lifted os started H enc)
theorem proved : Rows.FnExactNeededCardSaid :=
  Claim7.holds_tied_plain_at .later [] [.data] true (true, "d145e5b953ef6f8cb71eb31cf3f3f312c75ea9a0494134a48fc7750ce87bd647") false
    over (fun _ h => by cases h) (by kernel_rfl) (fun _ h => by cases h) fnExactNeeded_row_tie rfl ⟨rfl, rfl⟩ (by kernel_rfl) rfl
    (fun f fn hf hfn => by
      obtain rfl : f = 6 := Option.some.inj ((show Tryz.prog.funcNamed "loop.example/g00793/laws.FnExactNeeded" = some 6 by kernel_rfl).symm.trans hf) |>.symm
      obtain rfl : fn = Tryz.f6 := (Option.some.inj (Tryz.func6.symm.trans hfn)).symm
      exact ⟨by kernel_rfl, fun j t ht => by
        rw [Tryz.params6] at ht
        have h3 : t = 9 ∨ t = 24 ∨ t = 44 := by
          match j, ht with
          | 0, ht => (have e : t = 24 := by simpa using ht.symm); simp [e]
          | 1, ht => (have e : t = 44 := by simpa using ht.symm); simp [e]
          | 2, ht => (have e : t = 9 := by simpa using ht.symm); simp [e]
          | j + 3, ht => simp at ht
        rcases h3 with rfl | rfl | rfl
        · exact (show Tryz.prog.wantsStandIn 9 = false by kernel_rfl)
        · exact (show Tryz.prog.wantsStandIn 24 = false by kernel_rfl)
        · exact (show Tryz.prog.wantsStandIn 44 = false by kernel_rfl)⟩)
    (by kernel_rfl)
#print axioms proved
end Go.Proofs.YtcghgfmickgnkaaGreatDoor.fnExactNeeded
