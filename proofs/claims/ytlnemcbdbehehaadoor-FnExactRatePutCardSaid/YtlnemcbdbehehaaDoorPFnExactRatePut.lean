/- The statement FnExactRatePut of the given rows and its tied card: for every input the law returns true, and its arguments and the listed variable read as they did. Conditions: those of the row. -/
import Derived.Test.YtlnemcbdbehehaaDoorMFnExactRatePut
import Derived.Test.YtlnemcbdbehehaaDoorOpen
import Derived.Test.YtlnemcbdbehehaaDoorOpenR
import Derived.Test.YtlnemcbdbehehaaDoorOpenB
import Derived.Test.YtlnemcbdbehehaaDoorLaid
import Derived.Test.YtlnemcbdbehehaaDoorTie
import Derived.Test.YtlnemcbdbehehaaDoorCards
import Derived.WalkKit
import Derived.ProofKit
import Derived.OpenShut
import Derived.ShutString
import Derived.ChangeOld
import Derived.Below
import Derived.SevenTiedAt
import Derived.JoinedOf
set_option linter.unusedVariables false
set_option linter.unusedSimpArgs false
namespace Go.Proofs.YtlnemcbdbehehaaDoor.fnExactRatePut
open Go Go.ChangeShapes Go.WideShapes Go.ChangeAt Go.RowKit
open Go.ChangeMaps (open_string shut_string)
theorem own : ownKnob Tryd.prog.godebug = none := by kernel_rfl
theorem laidOut : laidOutB Tryd.prog = true := by kernel_rfl
set_option maxRecDepth 100000 in
theorem lifted (os : Os) (started : os.Started) (H : Type) (enc : TypeId × Value → H) :
    ReturnsInHanded {} Tryd.checked os 3 .any (fun w args => (Rows.fnExactRatePutSpec.pre enc Tryd.prog Tryd.f3 [] false w args ∧ laidMet Tryd.prog [("loop.example/g00793/impl.currencies", Rows.laid_loop_example_g00793_impl_currencies)] w) ∧ sizedMet enc Tryd.prog Tryd.f3 (OpenSpec.ofChange Rows.fnExactRatePutSpec) false w args)
      (Rows.fnExactRatePutSpec.post enc Tryd.prog Tryd.f3 false true false false) := by
  refine returnsInHanded_of_change_and (C := Tryd.checked) (X := fun w _ => laidMet Tryd.prog [("loop.example/g00793/impl.currencies", Rows.laid_loop_example_g00793_impl_currencies)] w) (fun _ _ _ hh h => h.of_heap hh) own started (by kernel_rfl) Tryd.func3
    (ChangeSpec.witness_at (enc := enc) (C := Tryd.checked) (os := os) (X := fun w _ => laidMet Tryd.prog [("loop.example/g00793/impl.currencies", Rows.laid_loop_example_g00793_impl_currencies)] w) false (laidWorld os) #[.agg #[.string ⟨#[]⟩, .slice none 0 0], .agg #[.string ⟨#[]⟩, .string ⟨#[]⟩, .bool false, .slice none 0 0, .int .i64 0]] 8 rfl (by kernel_rfl) (by kernel_rfl) (by kernel_rfl) (by kernel_rfl) (by kernel_rfl)
      (laidMet_of_run' 8 (by kernel_rfl) (by kernel_rfl))) ?_
  intro W base args ds gs before hval0 hW _ _ hL _
  have hval : ∀ (j : Nat) t v, Tryd.f3.params[j]? = some t → args[j]? = some v → Value.okWide Tryd.prog W .any base t v := hval0
  have hW' := hW
  obtain ⟨p, q, hA0, hV0, rfl, hfz, hnd⟩ := hW
  have hA : DataW.TrodAll enc Tryd.prog W 0 (fun _ => true) true Tryd.f3.params.toList args.toList ds p := hA0
  have hV : DataW.TrodVars enc Tryd.prog W (fun _ => true) ["loop.example/g00793/impl.currencies"] gs q := hV0
  rw [Tryd.params3] at hA hval
  obtain ⟨v0, vs0, d0, ds0, p0, q0, hargs, rfl, rfl, h0, r0⟩ := trodAll_cons hA
  obtain ⟨v1, vs1, d1, ds1, p1, q1, rfl, rfl, rfl, h1, r1⟩ := trodAll_cons r0
  obtain ⟨rfl, rfl, rfl⟩ := trodAll_nil r1
  obtain rfl : args = #[v0, v1] := by cases args; simp_all
  obtain ⟨g, t, cs, fuel, d, p', rfl, hg, ht, hvar, hd, rfl⟩ := trodVars_one hV
  obtain rfl := Option.some.inj (curVar.symm.trans hg)
  obtain rfl := Option.some.inj (curType.symm.trans ht)
  obtain rfl : cs = (crCells tabI).toArray := Option.some.inj (hvar.symm.trans (laid_cells hL))
  obtain ⟨rfl, rfl⟩ := DataW.Trod.unique (v := .agg (crCells tabI).toArray) ⟨fuel, hd⟩ ⟨4, reads_tab enc W _⟩
  have hG : Glob W := glob_of_var hvar
  have k0 := h0
  have lt0 : ∀ x ∈ p0, x.block < W.heap.size := by obtain ⟨m, hm⟩ := k0; exact DataW.trod_lt m _ _ _ hm
  have k1 := h1
  have lt1 : ∀ x ∈ p1, x.block < W.heap.size := by obtain ⟨m, hm⟩ := k1; exact DataW.trod_lt m _ _ _ hm
  obtain ⟨cs0, rfl, sz0⟩ := okWide_struct Tryd.underlying24 (hval 0 24 v0 rfl rfl)
  obtain ⟨x0x0, x0x1, rfl⟩ := arr2 (sz0.trans (by kernel_rfl))
  have g0 := openTop (cs := [x0x0, x0x1]) h0 (by simp [cells_agg])
  have g0x0 := openField (cs' := [x0x0]) Tryd.underlying24 g0 0 _ rfl (by decide) (by kernel_rfl)
  obtain ⟨ix0x0, rfl, bx0x0⟩ := openStr Tryd.underlying9 g0x0
  have g0x1 := openField (cs' := [x0x1]) Tryd.underlying24 g0 1 _ rfl (by decide) (by kernel_rfl)
  obtain ⟨tx0x1, ux0x1, wx0x1, lx0x1, bx0x1⟩ := openRts Tryd.underlying22 (by kernel_rfl) (fun cs hl qx0x1 => by
    obtain ⟨yx0x1x0, yx0x1x1, yx0x1x2, yx0x1x3, yx0x1x4, rfl⟩ := list5 hl
    have qx0x1x0 := openField (cs' := [yx0x1x0]) Tryd.underlying31 qx0x1 0 _ rfl (by decide) (by kernel_rfl)
    obtain ⟨iyx0x1x0, rfl, byx0x1x0⟩ := openStr Tryd.underlying9 qx0x1x0
    have qx0x1x1 := openField (cs' := [yx0x1x1]) Tryd.underlying31 qx0x1 1 _ rfl (by decide) (by kernel_rfl)
    obtain ⟨iyx0x1x1, rfl, byx0x1x1⟩ := openStr Tryd.underlying9 qx0x1x1
    have qx0x1x2 := openField (cs' := [yx0x1x2, yx0x1x3, yx0x1x4]) Tryd.underlying31 qx0x1 2 _ rfl (by decide) (by kernel_rfl)
    have qx0x1x2x0 := openField (cs' := [yx0x1x2, yx0x1x3]) Tryd.underlying29 qx0x1x2 0 _ rfl (by decide) (by kernel_rfl)
    have qx0x1x2x0x0 := openField (cs' := [yx0x1x2]) Tryd.underlying27 qx0x1x2x0 0 _ rfl (by decide) (by kernel_rfl)
    obtain ⟨iyx0x1x2, rfl⟩ := openBool Tryd.underlying4 qx0x1x2x0x0
    have qx0x1x2x0x1 := openField (cs' := [yx0x1x3]) Tryd.underlying27 qx0x1x2x0 1 _ rfl (by decide) (by kernel_rfl)
    obtain ⟨zyx0x1x3, wyx0x1x3, byx0x1x3⟩ := openInts Tryd.underlying25 Tryd.underlying3 (by kernel_rfl) qx0x1x2x0x1
    have qx0x1x2x1 := openField (cs' := [yx0x1x4]) Tryd.underlying29 qx0x1x2 1 _ rfl (by decide) (by kernel_rfl)
    obtain ⟨iyx0x1x4, rfl, wyx0x1x4⟩ := openInt Tryd.underlying3 qx0x1x2x1
    exact ⟨(iyx0x1x0, iyx0x1x1, iyx0x1x2, zyx0x1x3, iyx0x1x4), yx0x1x3, rfl, wyx0x1x3, byx0x1x0, byx0x1x1, byx0x1x3⟩) g0x1
  obtain ⟨cs1, rfl, sz1⟩ := okWide_struct Tryd.underlying31 (hval 1 31 v1 rfl rfl)
  obtain ⟨x1x0, x1x1, x1x2, x1x3, x1x4, rfl⟩ := arr5 (sz1.trans (by kernel_rfl))
  have g1 := openTop (cs := [x1x0, x1x1, x1x2, x1x3, x1x4]) h1 (by simp [cells_agg])
  have g1x0 := openField (cs' := [x1x0]) Tryd.underlying31 g1 0 _ rfl (by decide) (by kernel_rfl)
  obtain ⟨ix1x0, rfl, bx1x0⟩ := openStr Tryd.underlying9 g1x0
  have g1x1 := openField (cs' := [x1x1]) Tryd.underlying31 g1 1 _ rfl (by decide) (by kernel_rfl)
  obtain ⟨ix1x1, rfl, bx1x1⟩ := openStr Tryd.underlying9 g1x1
  have g1x2 := openField (cs' := [x1x2, x1x3, x1x4]) Tryd.underlying31 g1 2 _ rfl (by decide) (by kernel_rfl)
  have g1x2x0 := openField (cs' := [x1x2, x1x3]) Tryd.underlying29 g1x2 0 _ rfl (by decide) (by kernel_rfl)
  have g1x2x0x0 := openField (cs' := [x1x2]) Tryd.underlying27 g1x2x0 0 _ rfl (by decide) (by kernel_rfl)
  obtain ⟨ix1x2, rfl⟩ := openBool Tryd.underlying4 g1x2x0x0
  have g1x2x0x1 := openField (cs' := [x1x3]) Tryd.underlying27 g1x2x0 1 _ rfl (by decide) (by kernel_rfl)
  obtain ⟨zx1x3, wx1x3, bx1x3⟩ := openInts Tryd.underlying25 Tryd.underlying3 (by kernel_rfl) g1x2x0x1
  have g1x2x1 := openField (cs' := [x1x4]) Tryd.underlying29 g1x2 1 _ rfl (by decide) (by kernel_rfl)
  obtain ⟨ix1x4, rfl, wx1x4⟩ := openInt Tryd.underlying3 g1x2x1
  have hwalk : Ret Tryd.prog 3 [.agg #[.string ix0x0, x0x1], .agg #[.string ix1x0, .string ix1x1, .bool ix1x2, x1x3, .int .i64 ix1x4]] W (fun v w' => v = .bool true ∧ Chg 0 0 W w') := law_RatePut hG wx0x1 wx1x3 bx0x0 lx0x1 bx0x1 bx1x0 bx1x1 bx1x3
  refine Calls.mono hwalk fun e W' ⟨v, he, hv, hgc⟩ => ?_
  subst he; subst hv
  have bel := hgc.below
  have hlt0 : 0 < W.heap.size := by
    obtain ⟨T, fz, h1⟩ := hG
    rcases Nat.lt_or_ge 0 W.heap.size with h' | h'
    · exact h'
    · simp [Array.getElem?_eq_none h'] at h1
  have hvars : ∀ sp : Nat → Bool, DataW.TrodVars enc Tryd.prog W' sp ["loop.example/g00793/impl.currencies"] [Rows.laid_loop_example_g00793_impl_currencies] (MemPlace.row ⟨0, 0, none⟩ (crCells tabI).toArray.size ++ [] ++ []) := fun sp =>
    ⟨0, _, (crCells tabI).toArray, 4, [], [], hg, ht, var?_below bel hg hlt0 hvar, reads_tab enc W' sp, rfl, rfl⟩
  exact ⟨_, rfl, _, _, _, [], _, _, hW', trodAll_mk1 (shut_bool Tryd.underlying4 _), (trodAll_cons_mk (Below.trod laidOut (by kernel_rfl) (of_decide_eq_true (by kernel_rfl)) k0 bel lt0) (trodAll_cons_mk (Below.trod laidOut (by kernel_rfl) (of_decide_eq_true (by kernel_rfl)) k1 bel lt1) (trodAll_mk0))), hvars _, bel.frame _, fun h => by cases h⟩
theorem over : Rows.fnExactRatePutRow.holds Tryd.pinned (OpenSpec.ofChange Rows.fnExactRatePutSpec) :=
  OpenClaim.holds_of_wide 3 Tryd.f3 rfl rfl rfl rfl rfl rfl rfl ⟨rfl, rfl, rfl, rfl, rfl⟩ rfl rfl rfl rfl rfl (by kernel_rfl) Tryd.func3 (by kernel_rfl)
    (of_decide_eq_true (by kernel_rfl)) (by unfold Func.isWrapper; rw [if_neg (by decide +kernel)]; exact ⟨rfl, rfl⟩)
    (fun os started H enc _ => lifted os started H enc)
theorem proved : Rows.FnExactRatePutCardSaid :=
  Claim7.holds_tied_plain_at .later [] [.data] true (true, "25b1fbd8e677726025ecd7668ccfb8e0bcb47c07cb4118b9373f3517f9bc5e36") false
    over (fun _ h => by cases h) (by kernel_rfl) (fun _ h => by cases h) fnExactRatePut_row_tie rfl ⟨rfl, rfl⟩ (by kernel_rfl) rfl
    (fun f fn hf hfn => by
      obtain rfl : f = 3 := Option.some.inj ((show Tryd.prog.funcNamed "loop.example/g00793/laws.FnExactRatePut" = some 3 by kernel_rfl).symm.trans hf) |>.symm
      obtain rfl : fn = Tryd.f3 := (Option.some.inj (Tryd.func3.symm.trans hfn)).symm
      exact ⟨by kernel_rfl, fun j t ht => by
        rw [Tryd.params3] at ht
        have h3 : t = 24 ∨ t = 31 := by
          match j, ht with
          | 0, ht => (have e : t = 24 := by simpa using ht.symm); simp [e]
          | 1, ht => (have e : t = 31 := by simpa using ht.symm); simp [e]
          | j + 2, ht => simp at ht
        rcases h3 with rfl | rfl
        · exact (show Tryd.prog.wantsStandIn 24 = false by kernel_rfl)
        · exact (show Tryd.prog.wantsStandIn 31 = false by kernel_rfl)⟩)
    (by kernel_rfl)
#print axioms proved
end Go.Proofs.YtlnemcbdbehehaaDoor.fnExactRatePut
