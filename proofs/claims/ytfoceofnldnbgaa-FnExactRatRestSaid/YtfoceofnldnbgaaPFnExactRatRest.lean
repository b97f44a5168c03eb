/- The statement FnExactRatRest of the given rows: for every input the law returns true, and its arguments read as they did. Conditions: those of the row. -/
import Derived.Test.YtfoceofnldnbgaaMFnExactRatRest
import Derived.Test.YtfoceofnldnbgaaOpen
import Derived.WalkKit
import Derived.ProofKit
import Derived.OpenShut
import Derived.ShutString
import Derived.ChangeOld
import Derived.Below
set_option linter.unusedVariables false
set_option linter.unusedSimpArgs false
namespace Go.Proofs.Ytfoceofnldnbgaa.fnExactRatRest
open Go Go.ChangeShapes Go.WideShapes Go.ChangeAt Go.RowKit
open Go.ChangeMaps (open_string shut_string)
theorem own : ownKnob Try.prog.godebug = none := by kernel_rfl
theorem laidOut : laidOutB Try.prog = true := by kernel_rfl
set_option maxRecDepth 100000 in
theorem lifted (os : Os) (started : os.Started) (H : Type) (enc : TypeId × Value → H) :
    ReturnsInHanded {} Try.checked os 6 .any (Rows.fnExactRatRestSpec.pre6 enc Try.prog Try.f6 Rows.fnExactRatRestRow.domain false) (Rows.fnExactRatRestSpec.post enc Try.prog Try.f6 false true false false) := by
  refine returnsInHanded_of_change (C := Try.checked) own started (by kernel_rfl) Try.func6
    (ChangeSpec.witness6 (enc := enc) (C := Try.checked) false ⟨#[], #[.agg #[.bool false, .slice none 0 0, .slice none 0 0], .int .i64 0], []⟩ 8 (by kernel_rfl) (by kernel_rfl) (by kernel_rfl) (by kernel_rfl)) ?_
  intro W base args ds gs before hval0 hW hcnd _
  have hval : ∀ (j : Nat) t v, Try.f6.params[j]? = some t → args[j]? = some v → Value.okWide Try.prog W .any base t v := hval0
  have hW' := hW
  obtain ⟨p, q, hA0, hV, rfl, hfz, hnd⟩ := hW
  have hA : DataW.TrodAll enc Try.prog W 0 (fun _ => true) true Try.f6.params.toList args.toList ds p := hA0
  rw [Try.params6] at hA hval
  obtain ⟨v0, vs0, d0, ds0, p0, q0, hargs, rfl, rfl, h0, r0⟩ := trodAll_cons hA
  obtain ⟨v1, vs1, d1, ds1, p1, q1, rfl, rfl, rfl, h1, r1⟩ := trodAll_cons r0
  obtain ⟨rfl, rfl, rfl⟩ := trodAll_nil r1
  obtain rfl : args = #[v0, v1] := by cases args; simp_all
  obtain ⟨rfl, rfl⟩ := trodVars_none hV
  have k0 := h0
  have lt0 : ∀ x ∈ p0, x.block < W.heap.size := by obtain ⟨m, hm⟩ := k0; exact DataW.trod_lt m _ _ _ hm
  have k1 := h1
  have lt1 : ∀ x ∈ p1, x.block < W.heap.size := by obtain ⟨m, hm⟩ := k1; exact DataW.trod_lt m _ _ _ hm
  obtain ⟨cs0, rfl, sz0⟩ := okWide_struct Try.underlying40 (hval 0 40 v0 rfl rfl)
  obtain ⟨x0x0, x0x1, x0x2, rfl⟩ := arr3 (sz0.trans (by kernel_rfl))
  have g0 := openTop (cs := [x0x0, x0x1, x0x2]) h0 (by simp [cells_agg])
  have g0x0 := openField (cs' := [x0x0, x0x1]) Try.underlying40 g0 0 _ rfl (by decide) (by kernel_rfl)
  have g0x0x0 := openField (cs' := [x0x0]) Try.underlying24 g0x0 0 _ rfl (by decide) (by kernel_rfl)
  obtain ⟨ix0x0, rfl⟩ := openBool Try.underlying4 g0x0x0
  have g0x0x1 := openField (cs' := [x0x1]) Try.underlying24 g0x0 1 _ rfl (by decide) (by kernel_rfl)
  obtain ⟨zx0x1, wx0x1, bx0x1⟩ := openInts Try.underlying22 Try.underlying3 (by kernel_rfl) g0x0x1
  have g0x1 := openField (cs' := [x0x2]) Try.underlying40 g0 1 _ rfl (by decide) (by kernel_rfl)
  obtain ⟨zx0x2, wx0x2, bx0x2⟩ := openInts Try.underlying22 Try.underlying3 (by kernel_rfl) g0x1
  obtain ⟨a1, rfl, rfl, rfl, w1⟩ := open_int Try.underlying3 (hval 1 3 v1 rfl rfl) h1
  have bi1 := wfI64 w1
  have hwalk : Ret Try.prog 6 [.agg #[.bool ix0x0, x0x1, x0x2], .int .i64 a1] W (fun v w' => v = .bool true ∧ Chg 0 0 W w') := law_RatRest wx0x1 wx0x2 bx0x1 bx0x2 bi1
  refine Calls.mono hwalk fun e W' ⟨v, he, hv, hg⟩ => ?_
  subst he; subst hv
  have bel := hg.below
  exact ⟨_, rfl, _, _, _, [], _, [], hW', trodAll_mk1 (shut_bool Try.underlying4 _), (trodAll_cons_mk (Below.trod laidOut (by kernel_rfl) (of_decide_eq_true (by kernel_rfl)) k0 bel lt0) (trodAll_cons_mk (Below.trod laidOut (by kernel_rfl) (of_decide_eq_true (by kernel_rfl)) k1 bel lt1) (trodAll_mk0))), rfl, bel.frame _, fun h => by cases h⟩
theorem over : Rows.fnExactRatRestRow.holds Try.pinned (OpenSpec.ofChange Rows.fnExactRatRestSpec) :=
  OpenClaim.holds_of_wide 6 Try.f6 rfl rfl rfl rfl rfl rfl rfl ⟨rfl, rfl, rfl, rfl, rfl⟩ rfl rfl rfl rfl rfl (by kernel_rfl) Try.func6 (by kernel_rfl)
    (of_decide_eq_true (by kernel_rfl)) (by unfold Func.isWrapper; rw [if_neg (by decide +kernel)]; exact ⟨rfl, rfl⟩)
    (fun os started H enc _ => lifted os started H enc)
theorem proved : Rows.FnExactRatRestSaid := over
#print axioms proved
end Go.Proofs.Ytfoceofnldnbgaa.fnExactRatRest
