/- The statement FnExactCurs of the given rows and its tied card: for every input the law returns true, and its arguments and the listed variable read as they did. Conditions: those of the row. -/
import Derived.Test.YtemlgjheidbccaaDoorMFnExactCurs
import Derived.Test.YtemlgjheidbccaaDoorOpen
import Derived.Test.YtemlgjheidbccaaDoorLaid
import Derived.Test.YtemlgjheidbccaaDoorTie
import Derived.Test.YtemlgjheidbccaaDoorCards
import Derived.WalkKit
import Derived.ProofKit
import Derived.OpenShut
import Derived.ShutString
import Derived.ChangeOld
import Derived.Below
import Derived.SevenTiedAt
import Derived.JoinedOf
set_option linter.unusedVariables false
set_option linter.unusedSimpArgs false
namespace Go.Proofs.YtemlgjheidbccaaDoor.fnExactCurs
open Go Go.ChangeShapes Go.WideShapes Go.ChangeAt Go.RowKit
open Go.ChangeMaps (open_string shut_string)
theorem own : ownKnob Tryd.prog.godebug = none := by kernel_rfl
theorem laidOut : laidOutB Tryd.prog = true := by kernel_rfl
set_option maxRecDepth 100000 in
theorem lifted (os : Os) (started : os.Started) (H : Type) (enc : TypeId × Value → H) :
    ReturnsInHanded {} Tryd.checked os 3 .any (fun w args => (Rows.fnExactCursSpec.pre enc Tryd.prog Tryd.f3 [] false w args ∧ laidMet Tryd.prog [("loop.example/g00793/impl.currencies", Rows.laid_loop_example_g00793_impl_currencies)] w) ∧ sizedMet enc Tryd.prog Tryd.f3 (OpenSpec.ofChange Rows.fnExactCursSpec) false w args)
      (Rows.fnExactCursSpec.post enc Tryd.prog Tryd.f3 false true false false) := by
  refine returnsInHanded_of_change_and (C := Tryd.checked) (X := fun w _ => laidMet Tryd.prog [("loop.example/g00793/impl.currencies", Rows.laid_loop_example_g00793_impl_currencies)] w) (fun _ _ _ hh h => h.of_heap hh) own started (by kernel_rfl) Tryd.func3
    (ChangeSpec.witness_at (enc := enc) (C := Tryd.checked) (os := os) (X := fun w _ => laidMet Tryd.prog [("loop.example/g00793/impl.currencies", Rows.laid_loop_example_g00793_impl_currencies)] w) false (laidWorld os) #[] 8 rfl (by kernel_rfl) (by kernel_rfl) (by kernel_rfl) (by kernel_rfl) (by kernel_rfl)
      (laidMet_of_run' 8 (by kernel_rfl) (by kernel_rfl))) ?_
  intro W base args ds gs before hval0 hW _ _ hL _
  have hval : ∀ (j : Nat) t v, Tryd.f3.params[j]? = some t → args[j]? = some v → Value.okWide Tryd.prog W .any base t v := hval0
  have hW' := hW
  obtain ⟨p, q, hA0, hV0, rfl, hfz, hnd⟩ := hW
  have hA : DataW.TrodAll enc Tryd.prog W 0 (fun _ => true) true Tryd.f3.params.toList args.toList ds p := hA0
  have hV : DataW.TrodVars enc Tryd.prog W (fun _ => true) ["loop.example/g00793/impl.currencies"] gs q := hV0
  rw [Tryd.params3] at hA hval
  obtain ⟨hargs, rfl, rfl⟩ := trodAll_nil hA
  obtain rfl : args = #[] := by cases args; simp_all
  obtain ⟨g, t, cs, fuel, d, p', rfl, hg, ht, hvar, hd, rfl⟩ := trodVars_one hV
  obtain rfl := Option.some.inj (curVar.symm.trans hg)
  obtain rfl := Option.some.inj (curType.symm.trans ht)
  obtain rfl : cs = (crCells tabI).toArray := Option.some.inj (hvar.symm.trans (laid_cells hL))
  obtain ⟨rfl, rfl⟩ := DataW.Trod.unique (v := .agg (crCells tabI).toArray) ⟨fuel, hd⟩ ⟨4, reads_tab enc W _⟩
  have hG : Glob W := glob_of_var hvar
  have hwalk : Ret Tryd.prog 3 [] W (fun v w' => v = .bool true ∧ Chg 0 0 W w') := law_Curs hG 
  refine Calls.mono hwalk fun e W' ⟨v, he, hv, hgc⟩ => ?_
  subst he; subst hv
  have bel := hgc.below
  have hlt0 : 0 < W.heap.size := by
    obtain ⟨T, fz, h1⟩ := hG
    rcases Nat.lt_or_ge 0 W.heap.size with h' | h'
    · exact h'
    · simp [Array.getElem?_eq_none h'] at h1
  have hvars : ∀ sp : Nat → Bool, DataW.TrodVars enc Tryd.prog W' sp ["loop.example/g00793/impl.currencies"] [Rows.laid_loop_example_g00793_impl_currencies] (MemPlace.row ⟨0, 0, none⟩ (crCells tabI).toArray.size ++ [] ++ []) := fun sp =>
    ⟨0, _, (crCells tabI).toArray, 4, [], [], hg, ht, var?_below bel hg hlt0 hvar, reads_tab enc W' sp, rfl, rfl⟩
  exact ⟨_, rfl, _, _, _, [], _, _, hW', trodAll_mk1 (shut_bool Tryd.underlying4 _), (trodAll_mk0), hvars _, bel.frame _, fun h => by cases h⟩
theorem over : Rows.fnExactCursRow.holds Tryd.pinned (OpenSpec.ofChange Rows.fnExactCursSpec) :=
  OpenClaim.holds_of_wide 3 Tryd.f3 rfl rfl rfl rfl rfl rfl rfl ⟨rfl, rfl, rfl, rfl, rfl⟩ rfl rfl rfl rfl rfl (by kernel_rfl) Tryd.func3 (by kernel_rfl)
    (of_decide_eq_true (by kernel_rfl)) (by unfold Func.isWrapper; rw [if_neg (by decide +kernel)]; exact ⟨rfl, rfl⟩)
    (fun os started H enc _ => lifted os started H enc)
theorem proved : Rows.FnExactCursCardSaid :=
  Claim7.holds_tied_plain_at .later [] [.data] true (true, "17b705a9c5a7c2a4dd2a2f1d9d3e9e561605f912ab85969c80ca989b268e9046") false
    over (fun _ h => by cases h) (by kernel_rfl) (fun _ h => by cases h) fnExactCurs_row_tie rfl ⟨rfl, rfl⟩ (by kernel_rfl) rfl
    (fun f fn hf hfn => by
      obtain rfl : f = 3 := Option.some.inj ((show Tryd.prog.funcNamed "loop.example/g00793/laws.FnExactCurs" = some 3 by kernel_rfl).symm.trans hf) |>.symm
      obtain rfl : fn = Tryd.f3 := (Option.some.inj (Tryd.func3.symm.trans hfn)).symm
      exact ⟨by kernel_rfl, fun j t ht => by
        rw [Tryd.params3] at ht
        simp at ht⟩)
    (by kernel_rfl)
#print axioms proved
end Go.Proofs.YtemlgjheidbccaaDoor.fnExactCurs
