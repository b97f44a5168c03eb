/- The statement FnTurned of the given rows and its tied card: for every input the law returns true, and its arguments and the listed variable read as they did. Conditions: those of the row. -/
import Derived.Test.YtjkeefmpjocilaaDoorMFnTurned
import Derived.Test.YtjkeefmpjocilaaDoorOpen
import Derived.Test.YtjkeefmpjocilaaDoorOpenM
import Derived.Test.YtjkeefmpjocilaaDoorOpenB
import Derived.Test.YtjkeefmpjocilaaDoorLaid
import Derived.Test.YtjkeefmpjocilaaDoorTie
import Derived.Test.YtjkeefmpjocilaaDoorCards
import Derived.WalkKit
import Derived.ProofKit
import Derived.OpenShut
import Derived.ShutString
import Derived.ChangeOld
import Derived.Below
import Derived.SevenTiedAt
import Derived.JoinedOf
set_option linter.unusedVariables false
set_option linter.unusedSimpArgs false
namespace Go.Proofs.YtjkeefmpjocilaaDoor.fnTurned
open Go Go.ChangeShapes Go.WideShapes Go.ChangeAt Go.RowKit
open Go.ChangeMaps (open_string shut_string)
theorem own : ownKnob Tryd.prog.godebug = none := by kernel_rfl
theorem laidOut : laidOutB Tryd.prog = true := by kernel_rfl
set_option maxRecDepth 100000 in
theorem lifted (os : Os) (started : os.Started) (H : Type) (enc : TypeId × Value → H) :
    ReturnsInHanded {} Tryd.checked os 3 .any (fun w args => (Rows.fnTurnedSpec.pre enc Tryd.prog Tryd.f3 [] false w args ∧ laidMet Tryd.prog [("loop.example/g00793/impl.currencies", Rows.laid_loop_example_g00793_impl_currencies)] w) ∧ sizedMet enc Tryd.prog Tryd.f3 (OpenSpec.ofChange Rows.fnTurnedSpec) false w args)
      (Rows.fnTurnedSpec.post enc Tryd.prog Tryd.f3 false true false false) := by
  refine returnsInHanded_of_change_and (C := Tryd.checked) (X := fun w _ => laidMet Tryd.prog [("loop.example/g00793/impl.currencies", Rows.laid_loop_example_g00793_impl_currencies)] w) (fun _ _ _ hh h => h.of_heap hh) own started (by kernel_rfl) Tryd.func3
    (ChangeSpec.witness_at (enc := enc) (C := Tryd.checked) (os := os) (X := fun w _ => laidMet Tryd.prog [("loop.example/g00793/impl.currencies", Rows.laid_loop_example_g00793_impl_currencies)] w) false (laidWorld os) #[.slice none 0 0] 8 rfl (by kernel_rfl) (by kernel_rfl) (by kernel_rfl) (by kernel_rfl) (by kernel_rfl)
      (laidMet_of_run' 8 (by kernel_rfl) (by kernel_rfl))) ?_
  intro W base args ds gs before hval0 hW _ _ hL _
  have hval : ∀ (j : Nat) t v, Tryd.f3.params[j]? = some t → args[j]? = some v → Value.okWide Tryd.prog W .any base t v := hval0
  have hW' := hW
  obtain ⟨p, q, hA0, hV0, rfl, hfz, hnd⟩ := hW
  have hA : DataW.TrodAll enc Tryd.prog W 0 (fun _ => true) true Tryd.f3.params.toList args.toList ds p := hA0
  have hV : DataW.TrodVars enc Tryd.prog W (fun _ => true) ["loop.example/g00793/impl.currencies"] gs q := hV0
  rw [Tryd.params3] at hA hval
  obtain ⟨v0, vs0, d0, ds0, p0, q0, hargs, rfl, rfl, h0, r0⟩ := trodAll_cons hA
  obtain ⟨rfl, rfl, rfl⟩ := trodAll_nil r0
  obtain rfl : args = #[v0] := by cases args; simp_all
  obtain ⟨g, t, cs, fuel, d, p', rfl, hg, ht, hvar, hd, rfl⟩ := trodVars_one hV
  obtain rfl := Option.some.inj (curVar.symm.trans hg)
  obtain rfl := Option.some.inj (curType.symm.trans ht)
  obtain rfl : cs = (crCells tabI).toArray := Option.some.inj (hvar.symm.trans (laid_cells hL))
  obtain ⟨rfl, rfl⟩ := DataW.Trod.unique (v := .agg (crCells tabI).toArray) ⟨fuel, hd⟩ ⟨4, reads_tab enc W _⟩
  have hG : Glob W := glob_of_var hvar
  have k0 := h0
  have lt0 : ∀ x ∈ p0, x.block < W.heap.size := by obtain ⟨m, hm⟩ := k0; exact DataW.trod_lt m _ _ _ hm
  obtain ⟨a0, len0, cap0, rfl⟩ := okWide_slice Tryd.underlying22 (hval 0 22 v0 rfl rfl)
  obtain ⟨z0, w0, hb0, b0⟩ : ∃ zs, SlB W 0 W.heap.size (.slice a0 len0 cap0) zs ∧ (∀ j, j < zs.length → 0 ≤ zs.getD j 0 ∧ zs.getD j 0 ≤ 255) ∧ zs.length ≤ 9223372036854775807 := by
    obtain ⟨fuel, hf⟩ := h0
    rcases open_ints Tryd.underlying22 Tryd.underlying5 (by kernel_rfl) hf with ⟨hcs, _⟩ | ⟨x, l, c, zs, hcs, _, hl, hm, hz, _, hcell, hwz⟩
    · simp [Value.cells] at hcs
      obtain ⟨rfl, rfl, rfl⟩ := hcs
      exact ⟨[], SlB.ofNil, by simp, by simp⟩
    · simp [Value.cells] at hcs
      obtain ⟨rfl, rfl, rfl⟩ := hcs
      have h5 := SlB.ofCells hl (by simpa using hz) hcell
      exact ⟨_, h5, getD_wfU8 hwz _, by rw [List.length_take]; unfold maxLen at hm; omega⟩
  have hwalk : Ret Tryd.prog 3 [.slice a0 len0 cap0] W (fun v w' => v = .bool true ∧ Chg 0 0 W w') := law_FnTurned hG w0 hb0 b0
  refine Calls.mono hwalk fun e W' ⟨v, he, hv, hgc⟩ => ?_
  subst he; subst hv
  have bel := hgc.below
  have hlt0 : 0 < W.heap.size := by
    obtain ⟨T, fz, h1⟩ := hG
    rcases Nat.lt_or_ge 0 W.heap.size with h' | h'
    · exact h'
    · simp [Array.getElem?_eq_none h'] at h1
  have hvars : ∀ sp : Nat → Bool, DataW.TrodVars enc Tryd.prog W' sp ["loop.example/g00793/impl.currencies"] [Rows.laid_loop_example_g00793_impl_currencies] (MemPlace.row ⟨0, 0, none⟩ (crCells tabI).toArray.size ++ [] ++ []) := fun sp =>
    ⟨0, _, (crCells tabI).toArray, 4, [], [], hg, ht, var?_below bel hg hlt0 hvar, reads_tab enc W' sp, rfl, rfl⟩
  exact ⟨_, rfl, _, _, _, [], _, _, hW', trodAll_mk1 (shut_bool Tryd.underlying4 _), (trodAll_cons_mk (Below.trod laidOut (by kernel_rfl) (of_decide_eq_true (by kernel_rfl)) k0 bel lt0) (trodAll_mk0)), hvars _, bel.frame _, fun h => by cases h⟩
theorem over : Rows.fnTurnedRow.holds Tryd.pinned (OpenSpec.ofChange Rows.fnTurnedSpec) :=
  OpenClaim.holds_of_wide 3 Tryd.f3 rfl rfl rfl rfl rfl rfl rfl ⟨rfl, rfl, rfl, rfl, rfl⟩ rfl rfl rfl rfl rfl (by kernel_rfl) Tryd.func3 (by kernel_rfl)
    (of_decide_eq_true (by kernel_rfl)) (by unfold Func.isWrapper; rw [if_neg (by decide +kernel)]; exact ⟨rfl, rfl⟩)
    (fun os started H enc _ => lifted os started H enc)
theorem proved : Rows.FnTurnedCardSaid :=
  Claim7.holds_tied_plain_at .later [] [.data] true (true, "47708ebb2dbc7627f0dee45e521605697bb740c510e286dcbf82adb80165f59c") false
    over (fun _ h => by cases h) (by kernel_rfl) (fun _ h => by cases h) fnTurned_row_tie rfl ⟨rfl, rfl⟩ (by kernel_rfl) rfl
    (fun f fn hf hfn => by
      obtain rfl : f = 3 := Option.some.inj ((show Tryd.prog.funcNamed "loop.example/g00793/laws.FnTurned" = some 3 by kernel_rfl).symm.trans hf) |>.symm
      obtain rfl : fn = Tryd.f3 := (Option.some.inj (Tryd.func3.symm.trans hfn)).symm
      exact ⟨by kernel_rfl, fun j t ht => by
        rw [Tryd.params3] at ht
        have h3 : t = 22 := by
          rcases j with _ | j
          · simpa using ht.symm
          · simp at ht
        rcases h3 with rfl
        · exact (show Tryd.prog.wantsStandIn 22 = false by kernel_rfl)⟩)
    (by kernel_rfl)
#print axioms proved
end Go.Proofs.YtjkeefmpjocilaaDoor.fnTurned
