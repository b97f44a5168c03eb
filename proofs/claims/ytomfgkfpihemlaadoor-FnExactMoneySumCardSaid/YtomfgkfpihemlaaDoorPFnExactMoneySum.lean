/- The statement FnExactMoneySum of the given rows and its tied card: for every input the law returns true, and its arguments and the listed variable read as they did. Conditions: those of the row. -/
import Derived.Test.YtomfgkfpihemlaaDoorMFnExactMoneySum
import Derived.Test.YtomfgkfpihemlaaDoorOpen
import Derived.Test.YtomfgkfpihemlaaDoorOpenR
import Derived.Test.YtomfgkfpihemlaaDoorOpenM
import Derived.Test.YtomfgkfpihemlaaDoorLaid
import Derived.Test.YtomfgkfpihemlaaDoorTie
import Derived.Test.YtomfgkfpihemlaaDoorCards
import Derived.WalkKit
import Derived.ProofKit
import Derived.OpenShut
import Derived.ShutString
import Derived.ChangeOld
import Derived.Below
import Derived.SevenTiedAt
import Derived.JoinedOf
set_option linter.unusedVariables false
set_option linter.unusedSimpArgs false
namespace Go.Proofs.YtomfgkfpihemlaaDoor.fnExactMoneySum
open Go Go.ChangeShapes Go.WideShapes Go.ChangeAt Go.RowKit
open Go.ChangeMaps (open_string shut_string)
theorem own : ownKnob Tryd.prog.godebug = none := by kernel_rfl
theorem laidOut : laidOutB Tryd.prog = true := by kernel_rfl
set_option maxRecDepth 100000 in
theorem lifted (os : Os) (started : os.Started) (H : Type) (enc : TypeId × Value → H) :
    ReturnsInHanded {} Tryd.checked os 14 .any (fun w args => (Rows.fnExactMoneySumSpec.pre enc Tryd.prog Tryd.f14 [] false w args ∧ laidMet Tryd.prog [("loop.example/g00793/impl.currencies", Rows.laid_loop_example_g00793_impl_currencies)] w) ∧ sizedMet enc Tryd.prog Tryd.f14 (OpenSpec.ofChange Rows.fnExactMoneySumSpec) false w args)
      (Rows.fnExactMoneySumSpec.post enc Tryd.prog Tryd.f14 false true false false) := by
  refine returnsInHanded_of_change_and (C := Tryd.checked) (X := fun w _ => laidMet Tryd.prog [("loop.example/g00793/impl.currencies", Rows.laid_loop_example_g00793_impl_currencies)] w) (fun _ _ _ hh h => h.of_heap hh) own started (by kernel_rfl) Tryd.func14
    (ChangeSpec.witness_at (enc := enc) (C := Tryd.checked) (os := os) (X := fun w _ => laidMet Tryd.prog [("loop.example/g00793/impl.currencies", Rows.laid_loop_example_g00793_impl_currencies)] w) false (laidWorld os) #[.string ⟨#[]⟩, .slice none 0 0] 8 rfl (by kernel_rfl) (by kernel_rfl) (by kernel_rfl) (by kernel_rfl) (by kernel_rfl)
      (laidMet_of_run' 8 (by kernel_rfl) (by kernel_rfl))) ?_
  intro W base args ds gs before hval0 hW _ _ hL _
  have hval : ∀ (j : Nat) t v, Tryd.f14.params[j]? = some t → args[j]? = some v → Value.okWide Tryd.prog W .any base t v := hval0
  have hW' := hW
  obtain ⟨p, q, hA0, hV0, rfl, hfz, hnd⟩ := hW
  have hA : DataW.TrodAll enc Tryd.prog W 0 (fun _ => true) true Tryd.f14.params.toList args.toList ds p := hA0
  have hV : DataW.TrodVars enc Tryd.prog W (fun _ => true) ["loop.example/g00793/impl.currencies"] gs q := hV0
  rw [Tryd.params14] at hA hval
  obtain ⟨v0, vs0, d0, ds0, p0, q0, hargs, rfl, rfl, h0, r0⟩ := trodAll_cons hA
  obtain ⟨v1, vs1, d1, ds1, p1, q1, rfl, rfl, rfl, h1, r1⟩ := trodAll_cons r0
  obtain ⟨rfl, rfl, rfl⟩ := trodAll_nil r1
  obtain rfl : args = #[v0, v1] := by cases args; simp_all
  obtain ⟨g, t, cs, fuel, d, p', rfl, hg, ht, hvar, hd, rfl⟩ := trodVars_one hV
  obtain rfl := Option.some.inj (curVar.symm.trans hg)
  obtain rfl := Option.some.inj (curType.symm.trans ht)
  obtain rfl : cs = (crCells tabI).toArray := Option.some.inj (hvar.symm.trans (laid_cells hL))
  obtain ⟨rfl, rfl⟩ := DataW.Trod.unique (v := .agg (crCells tabI).toArray) ⟨fuel, hd⟩ ⟨4, reads_tab enc W _⟩
  have hG : Glob W := glob_of_var hvar
  have k0 := h0
  have lt0 : ∀ x ∈ p0, x.block < W.heap.size := by obtain ⟨m, hm⟩ := k0; exact DataW.trod_lt m _ _ _ hm
  have k1 := h1
  have lt1 : ∀ x ∈ p1, x.block < W.heap.size := by obtain ⟨m, hm⟩ := k1; exact DataW.trod_lt m _ _ _ hm
  obtain ⟨a0, rfl, rfl, rfl, w0⟩ := open_string Tryd.underlying9 (hval 0 9 v0 rfl rfl) h0
  have b0 : a0.size ≤ 9223372036854775807 := by unfold maxLen at w0; omega
  obtain ⟨a1, len1, cap1, rfl⟩ := okWide_slice Tryd.underlying78 (hval 1 78 v1 rfl rfl)
  have g1 := openTop (cs := [.slice a1 len1 cap1]) h1 (by simp [Value.cells])
  obtain ⟨ts1, us1, ws1, ls1, bs1⟩ := openMts Tryd.underlying78 (by kernel_rfl) (fun cs hl qs1 => by
    obtain ⟨ys1x0, ys1x1, ys1x2, rfl⟩ := list3 hl
    have qs1x0 := openField (cs' := [ys1x0]) Tryd.underlying26 qs1 0 _ rfl (by decide) (by kernel_rfl)
    obtain ⟨iys1x0, rfl, bys1x0⟩ := openStr Tryd.underlying9 qs1x0
    have qs1x1 := openField (cs' := [ys1x1, ys1x2]) Tryd.underlying26 qs1 1 _ rfl (by decide) (by kernel_rfl)
    have qs1x1x0 := openField (cs' := [ys1x1]) Tryd.underlying24 qs1x1 0 _ rfl (by decide) (by kernel_rfl)
    obtain ⟨iys1x1, rfl⟩ := openBool Tryd.underlying4 qs1x1x0
    have qs1x1x1 := openField (cs' := [ys1x2]) Tryd.underlying24 qs1x1 1 _ rfl (by decide) (by kernel_rfl)
    obtain ⟨zys1x2, wys1x2, bys1x2⟩ := openInts Tryd.underlying22 Tryd.underlying3 (by kernel_rfl) qs1x1x1
    exact ⟨(iys1x0, iys1x1, zys1x2), ys1x2, rfl, wys1x2, bys1x0, bys1x2⟩) g1
  have hwalk : Ret Tryd.prog 14 [.string a0, .slice a1 len1 cap1] W (fun v w' => v = .bool true ∧ Chg 0 0 W w') := law_MoneySum hG ws1 b0 ls1 bs1
  refine Calls.mono hwalk fun e W' ⟨v, he, hv, hgc⟩ => ?_
  subst he; subst hv
  have bel := hgc.below
  have hlt0 : 0 < W.heap.size := by
    obtain ⟨T, fz, h1⟩ := hG
    rcases Nat.lt_or_ge 0 W.heap.size with h' | h'
    · exact h'
    · simp [Array.getElem?_eq_none h'] at h1
  have hvars : ∀ sp : Nat → Bool, DataW.TrodVars enc Tryd.prog W' sp ["loop.example/g00793/impl.currencies"] [Rows.laid_loop_example_g00793_impl_currencies] (MemPlace.row ⟨0, 0, none⟩ (crCells tabI).toArray.size ++ [] ++ []) := fun sp =>
    ⟨0, _, (crCells tabI).toArray, 4, [], [], hg, ht, var?_below bel hg hlt0 hvar, reads_tab enc W' sp, rfl, rfl⟩
  exact ⟨_, rfl, _, _, _, [], _, _, hW', trodAll_mk1 (shut_bool Tryd.underlying4 _), (trodAll_cons_mk (Below.trod laidOut (by kernel_rfl) (of_decide_eq_true (by kernel_rfl)) k0 bel lt0) (trodAll_cons_mk (Below.trod laidOut (by kernel_rfl) (of_decide_eq_true (by kernel_rfl)) k1 bel lt1) (trodAll_mk0))), hvars _, bel.frame _, fun h => by cases h⟩
theorem over : Rows.fnExactMoneySumRow.holds Tryd.pinned (OpenSpec.ofChange Rows.fnExactMoneySumSpec) :=
  OpenClaim.holds_of_wide 14 Tryd.f14 rfl rfl rfl rfl rfl rfl rfl ⟨rfl, rfl, rfl, rfl, rfl⟩ rfl rfl rfl rfl rfl (by kernel_rfl) Tryd.func14 (by kernel_rfl)
    (of_decide_eq_true (by kernel_rfl)) (by unfold Func.isWrapper; rw [if_neg (by decide +kernel)]; exact ⟨rfl, rfl⟩)
    (fun os started H enc _ => lifted os started H enc)
theorem proved : Rows.FnExactMoneySumCardSaid :=
  Claim7.holds_tied_plain_at .later [] [.data] true (true, "c15027ccc0dea3be1a83126e01e98cc8f4daf8ec85dd0630ac54c3d39427312a") false
    over (fun _ h => by cases h) (by kernel_rfl) (fun _ h => by cases h) fnExactMoneySum_row_tie rfl ⟨rfl, rfl⟩ (by kernel_rfl) rfl
    (fun f fn hf hfn => by
      obtain rfl : f = 14 := Option.some.inj ((show Tryd.prog.funcNamed "loop.example/g00793/laws.FnExactMoneySum" = some 14 by kernel_rfl).symm.trans hf) |>.symm
      obtain rfl : fn = Tryd.f14 := (Option.some.inj (Tryd.func14.symm.trans hfn)).symm
      exact ⟨by kernel_rfl, fun j t ht => by
        rw [Tryd.params14] at ht
        have h3 : t = 9 ∨ t = 78 := by
          match j, ht with
          | 0, ht => (have e : t = 9 := by simpa using ht.symm); simp [e]
          | 1, ht => (have e : t = 78 := by simpa using ht.symm); simp [e]
          | j + 2, ht => simp at ht
        rcases h3 with rfl | rfl
        · exact (show Tryd.prog.wantsStandIn 9 = false by kernel_rfl)
        · exact (show Tryd.prog.wantsStandIn 78 = false by kernel_rfl)⟩)
    (by kernel_rfl)
#print axioms proved
end Go.Proofs.YtomfgkfpihemlaaDoor.fnExactMoneySum
