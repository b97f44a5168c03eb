/- Contracts of functions of the program: what each call returns, and that it changes nothing that was. Conditions: as each says. -/
import Derived.Test.YtlnemcbdbehehaaDoorTy
import Derived.Test.YtlnemcbdbehehaaDoorNatN
import Derived.Test.YtlnemcbdbehehaaDoorSxD
import Derived.Test.YtlnemcbdbehehaaDoorPair
import Derived.Test.YtlnemcbdbehehaaDoorSxW
import Derived.Test.YtlnemcbdbehehaaDoorNatS
import Derived.Test.YtlnemcbdbehehaaDoorSxG
import Derived.Test.YtlnemcbdbehehaaDoorNatT
import Derived.Test.YtlnemcbdbehehaaDoorNatO
import Derived.Test.YtlnemcbdbehehaaDoorNatV
import Derived.Test.YtlnemcbdbehehaaDoorSxP
import Derived.Test.YtlnemcbdbehehaaDoorM1
import Derived.Test.YtlnemcbdbehehaaDoorNatY
set_option linter.unusedVariables false
set_option linter.unusedSimpArgs false
namespace Go.Proofs.YtlnemcbdbehehaaDoor
open Go Go.RowKit
set_option maxRecDepth 100000
set_option maxHeartbeats 1000000
theorem c_markRateS {w : World} {vt : Value} {lvt uvt : Nat} {ts : List Rt} {vvt : List Value} {n : Int} (hvt : RtO w lvt uvt vt 44 intT ts vvt) (h63 : ts.length ≤ 1048576) (hzz : ∀ i, i < ts.length → (ts.getD i rt0).2.2.2.1.length ≤ 1048576) (hn : 0 ≤ n ∧ n ≤ 4000000000000000000) (hu : uvt ≤ w.heap.size) :
  Ret Tryd.prog 42 [vt, .int .i64 n] w fun v w' => ∃ ks, v = .int .i64 (n + ↑((ks : List Int)).length) ∧ (((ks : List Int)).length ≤ 1200000000000) ∧ Chg lvt uvt w w' := by
 obtain ⟨l1, h1, r, hvl, hvO, ha1, ha2, ha3, ha4, hvn⟩ := hvt
 refine sx_enter Tryd.func42 rfl Tryd.ntmps42 (nbl rfl) ?_
 refine sx_seq fun K1 k1 => sx_region ?_
 refine av rfl rfl (wl_nil (q_n (k1 _ _ ?_)))
 refine sx_seq fun K2 k2 => ?_
 refine sx_seq fun K3 k3 => sx_region ?_
 refine av rfl rfl (wl_nil (q_n (k3 _ _ ?_)))
 refine sx_block ?_
 refine sx_loop (fun mm aa w' => ∃ (k : Nat) (xs : List Value) (ks : List Int), Agr 57 [(0, vt), (1, .int .i64 (n + ↑ks.length)), (5, .int .i64 ↑k)] aa ∧ Chg lvt uvt w w' ∧ Own w' l1 h1 vt 44 ((ts).length) 5 (xs) ∧ (mm = ts.length - k) ∧ (k ≤ ts.length) ∧ (xs.length = ts.length * 5) ∧ (∀ i, k ≤ i → i < ts.length → xs[i * 5 + 3]? = some (vvt.getD i vz)) ∧ (∀ i, k ≤ i → i < ts.length → OwnI w' (r i) (r (i + 1)) (vvt.getD i vz) intT (ts.getD i rt0).2.2.2.1) ∧ (ks.length ≤ k * 1048580) ∧ (h1 ≤ r k)) (_) (fun a ha => ⟨0, rtCells ts vvt, [], ha.sub (Sub.c 0 rfl (.c 1 (look_int (t := 1) rfl (by first | omega | (simp only [List.length_append, List.length_replicate]; omega) | simp)) (.c 5 (look_int (t := 5) rfl (by first | omega | (simp only [List.length_append, List.length_replicate]; omega) | simp)) .nil))), Chg.refl _ _ _, hvO, rfl, by omega, rtCells_len hvl, rt_mag hvl rfl, fun i _ hi => hvn i hi, by simp, by omega⟩) ?_
 rintro mm aa wl4 ⟨k, xs, ks, hAwl4, cwl4, hs_vt, hm, hk, hxl, hx3, hne, hks, hrk⟩
 refine (show cw Tryd.prog 57 _ _ _ wl4 from ?_) aa hAwl4
 clear hAwl4
 have zwl4 := cwl4.size
 refine sx_seq fun K5 k5 => ?_
 refine sx_seq fun K6 k6 => sx_region ?_
 refine mv rfl rfl (mv rfl rfl (sp rfl (px_len rfl Tryd.underlying34 hs_vt.sv) ?_))
 refine sp rfl (px_lt rfl rfl) ?_
 refine wl_nil (q_n (k6 _ _ ?_))
 refine sx_condP rfl (fun h633 => ?_) (fun h633 => ?_)
 ·
  have hzk := hzz k (by omega)
  have hlh : l1 ≤ h1 := by rcases hvO.2 with ⟨h5, _⟩ | ⟨b5, cap5, sp5, _, h5, h6, _⟩ <;> omega
  have hrk1 := ha3 k (by omega)
  have hru := mono_le ha3 (show k + 1 ≤ ts.length by omega) (Nat.le_refl _)
  refine sx_skip ?_
  refine q_n (k5 _ _ ?_)
  refine sx_seq fun K7 k7 => ?_
  refine sx_block ?_
  refine sx_seq fun K8 k8 => sx_region ?_
  refine mv rfl rfl (mv rfl rfl (mv rfl rfl (sx_call rfl rfl Tryd.call72 (c_markText (by omega)) (fun v9 w9 p9 => ?_))))
  obtain ⟨rfl, c9⟩ := p9
  have zw9 := c9.size
  have f10 := hs_vt.ext c9
  refine sp rfl (px_indexK (j := k) rfl rfl (by omega) Tryd.underlying34 Tryd.sizeOf44 f10.sv (by omega)) ?_
  refine sp rfl (px_field rfl xfld44x0) ?_
  refine sx_storeO (j := (k * 5) + 0) rfl rfl f10 (by first | omega | (simp only [List.length_set]; omega)) Tryd.sizeOf9 rfl (fun w11 sw11 fw11 cw11 => ?_)
  have zw11 := cw11.size
  refine wl_nil (q_n (k8 _ _ ?_))
  refine sx_seq fun K12 k12 => sx_region ?_
  refine mv rfl rfl (sp rfl (px_add rfl rfl (by omega)) ?_)
  refine av rfl rfl (wl_nil (q_n (k12 _ _ ?_)))
  refine sx_sub (Sub.c 0 rfl (.c 1 rfl (.c 5 rfl .nil))) ?_
  refine sx_seq fun K13 k13 => sx_region ?_
  refine mv rfl rfl (mv rfl rfl (mv rfl rfl (sx_call rfl rfl Tryd.call72 (c_markText (by omega)) (fun v14 w14 p14 => ?_))))
  obtain ⟨rfl, c14⟩ := p14
  have zw14 := c14.size
  have f15 := fw11.ext c14
  refine sp rfl (px_indexK (j := k) rfl rfl (by omega) Tryd.underlying34 Tryd.sizeOf44 f15.sv (by omega)) ?_
  refine sp rfl (px_field rfl xfld44x1) ?_
  refine sx_storeO (j := (k * 5) + 1) rfl rfl f15 (by first | omega | (simp only [List.length_set]; omega)) Tryd.sizeOf9 rfl (fun w16 sw16 fw16 cw16 => ?_)
  have zw16 := cw16.size
  refine wl_nil (q_n (k13 _ _ ?_))
  refine sx_seq fun K17 k17 => sx_region ?_
  refine mv rfl rfl (sp rfl (px_add rfl rfl (by omega)) ?_)
  refine av rfl rfl (wl_nil (q_n (k17 _ _ ?_)))
  refine sx_seq fun K18 k18 => sx_region ?_
  refine mv rfl rfl (mv rfl rfl (mv rfl rfl (sp rfl (px_rem rfl rfl (by omega) (by omega)) ?_)))
  refine sp rfl (px_eq rfl rfl) ?_
  refine sp rfl (px_indexK (j := k) rfl rfl (by omega) Tryd.underlying34 Tryd.sizeOf44 fw16.sv (by omega)) ?_
  refine sp rfl (px_field rfl xfld44x2) ?_
  refine sp rfl (px_field rfl xfld42x0) ?_
  refine sp rfl (px_field rfl xfld40x0) ?_
  refine sx_storeO (j := (((k * 5) + 2) + 0) + 0) rfl rfl fw16 (by first | omega | (simp only [List.length_set]; omega)) Tryd.sizeOf4 rfl (fun w19 sw19 fw19 cw19 => ?_)
  have zw19 := cw19.size
  refine wl_nil (q_n (k18 _ _ ?_))
  refine sx_sub (Sub.c 0 rfl (.c 1 rfl (.c 5 rfl .nil))) ?_
  refine sx_seq fun K20 k20 => sx_region ?_
  refine mv rfl rfl (sp rfl (px_add rfl rfl (by omega)) ?_)
  refine av rfl rfl (wl_nil (q_n (k20 _ _ ?_)))
  refine sx_seq fun K21 k21 => sx_region ?_
  refine mv rfl rfl (mv rfl rfl (sp rfl (px_indexK (j := k) rfl rfl (by omega) Tryd.underlying34 Tryd.sizeOf44 fw19.sv (by omega)) ?_))
  refine sp rfl (px_field rfl xfld44x2) ?_
  refine sp rfl (px_field rfl xfld42x0) ?_
  refine sp rfl (px_field rfl xfld40x1) ?_
  refine sp rfl (px_load rfl (fw19.sv.load1 (by show _[k * 5 + 3]? = _; rw [List.getElem?_set_ne (by omega), List.getElem?_set_ne (by omega), List.getElem?_set_ne (by omega)]; exact hx3 k (Nat.le_refl _) (by omega)) Tryd.isAgg25)) ?_
  refine mv rfl rfl ?_
  have f23 := ((hne k (Nat.le_refl _) (by omega)).ext c9).chg cw11 (by omega)
  have f25 := (f23.ext c14).chg cw16 (by omega)
  have f26 := f25.chg cw19 (by omega)
  refine sx_call rfl rfl Tryd.call73 (c_markIntS f26 (hzz k (by omega)) (by omega)) (fun v27 w27 p27 => ?_)
  obtain ⟨rfl, ova_27, c27⟩ := p27
  have zw27 := c27.size
  refine av rfl rfl (wl_nil (q_n (k21 _ _ ?_)))
  refine sx_seq fun K28 k28 => sx_region ?_
  refine mv rfl rfl (mv rfl rfl (mv rfl rfl ?_))
  have f29 := fw19.chg c27 (by omega)
  refine sp rfl (px_indexK (j := k) rfl rfl (by omega) Tryd.underlying34 Tryd.sizeOf44 f29.sv (by omega)) ?_
  refine sp rfl (px_field rfl xfld44x2) ?_
  refine sp rfl (px_field rfl xfld42x1) ?_
  refine sx_storeO (j := ((k * 5) + 2) + 2) rfl rfl f29 (by first | omega | (simp only [List.length_set]; omega)) Tryd.sizeOf3 rfl (fun w30 sw30 fw30 cw30 => ?_)
  have zw30 := cw30.size
  refine wl_nil (q_n (k28 _ _ ?_))
  refine sx_sub (Sub.c 0 rfl (.c 1 rfl (.c 5 rfl .nil))) ?_
  refine sx_region ?_
  refine mv rfl rfl (sp rfl (px_add rfl rfl (by omega)) ?_)
  refine av rfl rfl (wl_nil ?_)
  refine q_bn (q_n (k7 _ _ ?_))
  refine sx_region ?_
  refine mv rfl rfl (sp rfl (px_add rfl rfl (by omega)) ?_)
  refine av rfl rfl (wl_nil ?_)
  have q31 := Chg.step (l := l1) (h := (r (k + 1))) (Chg.zero (l := l1) (h := (r (k + 1))) c9) cw11 (by omega)
  have q32 := Chg.step (l := l1) (h := (r (k + 1))) q31 c14 (by omega)
  have q33 := Chg.step (l := l1) (h := (r (k + 1))) q32 cw16 (by omega)
  have q34 := Chg.step (l := l1) (h := (r (k + 1))) q33 cw19 (by omega)
  have q35 := Chg.step (l := l1) (h := (r (k + 1))) q34 c27 (by omega)
  have q36 := Chg.step (l := l1) (h := (r (k + 1))) q35 cw30 (by omega)
  have q37 := Chg.step (l := lvt) (h := uvt) cwl4 c9 (by omega)
  have q38 := Chg.step (l := lvt) (h := uvt) q37 cw11 (by omega)
  have q39 := Chg.step (l := lvt) (h := uvt) q38 c14 (by omega)
  have q40 := Chg.step (l := lvt) (h := uvt) q39 cw16 (by omega)
  have q41 := Chg.step (l := lvt) (h := uvt) q40 cw19 (by omega)
  have q42 := Chg.step (l := lvt) (h := uvt) q41 c27 (by omega)
  have q43 := Chg.step (l := lvt) (h := uvt) q42 cw30 (by omega)
  exact fun a ha => ⟨_, by omega, (k + 1), (((((xs).set ((k * 5) + 0) (.string (mText (n + ↑ks.length)))).set ((k * 5) + 1) (.string (mText ((n + ↑ks.length) + 1)))).set ((((k * 5) + 2) + 0) + 0) (.bool (decide (((((n + ↑ks.length) + 1) + 1) % 3 : Int) = 0)))).set (((k * 5) + 2) + 2) (.int .i64 (((((n + ↑ks.length) + 1) + 1) + 1) + ↑(((ts.getD k rt0).2.2.2.1)).length))), (ks ++ List.replicate (4 + ((ts.getD k rt0).2.2.2.1).length) 0), ha.sub (Sub.c 0 rfl (.c 1 (look_int (t := 1) rfl (by first | omega | (simp only [List.length_append, List.length_replicate]; omega) | simp)) (.c 5 (look_int (t := 5) rfl (by first | omega | (simp only [List.length_append, List.length_replicate]; omega) | simp)) .nil))), q43, (fw30.mono (by omega) (by omega)), rfl, by omega, by simp only [List.length_set]; exact hxl, cells_rest hx3 (fun j hj => by rw [List.getElem?_set_ne (by omega), List.getElem?_set_ne (by omega), List.getElem?_set_ne (by omega), List.getElem?_set_ne (by omega)]), nest_rest ha3 hne q36, by simp only [List.length_append, List.length_replicate]; omega, by omega⟩
 refine sx_exit ?_
 refine q_e (q_e (q_bx (q_n (k2 _ _ ?_))))
 refine sx_seq fun K44 k44 => sx_region ?_
 refine mv rfl rfl (av rfl rfl (wl_nil (q_n (k44 _ _ ?_))))
 refine sx_retc ?_
 refine sx_ret1 Tryd.results42 rfl ?_
 exact ⟨_, rfl, by omega, cwl4⟩

theorem c_markRateSG {w : World} {vt : Value} {lvt uvt : Nat} {ts : List Rt} {vvt : List Value} {n : Int} (hvt : RtG w lvt uvt vt 44 intT ts vvt) (h63 : ts.length ≤ 1048576) (hzz : ∀ i, i < ts.length → (ts.getD i rt0).2.2.2.1.length ≤ 1048576) (hn : 0 ≤ n ∧ n ≤ 4000000000000000000) (hu : uvt ≤ w.heap.size) :
  Ret Tryd.prog 42 [vt, .int .i64 n] w fun v w' => v = .int .i64 (mkEnd n ts) ∧ RtG w' (lvt) (uvt) vt 44 intT (mkRt n ts) vvt ∧ Chg lvt uvt w w' := by
 obtain ⟨l1, h1, A, B, hvl, hvO, ha, hvn, hpw⟩ := hvt
 refine sx_enter Tryd.func42 rfl Tryd.ntmps42 (nbl rfl) ?_
 refine sx_seq fun K1 k1 => sx_region ?_
 refine av rfl rfl (wl_nil (q_n (k1 _ _ ?_)))
 refine sx_seq fun K2 k2 => ?_
 refine sx_seq fun K3 k3 => sx_region ?_
 refine av rfl rfl (wl_nil (q_n (k3 _ _ ?_)))
 refine sx_block ?_
 refine sx_loop (fun mm aa w' => ∃ (k : Nat) (xs : List Value), Agr 57 [(0, vt), (1, .int .i64 (mkEnd n (ts.take k))), (5, .int .i64 ↑k)] aa ∧ Chg lvt uvt w w' ∧ Own w' l1 h1 vt 44 ((ts).length) 5 (xs) ∧ (mm = ts.length - k) ∧ (k ≤ ts.length) ∧ (xs.length = ts.length * 5) ∧ (∀ i, k ≤ i → i < ts.length → xs[i * 5 + 3]? = some (vvt.getD i vz)) ∧ (xs.take (k * 5) = (rtCells (mkRt n ts) vvt).take (k * 5)) ∧ (∀ i, k ≤ i → i < ts.length → OwnI w' (A i) (B i) (vvt.getD i vz) intT (ts.getD i rt0).2.2.2.1) ∧ (∀ i, i < k → OwnI w' (A i) (B i) (vvt.getD i vz) intT ((mkRt n ts).getD i rt0).2.2.2.1)) (_) (fun a ha => ⟨0, rtCells ts vvt, ha.sub (Sub.c 0 rfl (.c 1 (look_int (t := 1) rfl (by first | omega | rfl | simp [mkEnd])) (.c 5 (look_int (t := 5) rfl (by first | omega | rfl | simp [mkEnd])) .nil))), Chg.refl _ _ _, hvO, rfl, by omega, rtCells_len hvl, rt_mag hvl rfl, by simp, fun i _ hi => (hvn i hi).2, fun i hi => by omega⟩) ?_
 rintro mm aa wl4 ⟨k, xs, hAwl4, cwl4, hs_vt, hm, hk, hxl, hx3, hxd, hne, hnd⟩
 refine (show cw Tryd.prog 57 _ _ _ wl4 from ?_) aa hAwl4
 clear hAwl4
 have zwl4 := cwl4.size
 refine sx_seq fun K5 k5 => ?_
 refine sx_seq fun K6 k6 => sx_region ?_
 refine mv rfl rfl (mv rfl rfl (sp rfl (px_len rfl Tryd.underlying34 hs_vt.sv) ?_))
 refine sp rfl (px_lt rfl rfl) ?_
 refine wl_nil (q_n (k6 _ _ ?_))
 refine sx_condP rfl (fun h633 => ?_) (fun h633 => ?_)
 ·
  have hzk := hzz k (by omega)
  have hap := (hvn k (by omega)).1
  have hcb := mkEnd_bd (n := n) k hzz (by omega)
  refine sx_skip ?_
  refine q_n (k5 _ _ ?_)
  refine sx_seq fun K7 k7 => ?_
  refine sx_block ?_
  refine sx_seq fun K8 k8 => sx_region ?_
  refine mv rfl rfl (mv rfl rfl (mv rfl rfl (sx_call rfl rfl Tryd.call72 (c_markText (by omega)) (fun v9 w9 p9 => ?_))))
  obtain ⟨rfl, c9⟩ := p9
  have zw9 := c9.size
  have f10 := hs_vt.ext c9
  refine sp rfl (px_indexK (j := k) rfl rfl (by omega) Tryd.underlying34 Tryd.sizeOf44 f10.sv (by omega)) ?_
  refine sp rfl (px_field rfl xfld44x0) ?_
  refine sx_storeO (j := (k * 5) + 0) rfl rfl f10 (by first | omega | (simp only [List.length_set]; omega)) Tryd.sizeOf9 rfl (fun w11 sw11 fw11 cw11 => ?_)
  have zw11 := cw11.size
  refine wl_nil (q_n (k8 _ _ ?_))
  refine sx_seq fun K12 k12 => sx_region ?_
  refine mv rfl rfl (sp rfl (px_add rfl rfl (by omega)) ?_)
  refine av rfl rfl (wl_nil (q_n (k12 _ _ ?_)))
  refine sx_sub (Sub.c 0 rfl (.c 1 rfl (.c 5 rfl .nil))) ?_
  refine sx_seq fun K13 k13 => sx_region ?_
  refine mv rfl rfl (mv rfl rfl (mv rfl rfl (sx_call rfl rfl Tryd.call72 (c_markText (by omega)) (fun v14 w14 p14 => ?_))))
  obtain ⟨rfl, c14⟩ := p14
  have zw14 := c14.size
  have f15 := fw11.ext c14
  refine sp rfl (px_indexK (j := k) rfl rfl (by omega) Tryd.underlying34 Tryd.sizeOf44 f15.sv (by omega)) ?_
  refine sp rfl (px_field rfl xfld44x1) ?_
  refine sx_storeO (j := (k * 5) + 1) rfl rfl f15 (by first | omega | (simp only [List.length_set]; omega)) Tryd.sizeOf9 rfl (fun w16 sw16 fw16 cw16 => ?_)
  have zw16 := cw16.size
  refine wl_nil (q_n (k13 _ _ ?_))
  refine sx_seq fun K17 k17 => sx_region ?_
  refine mv rfl rfl (sp rfl (px_add rfl rfl (by omega)) ?_)
  refine av rfl rfl (wl_nil (q_n (k17 _ _ ?_)))
  refine sx_seq fun K18 k18 => sx_region ?_
  refine mv rfl rfl (mv rfl rfl (mv rfl rfl (sp rfl (px_rem rfl rfl (by omega) (by omega)) ?_)))
  refine sp rfl (px_eq rfl rfl) ?_
  refine sp rfl (px_indexK (j := k) rfl rfl (by omega) Tryd.underlying34 Tryd.sizeOf44 fw16.sv (by omega)) ?_
  refine sp rfl (px_field rfl xfld44x2) ?_
  refine sp rfl (px_field rfl xfld42x0) ?_
  refine sp rfl (px_field rfl xfld40x0) ?_
  refine sx_storeO (j := (((k * 5) + 2) + 0) + 0) rfl rfl fw16 (by first | omega | (simp only [List.length_set]; omega)) Tryd.sizeOf4 rfl (fun w19 sw19 fw19 cw19 => ?_)
  have zw19 := cw19.size
  refine wl_nil (q_n (k18 _ _ ?_))
  refine sx_sub (Sub.c 0 rfl (.c 1 rfl (.c 5 rfl .nil))) ?_
  refine sx_seq fun K20 k20 => sx_region ?_
  refine mv rfl rfl (sp rfl (px_add rfl rfl (by omega)) ?_)
  refine av rfl rfl (wl_nil (q_n (k20 _ _ ?_)))
  refine sx_seq fun K21 k21 => sx_region ?_
  refine mv rfl rfl (mv rfl rfl (sp rfl (px_indexK (j := k) rfl rfl (by omega) Tryd.underlying34 Tryd.sizeOf44 fw19.sv (by omega)) ?_))
  refine sp rfl (px_field rfl xfld44x2) ?_
  refine sp rfl (px_field rfl xfld42x0) ?_
  refine sp rfl (px_field rfl xfld40x1) ?_
  refine sp rfl (px_load rfl (fw19.sv.load1 (by show _[k * 5 + 3]? = _; rw [List.getElem?_set_ne (by omega), List.getElem?_set_ne (by omega), List.getElem?_set_ne (by omega)]; exact hx3 k (Nat.le_refl _) (by omega)) Tryd.isAgg25)) ?_
  refine mv rfl rfl ?_
  have f23 := ((hne k (Nat.le_refl _) (by omega)).ext c9).chg cw11 (by omega)
  have f25 := (f23.ext c14).chg cw16 (by omega)
  have f26 := f25.chg cw19 (by omega)
  refine sx_call rfl rfl Tryd.call73 (c_markIntS f26 (hzz k (by omega)) (by omega)) (fun v27 w27 p27 => ?_)
  obtain ⟨rfl, ova_27, c27⟩ := p27
  have zw27 := c27.size
  refine av rfl rfl (wl_nil (q_n (k21 _ _ ?_)))
  refine sx_seq fun K28 k28 => sx_region ?_
  refine mv rfl rfl (mv rfl rfl (mv rfl rfl ?_))
  have f29 := fw19.chg c27 (by omega)
  refine sp rfl (px_indexK (j := k) rfl rfl (by omega) Tryd.underlying34 Tryd.sizeOf44 f29.sv (by omega)) ?_
  refine sp rfl (px_field rfl xfld44x2) ?_
  refine sp rfl (px_field rfl xfld42x1) ?_
  refine sx_storeO (j := ((k * 5) + 2) + 2) rfl rfl f29 (by first | omega | (simp only [List.length_set]; omega)) Tryd.sizeOf3 rfl (fun w30 sw30 fw30 cw30 => ?_)
  have zw30 := cw30.size
  refine wl_nil (q_n (k28 _ _ ?_))
  refine sx_sub (Sub.c 0 rfl (.c 1 rfl (.c 5 rfl .nil))) ?_
  refine sx_region ?_
  refine mv rfl rfl (sp rfl (px_add rfl rfl (by omega)) ?_)
  refine av rfl rfl (wl_nil ?_)
  refine q_bn (q_n (k7 _ _ ?_))
  refine sx_region ?_
  refine mv rfl rfl (sp rfl (px_add rfl rfl (by omega)) ?_)
  refine av rfl rfl (wl_nil ?_)
  have f31 := ova_27.chg cw30 (by omega)
  have q32 := Chg.step (l := lvt) (h := uvt) cwl4 c9 (by omega)
  have q33 := Chg.step (l := lvt) (h := uvt) q32 cw11 (by omega)
  have q34 := Chg.step (l := lvt) (h := uvt) q33 c14 (by omega)
  have q35 := Chg.step (l := lvt) (h := uvt) q34 cw16 (by omega)
  have q36 := Chg.step (l := lvt) (h := uvt) q35 cw19 (by omega)
  have q37 := Chg.step (l := lvt) (h := uvt) q36 c27 (by omega)
  have q38 := Chg.step (l := lvt) (h := uvt) q37 cw30 (by omega)
  have hnx := mkEnd_next (n := n) (ts := ts) (k := k) (by omega)
  have hyl : (rtCells (mkRt n ts) vvt).length = ts.length * 5 := by rw [rtCells_len (by rw [mkRt_len]; exact hvl), mkRt_len]
  exact fun a ha => ⟨_, by omega, (k + 1), (((((xs).set ((k * 5) + 0) (.string (mText (mkEnd n (ts.take k))))).set ((k * 5) + 1) (.string (mText ((mkEnd n (ts.take k)) + 1)))).set ((((k * 5) + 2) + 0) + 0) (.bool (decide (((((mkEnd n (ts.take k)) + 1) + 1) % 3 : Int) = 0)))).set (((k * 5) + 2) + 2) (.int .i64 (((((mkEnd n (ts.take k)) + 1) + 1) + 1) + ↑(((ts.getD k rt0).2.2.2.1)).length))), ha.sub (Sub.c 0 rfl (.c 1 (look_int (t := 1) rfl (by first | omega | rfl | simp [mkEnd])) (.c 5 (look_int (t := 5) rfl (by first | omega | rfl | simp [mkEnd])) .nil))), q38, (fw30.mono (by omega) (by omega)), rfl, by omega, by simp only [List.length_set]; exact hxl, cells_rest hx3 (fun j hj => by rw [List.getElem?_set_ne (by omega), List.getElem?_set_ne (by omega), List.getElem?_set_ne (by omega), List.getElem?_set_ne (by omega)]), marks_next hxl hyl (by omega) hxd (hx3 k (Nat.le_refl _) (by omega)) (fun q hq => by rw [rtCells_at (by rw [mkRt_len]; exact hvl) (by rw [mkRt_len]; omega) hq, mkRt_at (by omega)]; rfl), fun i hi1 hi2 => by have h0 := hne i (by omega) hi2; have b0 := (hvn i hi2).1; have p0 := hpw k i (by omega) hi2; exact (((((((h0.ext c9).chg cw11 (by omega)).ext c14).chg cw16 (by omega)).chg cw19 (by omega)).chg c27 (by omega)).chg cw30 (by omega)), fun i hi => by rcases Nat.lt_or_ge i k with h1x | h1x; (have h0 := hnd i h1x; have b0 := (hvn i (by omega)).1; have p0 := hpw i k h1x (by omega); exact (((((((h0.ext c9).chg cw11 (by omega)).ext c14).chg cw16 (by omega)).chg cw19 (by omega)).chg c27 (by omega)).chg cw30 (by omega))); (have e : i = k := by omega); rw [e, mkRt_at (by omega)]; exact f31⟩
 refine sx_exit ?_
 refine q_e (q_e (q_bx (q_n (k2 _ _ ?_))))
 refine sx_seq fun K39 k39 => sx_region ?_
 refine mv rfl rfl (av rfl rfl (wl_nil (q_n (k39 _ _ ?_))))
 refine sx_retc ?_
 refine sx_ret1 Tryd.results42 rfl ?_
 have ek : k = ts.length := by omega
 subst ek
 have hyl : (rtCells (mkRt n ts) vvt).length = ts.length * 5 := by rw [rtCells_len (by rw [mkRt_len]; exact hvl), mkRt_len]
 rw [List.take_of_length_le (by omega), List.take_of_length_le (by omega)] at hxd
 subst hxd
 exact ⟨by rw [List.take_length], ⟨l1, h1, A, B, by rw [mkRt_len]; exact hvl, by rw [mkRt_len]; exact hs_vt, ha, fun i hi => ⟨(hvn i (by rwa [mkRt_len] at hi)).1, hnd i (by rwa [mkRt_len] at hi)⟩, fun i j hij hj => hpw i j hij (by rwa [mkRt_len] at hj)⟩, cwl4⟩

theorem c_markRates {w : World} {pv : ByteArray} {vt : Value} {lvt uvt : Nat} {ts : List Rt} {vvt : List Value} {n : Int} (hvt : RtO w lvt uvt vt 44 intT ts vvt) (h63 : ts.length ≤ 1048576) (hzz : ∀ i, i < ts.length → (ts.getD i rt0).2.2.2.1.length ≤ 1048576) (hn : 0 ≤ n ∧ n ≤ 4000000000000000000) (hu : uvt ≤ w.heap.size) :
  Ret Tryd.prog 13 [.agg #[.string pv, vt], .int .i64 n] w fun v w' => ∃ ks, v = .int .i64 (n + ↑((ks : List Int)).length) ∧ (((ks : List Int)).length ≤ 1200000000000) ∧ Chg lvt uvt w w' := by
 refine sx_enter Tryd.func13 rfl Tryd.ntmps13 (nbl rfl) ?_
 refine sx_seq fun K1 k1 => sx_region ?_
 refine sx_box [.string pv, vt] rfl rfl rfl (fun b2 w3 eb2 sb2 fb2 cb2 => ?_)
 have zw3 := cb2.size
 refine av rfl rfl (wl_nil (q_n (k1 _ _ ?_)))
 refine sx_seq fun K4 k4 => sx_region ?_
 refine sp rfl (px_field rfl xfld36x1) ?_
 refine sp rfl (px_load rfl (fb2.load1 rfl Tryd.isAgg34)) ?_
 refine mv rfl rfl ?_
 have f5 := hvt.ext cb2
 refine sx_call rfl rfl Tryd.call42 (c_markRateS f5 (by omega) (by assumption) (by omega) (by omega)) (fun v6 w6 p6 => ?_)
 obtain ⟨ks6, rfl, hk6, c6⟩ := p6
 have zw6 := c6.size
 refine av rfl rfl (wl_nil (q_n (k4 _ _ ?_)))
 refine sx_seq fun K7 k7 => sx_region ?_
 refine mv rfl rfl (av rfl rfl (wl_nil (q_n (k7 _ _ ?_))))
 refine sx_retc ?_
 refine sx_ret1 Tryd.results13 rfl ?_
 have q8 := Chg.step (l := lvt) (h := uvt) (Chg.zero (l := lvt) (h := uvt) cb2) c6 (by omega)
 exact ⟨_, rfl, by omega, q8⟩

theorem c_markRatesG {w : World} {pv : ByteArray} {vt : Value} {lvt uvt : Nat} {ts : List Rt} {vvt : List Value} {n : Int} (hvt : RtG w lvt uvt vt 44 intT ts vvt) (h63 : ts.length ≤ 1048576) (hzz : ∀ i, i < ts.length → (ts.getD i rt0).2.2.2.1.length ≤ 1048576) (hn : 0 ≤ n ∧ n ≤ 4000000000000000000) (hu : uvt ≤ w.heap.size) :
  Ret Tryd.prog 13 [.agg #[.string pv, vt], .int .i64 n] w fun v w' => v = .int .i64 (mkEnd n ts) ∧ RtG w' (lvt) (uvt) vt 44 intT (mkRt n ts) vvt ∧ Chg lvt uvt w w' := by
 refine sx_enter Tryd.func13 rfl Tryd.ntmps13 (nbl rfl) ?_
 refine sx_seq fun K1 k1 => sx_region ?_
 refine sx_box [.string pv, vt] rfl rfl rfl (fun b2 w3 eb2 sb2 fb2 cb2 => ?_)
 have zw3 := cb2.size
 refine av rfl rfl (wl_nil (q_n (k1 _ _ ?_)))
 refine sx_seq fun K4 k4 => sx_region ?_
 refine sp rfl (px_field rfl xfld36x1) ?_
 refine sp rfl (px_load rfl (fb2.load1 rfl Tryd.isAgg34)) ?_
 refine mv rfl rfl ?_
 have f5 := hvt.ext cb2
 refine sx_call rfl rfl Tryd.call42 (c_markRateSG f5 (by omega) (by assumption) (by omega) (by omega)) (fun v6 w6 p6 => ?_)
 obtain ⟨rfl, ovt_6, c6⟩ := p6
 have zw6 := c6.size
 refine av rfl rfl (wl_nil (q_n (k4 _ _ ?_)))
 refine sx_seq fun K7 k7 => sx_region ?_
 refine mv rfl rfl (av rfl rfl (wl_nil (q_n (k7 _ _ ?_))))
 refine sx_retc ?_
 refine sx_ret1 Tryd.results13 rfl ?_
 have q8 := Chg.step (l := lvt) (h := uvt) (Chg.zero (l := lvt) (h := uvt) cb2) c6 (by omega)
 exact ⟨rfl, ovt_6, q8⟩

theorem c_markSigned {w : World} {n1 : Bool} {v1 : Value} {lv1 uv1 : Nat} {z1 : List Int} {n : Int} (hv1 : OwnI w lv1 uv1 v1 intT (z1)) (h63 : z1.length ≤ 1048576) (hn : 0 ≤ n ∧ n ≤ 4611686018427387904) :
  Ret Tryd.prog 74 [.agg #[.bool n1, v1], .int .i64 n] w fun v w' => v = .int .i64 (n + ↑(z1).length) ∧ OwnI w' (lv1) (uv1) v1 intT (mk n (z1).length) ∧ Chg lv1 uv1 w w' := by
 refine sx_enter Tryd.func74 rfl Tryd.ntmps74 (nbl rfl) ?_
 refine sx_seq fun K1 k1 => sx_region ?_
 refine sx_box [.bool n1, v1] rfl rfl rfl (fun b2 w3 eb2 sb2 fb2 cb2 => ?_)
 have zw3 := cb2.size
 refine av rfl rfl (wl_nil (q_n (k1 _ _ ?_)))
 refine sx_seq fun K4 k4 => sx_region ?_
 refine sp rfl (px_field rfl xfld40x1) ?_
 refine sp rfl (px_load rfl (fb2.load1 rfl Tryd.isAgg25)) ?_
 refine mv rfl rfl ?_
 have f5 := hv1.ext cb2
 refine sx_call rfl rfl Tryd.call73 (c_markIntS f5 (by omega) (by omega)) (fun v6 w6 p6 => ?_)
 obtain ⟨rfl, ova_6, c6⟩ := p6
 have zw6 := c6.size
 refine av rfl rfl (wl_nil (q_n (k4 _ _ ?_)))
 refine sx_seq fun K7 k7 => sx_region ?_
 refine mv rfl rfl (av rfl rfl (wl_nil (q_n (k7 _ _ ?_))))
 refine sx_retc ?_
 refine sx_ret1 Tryd.results74 rfl ?_
 have q8 := Chg.step (l := lv1) (h := uv1) (Chg.zero (l := lv1) (h := uv1) cb2) c6 (by omega)
 exact ⟨rfl, ova_6, q8⟩

theorem c_markDec {w : World} {n1 : Bool} {v1 : Value} {lv1 uv1 : Nat} {z1 : List Int} {p1 : Int} {n : Int} (hv1 : OwnI w lv1 uv1 v1 intT (z1)) (h63 : z1.length ≤ 1048576) (hn : 0 ≤ n ∧ n ≤ 4611686018427387904) :
  Ret Tryd.prog 43 [.agg #[.bool n1, v1, .int .i64 p1], .int .i64 n] w fun v w' => v = .int .i64 (n + ↑(z1).length) ∧ OwnI w' (lv1) (uv1) v1 intT (mk n (z1).length) ∧ Chg lv1 uv1 w w' := by
 refine sx_enter Tryd.func43 rfl Tryd.ntmps43 (nbl rfl) ?_
 refine sx_seq fun K1 k1 => sx_region ?_
 refine sx_box [.bool n1, v1, .int .i64 p1] rfl rfl rfl (fun b2 w3 eb2 sb2 fb2 cb2 => ?_)
 have zw3 := cb2.size
 refine av rfl rfl (wl_nil (q_n (k1 _ _ ?_)))
 refine sx_seq fun K4 k4 => sx_region ?_
 refine sp rfl (px_field rfl xfld42x0) ?_
 refine sp rfl (px_load rfl (fb2.loadA (vs := [.bool n1, v1]) (look_lit rfl) Tryd.isAgg40 Tryd.sizeOf40)) ?_
 refine mv rfl rfl ?_
 have f5 := hv1.ext cb2
 refine sx_call rfl rfl Tryd.call74 (c_markSigned f5 (by omega) (by omega)) (fun v6 w6 p6 => ?_)
 obtain ⟨rfl, ov1_6, c6⟩ := p6
 have zw6 := c6.size
 refine av rfl rfl (wl_nil (q_n (k4 _ _ ?_)))
 refine sx_seq fun K7 k7 => sx_region ?_
 refine mv rfl rfl (av rfl rfl (wl_nil (q_n (k7 _ _ ?_))))
 refine sx_retc ?_
 refine sx_ret1 Tryd.results43 rfl ?_
 have q8 := Chg.step (l := lv1) (h := uv1) (Chg.zero (l := lv1) (h := uv1) cb2) c6 (by omega)
 exact ⟨rfl, ov1_6, q8⟩

theorem c_markRate {w : World} {f1 : ByteArray} {t1 : ByteArray} {n1 : Bool} {v1 : Value} {lv1 uv1 : Nat} {z1 : List Int} {p1 : Int} {n : Int} (hv1 : OwnI w lv1 uv1 v1 intT (z1)) (h63 : z1.length ≤ 1048576) (hn : 0 ≤ n ∧ n ≤ 4000000000000000000) :
  Ret Tryd.prog 14 [.agg #[.string f1, .string t1, .bool n1, v1, .int .i64 p1], .int .i64 n] w fun v w' => v = .int .i64 (n + ↑(z1).length) ∧ OwnI w' (lv1) (uv1) v1 intT (mk n (z1).length) ∧ Chg lv1 uv1 w w' := by
 refine sx_enter Tryd.func14 rfl Tryd.ntmps14 (nbl rfl) ?_
 refine sx_seq fun K1 k1 => sx_region ?_
 refine sx_box [.string f1, .string t1, .bool n1, v1, .int .i64 p1] rfl rfl rfl (fun b2 w3 eb2 sb2 fb2 cb2 => ?_)
 have zw3 := cb2.size
 refine av rfl rfl (wl_nil (q_n (k1 _ _ ?_)))
 refine sx_seq fun K4 k4 => sx_region ?_
 refine sp rfl (px_field rfl xfld44x2) ?_
 refine sp rfl (px_load rfl (fb2.loadA (vs := [.bool n1, v1, .int .i64 p1]) (look_lit rfl) Tryd.isAgg42 Tryd.sizeOf42)) ?_
 refine mv rfl rfl ?_
 have f5 := hv1.ext cb2
 refine sx_call rfl rfl Tryd.call43 (c_markDec f5 (by omega) (by omega)) (fun v6 w6 p6 => ?_)
 obtain ⟨rfl, ov1_6, c6⟩ := p6
 have zw6 := c6.size
 refine av rfl rfl (wl_nil (q_n (k4 _ _ ?_)))
 refine sx_seq fun K7 k7 => sx_region ?_
 refine mv rfl rfl (av rfl rfl (wl_nil (q_n (k7 _ _ ?_))))
 refine sx_retc ?_
 refine sx_ret1 Tryd.results14 rfl ?_
 have q8 := Chg.step (l := lv1) (h := uv1) (Chg.zero (l := lv1) (h := uv1) cb2) c6 (by omega)
 exact ⟨rfl, ov1_6, q8⟩

theorem c_heldRateSG {w : World} {vt : Value} {lvt uvt : Nat} {ts : List Rt} {vvt : List Value} {n : Int} (hvt : RtS w lvt uvt vt ts vvt) (h63 : ts.length ≤ 1048576) (hzz : ∀ i, i < ts.length → (ts.getD i rt0).2.2.2.1.length ≤ 1048576) (hn : 0 ≤ n ∧ n ≤ 4000000000000000000) (hz : mkRt n ts = ts) :
  Ret Tryd.prog 44 [vt, .int .i64 n] w fun v w' => v = .int .i64 (mkEnd n ts) ∧ Chg 0 0 w w' := by
 have hvt0 := hvt.fit
 refine sx_enter Tryd.func44 rfl Tryd.ntmps44 (nbl rfl) ?_
 refine sx_seq fun K1 k1 => sx_region ?_
 refine av rfl rfl (wl_nil (q_n (k1 _ _ ?_)))
 refine sx_seq fun K2 k2 => ?_
 refine sx_seq fun K3 k3 => sx_region ?_
 refine av rfl rfl (wl_nil (q_n (k3 _ _ ?_)))
 refine sx_block ?_
 refine sx_loop (fun mm aa w' => ∃ (k : Nat), Agr 67 [(0, vt), (1, .int .i64 (mkEnd n (ts.take k))), (5, .int .i64 ↑k)] aa ∧ Chg 0 0 w w' ∧ (mm = ts.length - k) ∧ (k ≤ ts.length)) (_) (fun a ha => ⟨0, ha.sub (Sub.c 0 rfl (.c 1 (look_int (t := 1) rfl (by first | omega | rfl | simp [mkEnd])) (.c 5 (look_int (t := 5) rfl (by first | omega | rfl | simp [mkEnd])) .nil))), Chg.refl _ _ _, rfl, by omega⟩) ?_
 rintro mm aa wl4 ⟨k, hAwl4, cwl4, hm, hk⟩
 refine (show cw Tryd.prog 67 _ _ _ wl4 from ?_) aa hAwl4
 clear hAwl4
 have zwl4 := cwl4.size
 refine sx_seq fun K5 k5 => ?_
 refine sx_seq fun K6 k6 => sx_region ?_
 refine mv rfl rfl (mv rfl rfl ?_)
 have f7 := hvt0.ext cwl4
 refine sp rfl (px_len rfl Tryd.underlying34 f7.sv) ?_
 refine sp rfl (px_lt rfl rfl) ?_
 refine wl_nil (q_n (k6 _ _ ?_))
 refine sx_condP rfl (fun h648 => ?_) (fun h648 => ?_)
 ·
  have hp := mkEnd_pref hz (k := k) (by omega)
  have hcb := mkEnd_bd (n := n) k hzz (by omega)
  have hzk := hzz k (by omega)
  have hnx := mkEnd_next (n := n) (ts := ts) (k := k) (by omega)
  refine sx_skip ?_
  refine q_n (k5 _ _ ?_)
  refine sx_seq fun K8 k8 => ?_
  refine sx_block ?_
  refine sx_seq fun K9 k9 => ?_
  refine sx_seq fun K10 k10 => ?_
  refine dx_region (fun w' => Chg 0 0 wl4 w') (by kernel_rfl) (Chg.zero (Chg.drew _)) ?_
  have d11 := Chg.drew wl4
  have s11 : Chg 0 0 wl4 (World.drew wl4) := Chg.zero (Chg.drew _)
  have y11 : (World.drew wl4).heap.size = wl4.heap.size := rfl
  generalize World.drew wl4 = w11 at *
  have zw11 := d11.size
  refine dt 0 rfl rfl rfl rfl s11 (fun _ hS => px_move rfl) ?_
  refine dt 1 rfl rfl rfl rfl s11 (fun _ hS => px_move rfl) ?_
  refine dt 2 rfl rfl rfl rfl s11 (fun _ hS => px_indexK (j := k) rfl rfl (by omega) Tryd.underlying34 Tryd.sizeOf44 ((f7.sv).chg hS (by omega)) (by omega)) ?_
  refine dt 3 rfl rfl rfl rfl s11 (fun _ hS => px_field rfl xfld44x0) ?_
  refine dt 4 rfl rfl rfl rfl s11 (fun _ hS => px_load rfl (((f7.sv).chg hS (by omega)).load1 (rt_look1 (q := 0) f7.len (by omega) rfl) Tryd.isAgg9)) ?_
  refine dt 5 rfl rfl rfl rfl s11 (fun _ hS => px_move rfl) ?_
  refine dx_eff 6 rfl (by kernel_rfl) ?_
  refine sx_call rfl rfl Tryd.call72 (c_markText (by omega)) (fun v12 w12 p12 => ?_)
  obtain ⟨rfl, c12⟩ := p12
  have zw12 := c12.size
  have s13 : Chg 0 0 wl4 w12 := (d11.t c12)
  refine wl_nil ?_
  refine dx_next s13 ?_
  refine dt 7 rfl rfl rfl rfl s13 (fun _ hS => px_neS rfl rfl) ?_
  refine dx_done (by kernel_rfl) ?_
  refine q_n (k10 _ _ ?_)
  refine sx_sub (Sub.c 0 rfl (.c 1 rfl (.c 5 rfl (.c 19 rfl .nil)))) ?_
  have h649 : ¬ ((ts.getD k rt0).1 ≠ mText (mkEnd n (ts.take k))) := fun h => h (congrArg (·.1) hp)
  refine sx_condPF rfl h649 ?_
  refine sx_skip ?_
  refine q_n (k9 _ _ ?_)
  refine sx_seq fun K14 k14 => sx_region ?_
  refine mv rfl rfl (sp rfl (px_add rfl rfl (by omega)) ?_)
  refine av rfl rfl (wl_nil (q_n (k14 _ _ ?_)))
  refine sx_seq fun K15 k15 => ?_
  refine sx_seq fun K16 k16 => ?_
  have f18 := (f7.ext d11).ext c12
  have f20 := ((f7.nest k (by omega)).ext d11).ext c12
  refine dx_region (fun w' => Chg 0 0 w12 w') (by kernel_rfl) (Chg.zero (Chg.drew _)) ?_
  have d21 := Chg.drew w12
  have s21 : Chg 0 0 w12 (World.drew w12) := Chg.zero (Chg.drew _)
  have y21 : (World.drew w12).heap.size = w12.heap.size := rfl
  generalize World.drew w12 = w21 at *
  have zw21 := d21.size
  refine dt 0 rfl rfl rfl rfl s21 (fun _ hS => px_move rfl) ?_
  refine dt 1 rfl rfl rfl rfl s21 (fun _ hS => px_move rfl) ?_
  refine dt 2 rfl rfl rfl rfl s21 (fun _ hS => px_indexK (j := k) rfl rfl (by omega) Tryd.underlying34 Tryd.sizeOf44 ((f18.sv).chg hS (by omega)) (by omega)) ?_
  refine dt 3 rfl rfl rfl rfl s21 (fun _ hS => px_field rfl xfld44x1) ?_
  refine dt 4 rfl rfl rfl rfl s21 (fun _ hS => px_load rfl (((f18.sv).chg hS (by omega)).load1 (rt_look1 (q := 1) f18.len (by omega) rfl) Tryd.isAgg9)) ?_
  refine dt 5 rfl rfl rfl rfl s21 (fun _ hS => px_move rfl) ?_
  refine dx_eff 6 rfl (by kernel_rfl) ?_
  refine sx_call rfl rfl Tryd.call72 (c_markText (by omega)) (fun v22 w22 p22 => ?_)
  obtain ⟨rfl, c22⟩ := p22
  have zw22 := c22.size
  have s23 : Chg 0 0 w12 w22 := (d21.t c22)
  refine wl_nil ?_
  refine dx_next s23 ?_
  refine dt 7 rfl rfl rfl rfl s23 (fun _ hS => px_neS rfl rfl) ?_
  refine dx_done (by kernel_rfl) ?_
  refine q_n (k16 _ _ ?_)
  have h653 : ¬ ((ts.getD k rt0).2.1 ≠ mText ((mkEnd n (ts.take k)) + 1)) := fun h => h (congrArg (·.2.1) hp)
  refine sx_condPF rfl h653 ?_
  refine sx_skip ?_
  refine q_n (k15 _ _ ?_)
  refine sx_seq fun K24 k24 => sx_region ?_
  refine mv rfl rfl (sp rfl (px_add rfl rfl (by omega)) ?_)
  refine av rfl rfl (wl_nil (q_n (k24 _ _ ?_)))
  refine sx_sub (Sub.c 0 rfl (.c 1 rfl (.c 5 rfl .nil))) ?_
  refine sx_seq fun K25 k25 => ?_
  refine sx_seq fun K26 k26 => sx_region ?_
  refine mv rfl rfl (mv rfl rfl ?_)
  have f28 := (f18.ext d21).ext c22
  refine sp rfl (px_indexK (j := k) rfl rfl (by omega) Tryd.underlying34 Tryd.sizeOf44 f28.sv (by omega)) ?_
  refine sp rfl (px_field rfl xfld44x2) ?_
  refine sp rfl (px_field rfl xfld42x0) ?_
  refine sp rfl (px_field rfl xfld40x0) ?_
  refine sp rfl (px_load rfl (f28.sv.load1 (rt_look1 (q := 2) f28.len (by omega) rfl) Tryd.isAgg4)) ?_
  refine mv rfl rfl (sp rfl (px_rem rfl rfl (by omega) (by omega)) ?_)
  refine sp rfl (px_eq rfl rfl) ?_
  refine sp rfl (px_neB Tryd.underlying4 rfl rfl) ?_
  refine wl_nil (q_n (k26 _ _ ?_))
  have h657 : (((ts.getD k rt0).2.2.1) != (decide (((((mkEnd n (ts.take k)) + 1) + 1) % 3 : Int) = 0))) = false := bne_same (congrArg (·.2.2.1) hp)
  refine sx_condBF rfl h657 ?_
  refine sx_skip ?_
  refine q_n (k25 _ _ ?_)
  refine sx_seq fun K29 k29 => sx_region ?_
  refine mv rfl rfl (sp rfl (px_add rfl rfl (by omega)) ?_)
  refine av rfl rfl (wl_nil (q_n (k29 _ _ ?_)))
  refine sx_sub (Sub.c 0 rfl (.c 1 rfl (.c 5 rfl .nil))) ?_
  refine sx_seq fun K30 k30 => sx_region ?_
  refine mv rfl rfl (mv rfl rfl (sp rfl (px_indexK (j := k) rfl rfl (by omega) Tryd.underlying34 Tryd.sizeOf44 f28.sv (by omega)) ?_))
  refine sp rfl (px_field rfl xfld44x2) ?_
  refine sp rfl (px_field rfl xfld42x0) ?_
  refine sp rfl (px_field rfl xfld40x1) ?_
  refine sp rfl (px_load rfl (f28.sv.load1 (rt_look1 (q := 3) f28.len (by omega) rfl) Tryd.isAgg25)) ?_
  refine mv rfl rfl (sx_call rfl rfl Tryd.call75 (c_heldIntS (f28.nest k (by omega)) (hzz k (by omega)) (by omega) (congrArg (·.2.2.2.1) hp)) (fun v31 w31 p31 => ?_))
  obtain ⟨rfl, c31⟩ := p31
  have zw31 := c31.size
  refine av rfl rfl (wl_nil (q_n (k30 _ _ ?_)))
  refine sx_seq fun K32 k32 => ?_
  refine sx_seq fun K33 k33 => sx_region ?_
  refine mv rfl rfl (sp rfl (px_lt rfl rfl) ?_)
  refine wl_nil (q_n (k33 _ _ ?_))
  have h662 : ¬ ((((((mkEnd n (ts.take k)) + 1) + 1) + 1) + ↑(((ts.getD k rt0).2.2.2.1)).length : Int) < 0) := by omega
  refine sx_condPF rfl h662 ?_
  refine sx_skip ?_
  refine q_n (k32 _ _ ?_)
  refine sx_seq fun K34 k34 => ?_
  refine sx_seq fun K35 k35 => sx_region ?_
  refine mv rfl rfl (mv rfl rfl ?_)
  have f36 := f28.ext c31
  refine sp rfl (px_indexK (j := k) rfl rfl (by omega) Tryd.underlying34 Tryd.sizeOf44 f36.sv (by omega)) ?_
  refine sp rfl (px_field rfl xfld44x2) ?_
  refine sp rfl (px_field rfl xfld42x1) ?_
  refine sp rfl (px_load rfl (f36.sv.load1 (rt_look1 (q := 4) f36.len (by omega) rfl) Tryd.isAgg3)) ?_
  refine mv rfl rfl (sp rfl (px_ne rfl rfl) ?_)
  refine wl_nil (q_n (k35 _ _ ?_))
  refine sx_sub (Sub.c 0 rfl (.c 1 rfl (.c 5 rfl (.c 63 rfl .nil)))) ?_
  have h665 : ¬ (((ts.getD k rt0).2.2.2.2 : Int) ≠ ((((mkEnd n (ts.take k)) + 1) + 1) + 1) + ↑(((ts.getD k rt0).2.2.2.1)).length) := fun h => h (congrArg (·.2.2.2.2) hp)
  refine sx_condPF rfl h665 ?_
  refine sx_skip ?_
  refine q_n (k34 _ _ ?_)
  refine sx_region ?_
  refine mv rfl rfl (sp rfl (px_add rfl rfl (by omega)) ?_)
  refine av rfl rfl (wl_nil ?_)
  refine q_bn (q_n (k8 _ _ ?_))
  refine sx_region ?_
  refine mv rfl rfl (sp rfl (px_add rfl rfl (by omega)) ?_)
  refine av rfl rfl (wl_nil ?_)
  exact fun a ha => ⟨_, by omega, (k + 1), ha.sub (Sub.c 0 rfl (.c 1 (look_int (t := 1) rfl (by first | omega | rfl | simp [mkEnd])) (.c 5 (look_int (t := 5) rfl (by first | omega | rfl | simp [mkEnd])) .nil))), (((((cwl4.t d11).t c12).t d21).t c22).t c31), rfl, by omega⟩
 refine sx_exit ?_
 refine q_e (q_e (q_bx (q_n (k2 _ _ ?_))))
 refine sx_seq fun K37 k37 => sx_region ?_
 refine mv rfl rfl (av rfl rfl (wl_nil (q_n (k37 _ _ ?_))))
 refine sx_retc ?_
 refine sx_ret1 Tryd.results44 rfl ?_
 have ek : k = ts.length := by omega
 subst ek
 exact ⟨by rw [List.take_length], cwl4⟩

theorem c_heldRatesG {w : World} {pv : ByteArray} {vt : Value} {lvt uvt : Nat} {ts : List Rt} {vvt : List Value} {n : Int} (hvt : RtS w lvt uvt vt ts vvt) (h63 : ts.length ≤ 1048576) (hzz : ∀ i, i < ts.length → (ts.getD i rt0).2.2.2.1.length ≤ 1048576) (hn : 0 ≤ n ∧ n ≤ 4000000000000000000) (hz : mkRt n ts = ts) :
  Ret Tryd.prog 15 [.agg #[.string pv, vt], .int .i64 n] w fun v w' => v = .int .i64 (mkEnd n ts) ∧ Chg 0 0 w w' := by
 have hvt0 := hvt.fit
 have hcb := mkEnd_bd (n := n) ts.length hzz (Nat.le_refl _)
 rw [List.take_length] at hcb
 refine sx_enter Tryd.func15 rfl Tryd.ntmps15 (nbl rfl) ?_
 refine sx_seq fun K1 k1 => sx_region ?_
 refine sx_box [.string pv, vt] rfl rfl rfl (fun b2 w3 eb2 sb2 fb2 cb2 => ?_)
 have zw3 := cb2.size
 refine av rfl rfl (wl_nil (q_n (k1 _ _ ?_)))
 refine sx_seq fun K4 k4 => sx_region ?_
 refine sp rfl (px_field rfl xfld36x1) ?_
 refine sp rfl (px_load rfl (fb2.load1 rfl Tryd.isAgg34)) ?_
 refine mv rfl rfl ?_
 have f5 := hvt0.ext cb2
 refine sx_call rfl rfl Tryd.call44 (c_heldRateSG f5 (by omega) (by assumption) (by omega) (by first | assumption | exact mkRt_idem _ _)) (fun v6 w6 p6 => ?_)
 obtain ⟨rfl, c6⟩ := p6
 have zw6 := c6.size
 refine av rfl rfl (wl_nil (q_n (k4 _ _ ?_)))
 refine sx_seq fun K7 k7 => ?_
 refine sx_seq fun K8 k8 => sx_region ?_
 refine mv rfl rfl (sp rfl (px_lt rfl rfl) ?_)
 refine wl_nil (q_n (k8 _ _ ?_))
 have h680 : ¬ ((mkEnd n ts : Int) < 0) := by omega
 refine sx_condPF rfl h680 ?_
 refine sx_skip ?_
 refine q_n (k7 _ _ ?_)
 refine sx_seq fun K9 k9 => sx_region ?_
 refine mv rfl rfl (av rfl rfl (wl_nil (q_n (k9 _ _ ?_))))
 refine sx_retc ?_
 refine sx_ret1 Tryd.results15 rfl ?_
 exact ⟨rfl, (cb2.t c6)⟩

end Go.Proofs.YtlnemcbdbehehaaDoor
