/- Contracts of functions of the program: what each call returns, and that it changes nothing that was. Conditions: as each says. -/
import Derived.Test.YtcghgfmickgnkaaGreatDoorTy
import Derived.Test.YtcghgfmickgnkaaGreatDoorNatN
import Derived.Test.YtcghgfmickgnkaaGreatDoorSxD
import Derived.Test.YtcghgfmickgnkaaGreatDoorPair
import Derived.Test.YtcghgfmickgnkaaGreatDoorRm
import Derived.Test.YtcghgfmickgnkaaGreatDoorK0
import Derived.Test.YtcghgfmickgnkaaGreatDoorK1
import Derived.Test.YtcghgfmickgnkaaGreatDoorK2
import Derived.Test.YtcghgfmickgnkaaGreatDoorK3
set_option linter.unusedVariables false
set_option linter.unusedSimpArgs false
namespace Go.Proofs.YtcghgfmickgnkaaGreatDoor
open Go Go.RowKit
set_option maxRecDepth 100000
theorem c_markRateS {w : World} {vt : Value} {lvt uvt : Nat} {ts : List Rt} {vvt : List Value} {n : Int} (hvt : RtO w lvt uvt vt 99 intT ts vvt) (h63 : ts.length ≤ 1048576) (hzz : ∀ i, i < ts.length → (ts.getD i rt0).2.2.2.1.length ≤ 1048576) (hn : 0 ≤ n ∧ n ≤ 4000000000000000000) (hu : uvt ≤ w.heap.size) :
  Ret Tryz.prog 44 [vt, .int .i64 n] w fun v w' => ∃ ks, v = .int .i64 (n + ↑((ks : List Int)).length) ∧ (((ks : List Int)).length ≤ 1200000000000) ∧ Chg lvt uvt w w' := by
 obtain ⟨l1, h1, r, hvl, hvO, ha1, ha2, ha3, ha4, hvn⟩ := hvt
 refine sx_enter Tryz.func44 rfl Tryz.ntmps44 (Nat.le_of_ble_eq_true rfl) ?_
 refine sx_seq fun K1 k1 => sx_region ?_
 refine sa rfl rfl rfl rfl ?_
 refine wl_nil (q_n (k1 _ _ ?_))
 refine sx_seq fun K2 k2 => ?_
 refine sx_seq fun K3 k3 => sx_region ?_
 refine sa rfl rfl rfl rfl ?_
 refine wl_nil (q_n (k3 _ _ ?_))
 refine sx_block ?_
 refine sx_loop (fun mm aa w' => ∃ (k : Nat) (xs : List Value) (ks : List Int), Agr 57 [(0, vt), (1, .int .i64 (n + ↑ks.length)), (5, .int .i64 ↑k)] aa ∧ Chg lvt uvt w w' ∧ Own w' l1 h1 vt 99 ((ts).length) 5 (xs) ∧ (mm = ts.length - k) ∧ (k ≤ ts.length) ∧ (xs.length = ts.length * 5) ∧ (∀ i, k ≤ i → i < ts.length → xs[i * 5 + 3]? = some (vvt.getD i vz)) ∧ (∀ i, k ≤ i → i < ts.length → OwnI w' (r i) (r (i + 1)) (vvt.getD i vz) intT (ts.getD i rt0).2.2.2.1) ∧ (ks.length ≤ k * 1048580) ∧ (h1 ≤ r k)) (_) (fun a ha => ⟨0, rtCells ts vvt, [], ha.sub (Sub.cons (t := 0) rfl (.cons (t := 1) (look_int (t := 1) rfl (by first | omega | (simp only [List.length_append, List.length_replicate]; omega) | simp)) (.cons (t := 5) (look_int (t := 5) rfl (by first | omega | (simp only [List.length_append, List.length_replicate]; omega) | simp)) (.nil)))), Chg.refl _ _ _, hvO, rfl, by omega, rtCells_len hvl, rt_mag hvl rfl, fun i _ hi => hvn i hi, by simp, by omega⟩) ?_
 rintro mm aa wl4 ⟨k, xs, ks, hAwl4, cwl4, hs_vt, hm, hk, hxl, hx3, hne, hks, hrk⟩
 refine (show cw Tryz.prog 57 _ _ _ wl4 from ?_) aa hAwl4
 clear hAwl4
 have zwl4 := cwl4.size
 refine sx_seq fun K5 k5 => ?_
 refine sx_seq fun K6 k6 => sx_region ?_
 refine sm rfl rfl rfl rfl ?_
 refine sm rfl rfl rfl rfl ?_
 refine sx_pure rfl rfl rfl (px_len rfl Tryz.underlying33 hs_vt.sv) ?_
 refine sx_pure rfl rfl rfl (px_lt rfl rfl) ?_
 refine wl_nil (q_n (k6 _ _ ?_))
 refine sx_condP rfl (fun h633 => ?_) (fun h633 => ?_)
 ·
  have hzk := hzz k (by omega)
  have hlh : l1 ≤ h1 := by rcases hvO.2 with ⟨h5, _⟩ | ⟨b5, cap5, sp5, _, h5, h6, _⟩ <;> omega
  have hrk1 := ha3 k (by omega)
  have hru := mono_le ha3 (show k + 1 ≤ ts.length by omega) (Nat.le_refl _)
  refine sx_skip ?_
  refine q_n (k5 _ _ ?_)
  refine sx_seq fun K7 k7 => ?_
  refine sx_block ?_
  refine sx_seq fun K8 k8 => sx_region ?_
  refine sm rfl rfl rfl rfl ?_
  refine sm rfl rfl rfl rfl ?_
  refine sm rfl rfl rfl rfl ?_
  refine sx_call rfl rfl Tryz.call87 (c_markText (by omega)) (fun v9 w9 p9 => ?_)
  obtain ⟨s9, rfl, c9⟩ := p9
  have zw9 := c9.size
  have f10 := hs_vt.ext c9
  refine sx_pure rfl rfl rfl (px_indexK (j := k) rfl rfl (by omega) Tryz.underlying33 Tryz.sizeOf99 f10.sv (by omega)) ?_
  refine sx_pure rfl rfl rfl (px_field rfl xfld99x0) ?_
  refine sx_storeO (j := (k * 5) + 0) rfl rfl f10 (by first | omega | (simp only [List.length_set]; omega)) Tryz.sizeOf9 rfl (fun w11 sw11 fw11 cw11 => ?_)
  have zw11 := cw11.size
  refine wl_nil (q_n (k8 _ _ ?_))
  refine sx_seq fun K12 k12 => sx_region ?_
  refine sm rfl rfl rfl rfl ?_
  refine sx_pure rfl rfl rfl (px_add rfl rfl (by omega)) ?_
  refine sa rfl rfl rfl rfl ?_
  refine wl_nil (q_n (k12 _ _ ?_))
  refine sx_sub (Sub.cons (t := 0) rfl (.cons (t := 1) rfl (.cons (t := 5) rfl (.nil)))) ?_
  refine sx_seq fun K13 k13 => sx_region ?_
  refine sm rfl rfl rfl rfl ?_
  refine sm rfl rfl rfl rfl ?_
  refine sm rfl rfl rfl rfl ?_
  refine sx_call rfl rfl Tryz.call87 (c_markText (by omega)) (fun v14 w14 p14 => ?_)
  obtain ⟨s14, rfl, c14⟩ := p14
  have zw14 := c14.size
  have f15 := fw11.ext c14
  refine sx_pure rfl rfl rfl (px_indexK (j := k) rfl rfl (by omega) Tryz.underlying33 Tryz.sizeOf99 f15.sv (by omega)) ?_
  refine sx_pure rfl rfl rfl (px_field rfl xfld99x1) ?_
  refine sx_storeO (j := (k * 5) + 1) rfl rfl f15 (by first | omega | (simp only [List.length_set]; omega)) Tryz.sizeOf9 rfl (fun w16 sw16 fw16 cw16 => ?_)
  have zw16 := cw16.size
  refine wl_nil (q_n (k13 _ _ ?_))
  refine sx_seq fun K17 k17 => sx_region ?_
  refine sm rfl rfl rfl rfl ?_
  refine sx_pure rfl rfl rfl (px_add rfl rfl (by omega)) ?_
  refine sa rfl rfl rfl rfl ?_
  refine wl_nil (q_n (k17 _ _ ?_))
  refine sx_seq fun K18 k18 => sx_region ?_
  refine sm rfl rfl rfl rfl ?_
  refine sm rfl rfl rfl rfl ?_
  refine sm rfl rfl rfl rfl ?_
  refine sx_pure rfl rfl rfl (px_rem rfl rfl (by omega) (by omega)) ?_
  refine sx_pure rfl rfl rfl (px_eq rfl rfl) ?_
  refine sx_pure rfl rfl rfl (px_indexK (j := k) rfl rfl (by omega) Tryz.underlying33 Tryz.sizeOf99 fw16.sv (by omega)) ?_
  refine sx_pure rfl rfl rfl (px_field rfl xfld99x2) ?_
  refine sx_pure rfl rfl rfl (px_field rfl xfld63x0) ?_
  refine sx_pure rfl rfl rfl (px_field rfl xfld28x0) ?_
  refine sx_storeO (j := (((k * 5) + 2) + 0) + 0) rfl rfl fw16 (by first | omega | (simp only [List.length_set]; omega)) Tryz.sizeOf4 rfl (fun w19 sw19 fw19 cw19 => ?_)
  have zw19 := cw19.size
  refine wl_nil (q_n (k18 _ _ ?_))
  refine sx_sub (Sub.cons (t := 0) rfl (.cons (t := 1) rfl (.cons (t := 5) rfl (.nil)))) ?_
  refine sx_seq fun K20 k20 => sx_region ?_
  refine sm rfl rfl rfl rfl ?_
  refine sx_pure rfl rfl rfl (px_add rfl rfl (by omega)) ?_
  refine sa rfl rfl rfl rfl ?_
  refine wl_nil (q_n (k20 _ _ ?_))
  refine sx_seq fun K21 k21 => sx_region ?_
  refine sm rfl rfl rfl rfl ?_
  refine sm rfl rfl rfl rfl ?_
  refine sx_pure rfl rfl rfl (px_indexK (j := k) rfl rfl (by omega) Tryz.underlying33 Tryz.sizeOf99 fw19.sv (by omega)) ?_
  refine sx_pure rfl rfl rfl (px_field rfl xfld99x2) ?_
  refine sx_pure rfl rfl rfl (px_field rfl xfld63x0) ?_
  refine sx_pure rfl rfl rfl (px_field rfl xfld28x1) ?_
  refine sx_pure rfl rfl rfl (px_load rfl (fw19.sv.load1 (by show _[k * 5 + 3]? = _; rw [List.getElem?_set_ne (by omega), List.getElem?_set_ne (by omega), List.getElem?_set_ne (by omega)]; exact hx3 k (Nat.le_refl _) (by omega)) Tryz.isAgg26)) ?_
  refine sm rfl rfl rfl rfl ?_
  have f22 := (hne k (Nat.le_refl _) (by omega)).ext c9
  have f23 := f22.chg cw11 (by omega)
  have f24 := f23.ext c14
  have f25 := f24.chg cw16 (by omega)
  have f26 := f25.chg cw19 (by omega)
  refine sx_call rfl rfl Tryz.call46 (c_markIntS f26 (hzz k (by omega)) (by omega)) (fun v27 w27 p27 => ?_)
  obtain ⟨rfl, ova_27, c27⟩ := p27
  have zw27 := c27.size
  refine sa rfl rfl rfl rfl ?_
  refine wl_nil (q_n (k21 _ _ ?_))
  refine sx_seq fun K28 k28 => sx_region ?_
  refine sm rfl rfl rfl rfl ?_
  refine sm rfl rfl rfl rfl ?_
  refine sm rfl rfl rfl rfl ?_
  have f29 := fw19.chg c27 (by omega)
  refine sx_pure rfl rfl rfl (px_indexK (j := k) rfl rfl (by omega) Tryz.underlying33 Tryz.sizeOf99 f29.sv (by omega)) ?_
  refine sx_pure rfl rfl rfl (px_field rfl xfld99x2) ?_
  refine sx_pure rfl rfl rfl (px_field rfl xfld63x1) ?_
  refine sx_storeO (j := ((k * 5) + 2) + 2) rfl rfl f29 (by first | omega | (simp only [List.length_set]; omega)) Tryz.sizeOf3 rfl (fun w30 sw30 fw30 cw30 => ?_)
  have zw30 := cw30.size
  refine wl_nil (q_n (k28 _ _ ?_))
  refine sx_sub (Sub.cons (t := 0) rfl (.cons (t := 1) rfl (.cons (t := 5) rfl (.nil)))) ?_
  refine sx_region ?_
  refine sm rfl rfl rfl rfl ?_
  refine sx_pure rfl rfl rfl (px_add rfl rfl (by omega)) ?_
  refine sa rfl rfl rfl rfl ?_
  refine wl_nil ?_
  refine q_bn (q_n (k7 _ _ ?_))
  refine sx_region ?_
  refine sm rfl rfl rfl rfl ?_
  refine sx_pure rfl rfl rfl (px_add rfl rfl (by omega)) ?_
  refine sa rfl rfl rfl rfl ?_
  refine wl_nil ?_
  have q31 := Chg.step (l := l1) (h := (r (k + 1))) (Chg.zero (l := l1) (h := (r (k + 1))) c9) cw11 (by omega)
  have q32 := Chg.step (l := l1) (h := (r (k + 1))) q31 c14 (by omega)
  have q33 := Chg.step (l := l1) (h := (r (k + 1))) q32 cw16 (by omega)
  have q34 := Chg.step (l := l1) (h := (r (k + 1))) q33 cw19 (by omega)
  have q35 := Chg.step (l := l1) (h := (r (k + 1))) q34 c27 (by omega)
  have q36 := Chg.step (l := l1) (h := (r (k + 1))) q35 cw30 (by omega)
  have q37 := Chg.step (l := lvt) (h := uvt) cwl4 c9 (by omega)
  have q38 := Chg.step (l := lvt) (h := uvt) q37 cw11 (by omega)
  have q39 := Chg.step (l := lvt) (h := uvt) q38 c14 (by omega)
  have q40 := Chg.step (l := lvt) (h := uvt) q39 cw16 (by omega)
  have q41 := Chg.step (l := lvt) (h := uvt) q40 cw19 (by omega)
  have q42 := Chg.step (l := lvt) (h := uvt) q41 c27 (by omega)
  have q43 := Chg.step (l := lvt) (h := uvt) q42 cw30 (by omega)
  exact fun a ha => ⟨_, by omega, (k + 1), (((((xs).set ((k * 5) + 0) (.string s9)).set ((k * 5) + 1) (.string s14)).set ((((k * 5) + 2) + 0) + 0) (.bool (decide (((((n + ↑ks.length) + 1) + 1) % 3 : Int) = 0)))).set (((k * 5) + 2) + 2) (.int .i64 (((((n + ↑ks.length) + 1) + 1) + 1) + ↑(((ts.getD k rt0).2.2.2.1)).length))), (ks ++ List.replicate (4 + ((ts.getD k rt0).2.2.2.1).length) 0), ha.sub (Sub.cons (t := 0) rfl (.cons (t := 1) (look_int (t := 1) rfl (by first | omega | (simp only [List.length_append, List.length_replicate]; omega) | simp)) (.cons (t := 5) (look_int (t := 5) rfl (by first | omega | (simp only [List.length_append, List.length_replicate]; omega) | simp)) (.nil)))), q43, (fw30.mono (by omega) (by omega)), rfl, by omega, by simp only [List.length_set]; exact hxl, cells_rest hx3 (fun j hj => by rw [List.getElem?_set_ne (by omega), List.getElem?_set_ne (by omega), List.getElem?_set_ne (by omega), List.getElem?_set_ne (by omega)]), nest_rest ha3 hne q36, by simp only [List.length_append, List.length_replicate]; omega, by omega⟩
 ·
  refine sx_exit ?_
  refine q_e (q_e (q_bx (q_n (k2 _ _ ?_))))
  refine sx_seq fun K44 k44 => sx_region ?_
  refine sm rfl rfl rfl rfl ?_
  refine sa rfl rfl rfl rfl ?_
  refine wl_nil (q_n (k44 _ _ ?_))
  refine sx_retc ?_
  refine sx_ret1 Tryz.results44 rfl ?_
  exact ⟨_, rfl, by omega, cwl4⟩

theorem c_markRates {w : World} {pv : ByteArray} {vt : Value} {lvt uvt : Nat} {ts : List Rt} {vvt : List Value} {n : Int} (hvt : RtO w lvt uvt vt 99 intT ts vvt) (h63 : ts.length ≤ 1048576) (hzz : ∀ i, i < ts.length → (ts.getD i rt0).2.2.2.1.length ≤ 1048576) (hn : 0 ≤ n ∧ n ≤ 4000000000000000000) (hu : uvt ≤ w.heap.size) :
  Ret Tryz.prog 13 [.agg #[.string pv, vt], .int .i64 n] w fun v w' => ∃ ks, v = .int .i64 (n + ↑((ks : List Int)).length) ∧ (((ks : List Int)).length ≤ 1200000000000) ∧ Chg lvt uvt w w' := by
 refine sx_enter Tryz.func13 rfl Tryz.ntmps13 (Nat.le_of_ble_eq_true rfl) ?_
 refine sx_seq fun K1 k1 => sx_region ?_
 refine sx_box [.string pv, vt] rfl rfl rfl (fun b2 w3 eb2 sb2 fb2 cb2 => ?_)
 have zw3 := cb2.size
 refine sa rfl rfl rfl rfl ?_
 refine wl_nil (q_n (k1 _ _ ?_))
 refine sx_seq fun K4 k4 => sx_region ?_
 refine sx_pure rfl rfl rfl (px_field rfl xfld35x1) ?_
 refine sx_pure rfl rfl rfl (px_load rfl (fb2.load1 rfl Tryz.isAgg33)) ?_
 refine sm rfl rfl rfl rfl ?_
 have f5 := hvt.ext cb2
 refine sx_call rfl rfl Tryz.call44 (c_markRateS f5 (by omega) (by assumption) (by omega) (by omega)) (fun v6 w6 p6 => ?_)
 obtain ⟨ks6, rfl, hk6, c6⟩ := p6
 have zw6 := c6.size
 refine sa rfl rfl rfl rfl ?_
 refine wl_nil (q_n (k4 _ _ ?_))
 refine sx_seq fun K7 k7 => sx_region ?_
 refine sm rfl rfl rfl rfl ?_
 refine sa rfl rfl rfl rfl ?_
 refine wl_nil (q_n (k7 _ _ ?_))
 refine sx_retc ?_
 refine sx_ret1 Tryz.results13 rfl ?_
 have q8 := Chg.step (l := lvt) (h := uvt) (Chg.zero (l := lvt) (h := uvt) cb2) c6 (by omega)
 exact ⟨_, rfl, by omega, q8⟩

theorem c_markSigned {w : World} {n1 : Bool} {v1 : Value} {lv1 uv1 : Nat} {z1 : List Int} {n : Int} (hv1 : OwnI w lv1 uv1 v1 intT (z1)) (h63 : z1.length ≤ 1048576) (hn : 0 ≤ n ∧ n ≤ 4611686018427387904) :
  Ret Tryz.prog 45 [.agg #[.bool n1, v1], .int .i64 n] w fun v w' => v = .int .i64 (n + ↑(z1).length) ∧ OwnI w' (lv1) (uv1) v1 intT (mk n (z1).length) ∧ Chg lv1 uv1 w w' := by
 refine sx_enter Tryz.func45 rfl Tryz.ntmps45 (Nat.le_of_ble_eq_true rfl) ?_
 refine sx_seq fun K1 k1 => sx_region ?_
 refine sx_box [.bool n1, v1] rfl rfl rfl (fun b2 w3 eb2 sb2 fb2 cb2 => ?_)
 have zw3 := cb2.size
 refine sa rfl rfl rfl rfl ?_
 refine wl_nil (q_n (k1 _ _ ?_))
 refine sx_seq fun K4 k4 => sx_region ?_
 refine sx_pure rfl rfl rfl (px_field rfl xfld28x1) ?_
 refine sx_pure rfl rfl rfl (px_load rfl (fb2.load1 rfl Tryz.isAgg26)) ?_
 refine sm rfl rfl rfl rfl ?_
 have f5 := hv1.ext cb2
 refine sx_call rfl rfl Tryz.call46 (c_markIntS f5 (by omega) (by omega)) (fun v6 w6 p6 => ?_)
 obtain ⟨rfl, ova_6, c6⟩ := p6
 have zw6 := c6.size
 refine sa rfl rfl rfl rfl ?_
 refine wl_nil (q_n (k4 _ _ ?_))
 refine sx_seq fun K7 k7 => sx_region ?_
 refine sm rfl rfl rfl rfl ?_
 refine sa rfl rfl rfl rfl ?_
 refine wl_nil (q_n (k7 _ _ ?_))
 refine sx_retc ?_
 refine sx_ret1 Tryz.results45 rfl ?_
 have q8 := Chg.step (l := lv1) (h := uv1) (Chg.zero (l := lv1) (h := uv1) cb2) c6 (by omega)
 exact ⟨rfl, ova_6, q8⟩

theorem c_markRat {w : World} {n1 : Bool} {v1 : Value} {lv1 uv1 : Nat} {z1 : List Int} {d1 : Value} {ld1 ud1 : Nat} {y1 : List Int} {n : Int} (hv1 : OwnI w lv1 uv1 v1 intT (z1)) (hd1 : OwnI w ld1 ud1 d1 intT (y1)) (h63 : z1.length ≤ 1048576 ∧ y1.length ≤ 1048576) (hn : 0 ≤ n ∧ n ≤ 4000000000000000000) (hdd : (uv1 ≤ ld1 ∨ ud1 ≤ lv1) ∧ uv1 ≤ w.heap.size ∧ ud1 ≤ w.heap.size) :
  Ret Tryz.prog 14 [.agg #[.bool n1, v1, d1], .int .i64 n] w fun v w' => v = .int .i64 (n + ↑(z1).length + ↑(y1).length) ∧ OwnI w' (lv1) (uv1) v1 intT (mk n (z1).length) ∧ OwnI w' (ld1) (ud1) d1 intT (mk (n + ↑(z1).length) (y1).length) ∧ Chg (min lv1 ld1) (max uv1 ud1) w w' := by
 refine sx_enter Tryz.func14 rfl Tryz.ntmps14 (Nat.le_of_ble_eq_true rfl) ?_
 refine sx_seq fun K1 k1 => sx_region ?_
 refine sx_box [.bool n1, v1, d1] rfl rfl rfl (fun b2 w3 eb2 sb2 fb2 cb2 => ?_)
 have zw3 := cb2.size
 refine sa rfl rfl rfl rfl ?_
 refine wl_nil (q_n (k1 _ _ ?_))
 refine sx_seq fun K4 k4 => sx_region ?_
 refine sx_pure rfl rfl rfl (px_field rfl xfld30x0) ?_
 refine sx_pure rfl rfl rfl (px_load rfl (fb2.loadA (vs := [.bool n1, v1]) (look_lit rfl) Tryz.isAgg28 Tryz.sizeOf28)) ?_
 refine sm rfl rfl rfl rfl ?_
 have f5 := hv1.ext cb2
 refine sx_call rfl rfl Tryz.call45 (c_markSigned f5 (by omega) (by omega)) (fun v6 w6 p6 => ?_)
 obtain ⟨rfl, ov1_6, c6⟩ := p6
 have zw6 := c6.size
 refine sa rfl rfl rfl rfl ?_
 refine wl_nil (q_n (k4 _ _ ?_))
 refine sx_seq fun K7 k7 => sx_region ?_
 refine sx_pure rfl rfl rfl (px_field rfl xfld30x1) ?_
 have f8 := fb2.chg c6 (by omega)
 refine sx_pure rfl rfl rfl (px_load rfl (f8.load1 rfl Tryz.isAgg26)) ?_
 refine sm rfl rfl rfl rfl ?_
 have f9 := hd1.ext cb2
 have f10 := f9.chg c6 (by omega)
 refine sx_call rfl rfl Tryz.call46 (c_markIntS f10 (by omega) (by omega)) (fun v11 w11 p11 => ?_)
 obtain ⟨rfl, ova_11, c11⟩ := p11
 have zw11 := c11.size
 refine sa rfl rfl rfl rfl ?_
 refine wl_nil (q_n (k7 _ _ ?_))
 refine sx_seq fun K12 k12 => sx_region ?_
 refine sm rfl rfl rfl rfl ?_
 refine sa rfl rfl rfl rfl ?_
 refine wl_nil (q_n (k12 _ _ ?_))
 refine sx_retc ?_
 refine sx_ret1 Tryz.results14 rfl ?_
 have f13 := ov1_6.chg c11 (by omega)
 have q14 := Chg.step (l := (min lv1 ld1)) (h := (max uv1 ud1)) (Chg.zero (l := (min lv1 ld1)) (h := (max uv1 ud1)) cb2) c6 (by omega)
 have q15 := Chg.step (l := (min lv1 ld1)) (h := (max uv1 ud1)) q14 c11 (by omega)
 exact ⟨rfl, f13, ova_11, q15⟩

theorem c_heldIntS {w : World} {va : Value} {lva uva : Nat} {zs : List Int} {n : Int} (hva : Sl w lva uva va (zs)) (h63 : zs.length ≤ 1048576) (hn : 0 ≤ n ∧ n ≤ 4611686018427387904) (hz : zs = mk n zs.length) :
  Ret Tryz.prog 48 [va, .int .i64 n] w fun v w' => v = .int .i64 (n + ↑(zs).length) ∧ Chg 0 0 w w' := by
 have hva0 := hva.fit
 refine sx_enter Tryz.func48 rfl Tryz.ntmps48 (Nat.le_of_ble_eq_true rfl) ?_
 refine sx_seq fun K1 k1 => sx_region ?_
 refine sa rfl rfl rfl rfl ?_
 refine wl_nil (q_n (k1 _ _ ?_))
 refine sx_seq fun K2 k2 => ?_
 refine sx_seq fun K3 k3 => sx_region ?_
 refine sa rfl rfl rfl rfl ?_
 refine wl_nil (q_n (k3 _ _ ?_))
 refine sx_block ?_
 refine sx_loop (fun mm aa w' => ∃ (k : Nat), Agr 21 [(0, va), (1, .int .i64 (n + ↑k)), (5, .int .i64 ↑k)] aa ∧ Chg 0 0 w w' ∧ (mm = zs.length - k) ∧ (k ≤ zs.length)) (_) (fun a ha => ⟨0, ha.sub (Sub.cons (t := 0) rfl (.cons (t := 1) (look_int (t := 1) rfl (by first | omega | simp)) (.cons (t := 5) (look_int (t := 5) rfl (by first | omega | simp)) (.nil)))), Chg.refl _ _ _, rfl, by omega⟩) ?_
 rintro mm aa wl4 ⟨k, hAwl4, cwl4, hm, hk⟩
 refine (show cw Tryz.prog 21 _ _ _ wl4 from ?_) aa hAwl4
 clear hAwl4
 have zwl4 := cwl4.size
 refine sx_seq fun K5 k5 => ?_
 refine sx_seq fun K6 k6 => sx_region ?_
 refine sm rfl rfl rfl rfl ?_
 refine sm rfl rfl rfl rfl ?_
 have f7 := hva0.ext cwl4
 refine sx_pure rfl rfl rfl (px_len rfl Tryz.underlying26 f7) ?_
 refine sx_pure rfl rfl rfl (px_lt rfl rfl) ?_
 refine wl_nil (q_n (k6 _ _ ?_))
 refine sx_condP rfl (fun h230 => ?_) (fun h230 => ?_)
 ·
  refine sx_skip ?_
  refine q_n (k5 _ _ ?_)
  refine sx_seq fun K8 k8 => ?_
  refine sx_block ?_
  refine sx_seq fun K9 k9 => ?_
  refine sx_seq fun K10 k10 => sx_region ?_
  refine sm rfl rfl rfl rfl ?_
  refine sm rfl rfl rfl rfl ?_
  refine sx_pure rfl rfl rfl (px_index1 (j := k) rfl rfl (by omega) Tryz.underlying26 Tryz.sizeOf3 f7 (by omega)) ?_
  refine sx_pure rfl rfl rfl (px_load rfl (f7.load1 (at_int (by omega)) Tryz.isAgg3)) ?_
  refine sm rfl rfl rfl rfl ?_
  refine sx_pure rfl rfl rfl (px_ne rfl rfl) ?_
  refine wl_nil (q_n (k10 _ _ ?_))
  have h231 : ¬ (((zs).getD k 0 : Int) ≠ n + ↑k) := fun h => h (by rw [hz]; exact mk_getD (by omega))
  refine sx_condPF rfl h231 ?_
  refine sx_skip ?_
  refine q_n (k9 _ _ ?_)
  refine sx_region ?_
  refine sm rfl rfl rfl rfl ?_
  refine sx_pure rfl rfl rfl (px_add rfl rfl (by omega)) ?_
  refine sa rfl rfl rfl rfl ?_
  refine wl_nil ?_
  refine q_bn (q_n (k8 _ _ ?_))
  refine sx_sub (Sub.cons (t := 0) rfl (.cons (t := 1) rfl (.cons (t := 5) rfl (.nil)))) ?_
  refine sx_region ?_
  refine sm rfl rfl rfl rfl ?_
  refine sx_pure rfl rfl rfl (px_add rfl rfl (by omega)) ?_
  refine sa rfl rfl rfl rfl ?_
  refine wl_nil ?_
  exact fun a ha => ⟨_, by omega, (k + 1), ha.sub (Sub.cons (t := 0) rfl (.cons (t := 1) (look_int (t := 1) rfl (by first | omega | simp)) (.cons (t := 5) (look_int (t := 5) rfl (by first | omega | simp)) (.nil)))), cwl4, rfl, by omega⟩
 ·
  refine sx_exit ?_
  refine q_e (q_e (q_bx (q_n (k2 _ _ ?_))))
  refine sx_seq fun K11 k11 => sx_region ?_
  refine sm rfl rfl rfl rfl ?_
  refine sa rfl rfl rfl rfl ?_
  refine wl_nil (q_n (k11 _ _ ?_))
  refine sx_retc ?_
  refine sx_ret1 Tryz.results48 rfl ?_
  have ek : k = zs.length := by omega
  subst ek
  exact ⟨rfl, cwl4⟩

theorem c_heldSigned {w : World} {n1 : Bool} {v1 : Value} {lv1 uv1 : Nat} {z1 : List Int} {n : Int} (hv1 : Sl w lv1 uv1 v1 (z1)) (h63 : z1.length ≤ 1048576) (hn : 0 ≤ n ∧ n ≤ 4611686018427387904) (hz : z1 = mk n z1.length) :
  Ret Tryz.prog 47 [.agg #[.bool n1, v1], .int .i64 n] w fun v w' => v = .int .i64 (n + ↑(z1).length) ∧ Chg 0 0 w w' := by
 have hv10 := hv1.fit
 refine sx_enter Tryz.func47 rfl Tryz.ntmps47 (Nat.le_of_ble_eq_true rfl) ?_
 refine sx_seq fun K1 k1 => sx_region ?_
 refine sx_box [.bool n1, v1] rfl rfl rfl (fun b2 w3 eb2 sb2 fb2 cb2 => ?_)
 have zw3 := cb2.size
 refine sa rfl rfl rfl rfl ?_
 refine wl_nil (q_n (k1 _ _ ?_))
 refine sx_seq fun K4 k4 => sx_region ?_
 refine sx_pure rfl rfl rfl (px_field rfl xfld28x1) ?_
 refine sx_pure rfl rfl rfl (px_load rfl (fb2.load1 rfl Tryz.isAgg26)) ?_
 refine sm rfl rfl rfl rfl ?_
 have f5 := hv10.ext cb2
 refine sx_call rfl rfl Tryz.call48 (c_heldIntS f5 (by omega) (by omega) (by first | assumption | simp [mk_length])) (fun v6 w6 p6 => ?_)
 obtain ⟨rfl, c6⟩ := p6
 have zw6 := c6.size
 refine sa rfl rfl rfl rfl ?_
 refine wl_nil (q_n (k4 _ _ ?_))
 refine sx_seq fun K7 k7 => ?_
 refine sx_seq fun K8 k8 => sx_region ?_
 refine sm rfl rfl rfl rfl ?_
 refine sx_pure rfl rfl rfl (px_lt rfl rfl) ?_
 refine wl_nil (q_n (k8 _ _ ?_))
 have h279 : ¬ ((n + ↑(z1).length : Int) < 0) := by omega
 refine sx_condPF rfl h279 ?_
 refine sx_skip ?_
 refine q_n (k7 _ _ ?_)
 refine sx_seq fun K9 k9 => sx_region ?_
 refine sm rfl rfl rfl rfl ?_
 refine sa rfl rfl rfl rfl ?_
 refine wl_nil (q_n (k9 _ _ ?_))
 refine sx_retc ?_
 refine sx_ret1 Tryz.results47 rfl ?_
 exact ⟨rfl, (cb2.t c6)⟩

theorem c_heldRat {w : World} {n1 : Bool} {v1 : Value} {lv1 uv1 : Nat} {z1 : List Int} {d1 : Value} {ld1 ud1 : Nat} {y1 : List Int} {n : Int} (hv1 : Sl w lv1 uv1 v1 (z1)) (hd1 : Sl w ld1 ud1 d1 (y1)) (h63 : z1.length ≤ 1048576 ∧ y1.length ≤ 1048576) (hn : 0 ≤ n ∧ n ≤ 4000000000000000000) (hz : z1 = mk n z1.length ∧ y1 = mk (n + ↑z1.length) y1.length) :
  Ret Tryz.prog 15 [.agg #[.bool n1, v1, d1], .int .i64 n] w fun v w' => v = .int .i64 (n + ↑(z1).length + ↑(y1).length) ∧ Chg 0 0 w w' := by
 have hv10 := hv1.fit
 have hd10 := hd1.fit
 have hz1 := hz.1
 have hz2 := hz.2
 refine sx_enter Tryz.func15 rfl Tryz.ntmps15 (Nat.le_of_ble_eq_true rfl) ?_
 refine sx_seq fun K1 k1 => sx_region ?_
 refine sx_box [.bool n1, v1, d1] rfl rfl rfl (fun b2 w3 eb2 sb2 fb2 cb2 => ?_)
 have zw3 := cb2.size
 refine sa rfl rfl rfl rfl ?_
 refine wl_nil (q_n (k1 _ _ ?_))
 refine sx_seq fun K4 k4 => sx_region ?_
 refine sx_pure rfl rfl rfl (px_field rfl xfld30x0) ?_
 refine sx_pure rfl rfl rfl (px_load rfl (fb2.loadA (vs := [.bool n1, v1]) (look_lit rfl) Tryz.isAgg28 Tryz.sizeOf28)) ?_
 refine sm rfl rfl rfl rfl ?_
 have f5 := hv10.ext cb2
 refine sx_call rfl rfl Tryz.call47 (c_heldSigned f5 (by first | omega | (simp only [mk_length]; omega)) (by omega) (by first | assumption | simp [mk_length])) (fun v6 w6 p6 => ?_)
 obtain ⟨rfl, c6⟩ := p6
 have zw6 := c6.size
 refine sa rfl rfl rfl rfl ?_
 refine wl_nil (q_n (k4 _ _ ?_))
 refine sx_seq fun K7 k7 => ?_
 refine sx_seq fun K8 k8 => sx_region ?_
 refine sm rfl rfl rfl rfl ?_
 refine sx_pure rfl rfl rfl (px_lt rfl rfl) ?_
 refine wl_nil (q_n (k8 _ _ ?_))
 have h379 : ¬ ((n + ↑(z1).length : Int) < 0) := by omega
 refine sx_condPF rfl h379 ?_
 refine sx_skip ?_
 refine q_n (k7 _ _ ?_)
 refine sx_seq fun K9 k9 => sx_region ?_
 refine sx_pure rfl rfl rfl (px_field rfl xfld30x1) ?_
 have f10 := fb2.ext c6
 refine sx_pure rfl rfl rfl (px_load rfl (f10.load1 rfl Tryz.isAgg26)) ?_
 refine sm rfl rfl rfl rfl ?_
 have f11 := hd10.ext cb2
 have f12 := f11.ext c6
 refine sx_call rfl rfl Tryz.call48 (c_heldIntS f12 (by omega) (by omega) (by first | assumption | simp [mk_length])) (fun v13 w13 p13 => ?_)
 obtain ⟨rfl, c13⟩ := p13
 have zw13 := c13.size
 refine sa rfl rfl rfl rfl ?_
 refine wl_nil (q_n (k9 _ _ ?_))
 refine sx_seq fun K14 k14 => ?_
 refine sx_seq fun K15 k15 => sx_region ?_
 refine sm rfl rfl rfl rfl ?_
 refine sx_pure rfl rfl rfl (px_lt rfl rfl) ?_
 refine wl_nil (q_n (k15 _ _ ?_))
 refine sx_sub (Sub.cons (t := 1) rfl (.cons (t := 4) rfl (.cons (t := 16) rfl (.nil)))) ?_
 have h383 : ¬ (((n + ↑(z1).length) + ↑(y1).length : Int) < 0) := by omega
 refine sx_condPF rfl h383 ?_
 refine sx_skip ?_
 refine q_n (k14 _ _ ?_)
 refine sx_seq fun K16 k16 => sx_region ?_
 refine sm rfl rfl rfl rfl ?_
 refine sa rfl rfl rfl rfl ?_
 refine wl_nil (q_n (k16 _ _ ?_))
 refine sx_retc ?_
 refine sx_ret1 Tryz.results15 rfl ?_
 exact ⟨rfl, ((cb2.t c6).t c13)⟩

theorem c_sCurPlaces {w : World} {s : ByteArray} :
  Ret Tryz.prog 89 [.string s] w fun v w' => v = .int .i64 ((curOf s).places) ∧ Chg 0 0 w w' := by
 refine sx_enter Tryz.func89 rfl Tryz.ntmps89 (Nat.le_of_ble_eq_true rfl) ?_
 refine sx_seq fun K1 k1 => sx_region ?_
 refine sa rfl rfl rfl rfl ?_
 refine wl_nil (q_n (k1 _ _ ?_))
 refine sx_seq fun K2 k2 => sx_region ?_
 refine sm rfl rfl rfl rfl ?_
 refine sx_call rfl rfl Tryz.call107 (c_l08Find) (fun v3 w3 p3 => ?_)
 obtain ⟨rfl, c3⟩ := p3
 have zw3 := c3.size
 refine sx_pure rfl rfl rfl (px_fieldv rfl (xfv131x2 _)) ?_
 refine sa rfl rfl rfl rfl ?_
 refine wl_nil (q_n (k2 _ _ ?_))
 refine sx_retc ?_
 refine sx_ret1 Tryz.results89 rfl ?_
 exact ⟨rfl, c3⟩

theorem c_sCurUnit {w : World} {cc : ByteArray} :
  Ret Tryz.prog 50 [.string cc] w fun v w' => ∃ s t ls us lt ut, v = .agg #[.bool ((cUnit cc).1), s, t] ∧ OwnI w' (ls) (us) s intT ((cUnit cc).2.1) ∧ OwnI w' (lt) (ut) t intT ((cUnit cc).2.2.1) ∧ (w.heap.size ≤ ls ∧ us ≤ w'.heap.size ∧ w.heap.size ≤ lt ∧ ut ≤ w'.heap.size ∧ (us ≤ lt ∨ ut ≤ ls)) ∧ ((cUnit cc).2.1.length ≤ 18 ∧ (cUnit cc).2.2.1.length ≤ 18) ∧ Chg 0 0 w w' := by
 have hcp := cur_places cc
 refine sx_enter Tryz.func50 rfl Tryz.ntmps50 (Nat.le_of_ble_eq_true rfl) ?_
 refine sx_seq fun K1 k1 => sx_region ?_
 refine sx_alloc [.bool false, (.slice none 0 0), (.slice none 0 0)] rfl Tryz.zeroValue30 rfl (fun b2 w3 eb2 sb2 fb2 cb2 => ?_)
 have zw3 := cb2.size
 refine wl_nil (q_n (k1 _ _ ?_))
 refine sx_seq fun K4 k4 => ?_
 refine sx_seq fun K5 k5 => sx_region ?_
 refine sm rfl rfl rfl rfl ?_
 refine sx_call rfl rfl Tryz.call67 (c_sCurKnown) (fun v6 w6 p6 => ?_)
 obtain ⟨rfl, c6⟩ := p6
 have zw6 := c6.size
 refine sx_pure rfl rfl rfl (px_notP rfl) ?_
 refine wl_nil (q_n (k5 _ _ ?_))
 refine sx_condP rfl (fun h65 => ?_) (fun h65 => ?_)
 ·
  refine sx_seq fun K7 k7 => sx_region ?_
  refine sx_pure rfl rfl rfl (px_build rfl (xbld30x  _)) ?_
  have f9 := fb2.ext c6
  refine sx_store (vs := [.bool false, (.slice none 0 0), (.slice none 0 0)]) rfl rfl f9 rfl Tryz.sizeOf30 (Nat.le_of_ble_eq_true rfl) (one_cons rfl (one_cons rfl (one_cons rfl one_nil))) (fun w8 sw8 fw8 cw8 => ?_)
  have zw8 := cw8.size
  have gw8 : Blk w8 b2 [.bool false, (.slice none 0 0), (.slice none 0 0)] 30 := fw8
  refine wl_nil (q_n (k7 _ _ ?_))
  refine sx_retc ?_
  refine q_r (sx_ret1 Tryz.results50 ⟨_, rfl, gw8.loadA (vs := [.bool false, (.slice none 0 0), (.slice none 0 0)]) (look_lit rfl) Tryz.isAgg30 Tryz.sizeOf30⟩ ?_)
  rw [cUnit_no (by assumption)]
  have q10 := Chg.step (l := 0) (h := 0) (Chg.zero (l := 0) (h := 0) (cb2.t c6)) cw8 (by omega)
  exact ⟨_, _, w.heap.size, w.heap.size, w.heap.size, w.heap.size, rfl, Own.nil _ _ _ _ _, Own.nil _ _ _ _ _, by omega, ⟨by simp [noR], by simp [noR]⟩, q10⟩
 ·
  refine sx_skip ?_
  refine q_n (k4 _ _ ?_)
  refine sx_seq fun K11 k11 => sx_region ?_
  refine sm rfl rfl rfl rfl ?_
  refine sx_call rfl rfl Tryz.call89 (c_sCurPlaces) (fun v12 w12 p12 => ?_)
  obtain ⟨rfl, c12⟩ := p12
  have zw12 := c12.size
  refine sx_call rfl rfl Tryz.call88 (c_l07Ten (by omega)) (fun v13 w13 p13 => ?_)
  obtain ⟨s13, rfl, os_13, c13⟩ := p13
  have zw13 := c13.size
  refine sx_lit1 rfl xelt26 rfl rfl (fun s14 ws14 ss14 fs14 cs14 => ?_)
  have ns14 := Own.norm (f := (Value.int .i64)) (zs := [1]) fs14
  have zws14 := cs14.size
  refine sx_pure rfl rfl rfl (px_build rfl (xbld30x0x1 ns14.one _)) ?_
  have f16 := fb2.ext c6
  have f17 := f16.ext c12
  have f18 := f17.ext c13
  have f19 := f18.ext cs14
  have f20 := os_13.ext cs14
  refine sx_store (vs := [.bool (ng (tenI ((curOf cc).places))), s13, s14]) rfl rfl f19 rfl Tryz.sizeOf30 (Nat.le_of_ble_eq_true rfl) (one_cons rfl (one_cons f20.one (one_cons ns14.one one_nil))) (fun w15 sw15 fw15 cw15 => ?_)
  have zw15 := cw15.size
  have gw15 : Blk w15 b2 [.bool (ng (tenI ((curOf cc).places))), s13, s14] 30 := fw15
  refine wl_nil (q_n (k11 _ _ ?_))
  refine sx_retc ?_
  refine sx_ret1 Tryz.results50 ⟨_, rfl, gw15.loadA (vs := [.bool (ng (tenI ((curOf cc).places))), s13, s14]) (look_lit rfl) Tryz.isAgg30 Tryz.sizeOf30⟩ ?_
  have hrl := cUnit_len (s := cc)
  have f21 := f20.chg cw15 (by omega)
  have hr1 := f21
  rw [tenI_abs] at hr1
  rw [cUnit_ok (by first | assumption | exact Decidable.not_not.1 (by assumption))] at hrl ⊢
  have q22 := Chg.step (l := 0) (h := 0) (Chg.zero (l := 0) (h := 0) ((((cb2.t c6).t c12).t c13).t cs14)) cw15 (by omega)
  have f23 := ns14.chg cw15 (by omega)
  exact ⟨_, _, _, _, _, _, by rw [← ten_ng], hr1, f23, by omega, hrl, q22⟩

theorem c_sUnitRate {w : World} {pv : ByteArray} {vt : Value} {lvt uvt : Nat} {ts : List Rt} {vvt : List Value} {a : ByteArray} {b : ByteArray} (hvt : RtS w lvt uvt vt ts vvt) (h63 : ts.length ≤ 4611686018427387904) (hz : ∀ i, i < ts.length → (ts.getD i rt0).2.2.2.1.length ≤ 4611686018427387904) :
  Ret Tryz.prog 16 [.agg #[.string pv, vt], .string a, .string b] w fun v w' => ∃ s t ls us lt ut, v = .tuple #[.agg #[.bool ((uRt pv ts a b).1), s, t], .bool ((uRt pv ts a b).2.2.2)] ∧ OwnI w' (ls) (us) s intT ((uRt pv ts a b).2.1) ∧ OwnI w' (lt) (ut) t intT ((uRt pv ts a b).2.2.1) ∧ (w.heap.size ≤ ls ∧ us ≤ w'.heap.size ∧ w.heap.size ≤ lt ∧ ut ≤ w'.heap.size ∧ (us ≤ lt ∨ ut ≤ ls)) ∧ ((uRt pv ts a b).2.1.length ≤ 18 ∧ (uRt pv ts a b).2.2.1.length ≤ 18) ∧ Chg 0 0 w w' := by
 have hvt0 := hvt.fit
 refine sx_enter Tryz.func16 rfl Tryz.ntmps16 (Nat.le_of_ble_eq_true rfl) ?_
 refine sx_seq fun K1 k1 => sx_region ?_
 refine sx_box [.string pv, vt] rfl rfl rfl (fun b2 w3 eb2 sb2 fb2 cb2 => ?_)
 have zw3 := cb2.size
 refine sx_alloc [.bool false, (.slice none 0 0), (.slice none 0 0)] rfl Tryz.zeroValue30 rfl (fun b4 w5 eb4 sb4 fb4 cb4 => ?_)
 have zw5 := cb4.size
 refine sa rfl rfl rfl rfl ?_
 refine wl_nil (q_n (k1 _ _ ?_))
 refine sx_seq fun K6 k6 => sx_region ?_
 have f7 := fb2.ext cb4
 refine sx_pure rfl rfl rfl (px_load rfl (f7.loadA (vs := [.string pv, vt]) (look_lit rfl) Tryz.isAgg35 Tryz.sizeOf35)) ?_
 refine sm rfl rfl rfl rfl ?_
 refine sm rfl rfl rfl rfl ?_
 have f8 := hvt0.ext cb2
 have f9 := f8.ext cb4
 refine sx_call rfl rfl Tryz.call8 (c_sRateOf f9 (by omega) (by first | assumption | exact fun i hi => Nat.le_trans (hzz i hi) (by omega))) (fun v10 w10 p10 => ?_)
 obtain ⟨s10, t10, ls10, us10, lt10, ut10, rfl, os_10, ot_10, hd10, hl10, c10⟩ := p10
 have zw10 := c10.size
 refine sm rfl rfl rfl rfl ?_
 refine sx_pure rfl rfl rfl (px_extract (vs := [.agg #[.bool ((rOf pv ts a b).1), s10, t10], .bool ((rOf pv ts a b).2.2.2)]) rfl rfl) ?_
 refine sx_pure rfl rfl rfl (px_extract (vs := [.agg #[.bool ((rOf pv ts a b).1), s10, t10], .bool ((rOf pv ts a b).2.2.2)]) rfl rfl) ?_
 refine sx_alloc [.bool false, (.slice none 0 0), (.slice none 0 0)] rfl Tryz.zeroValue30 rfl (fun b11 w12 eb11 sb11 fb11 cb11 => ?_)
 have zw12 := cb11.size
 have f14 := ot_10.ext cb11
 have f15 := os_10.ext cb11
 refine sx_store (vs := [.bool ((rOf pv ts a b).1), s10, t10]) rfl rfl fb11 rfl Tryz.sizeOf30 (Nat.le_of_ble_eq_true rfl) (one_cons rfl (one_cons f15.one (one_cons f14.one one_nil))) (fun w13 sw13 fw13 cw13 => ?_)
 have zw13 := cw13.size
 have gw13 : Blk w13 b11 [.bool ((rOf pv ts a b).1), s10, t10] 30 := fw13
 refine sa rfl rfl rfl rfl ?_
 refine wl_nil (q_n (k6 _ _ ?_))
 refine sx_sub (Sub.cons (t := 1) rfl (.cons (t := 2) rfl (.cons (t := 6) rfl (.cons (t := 7) rfl (.cons (t := 8) rfl (.cons (t := 9) rfl (.nil))))))) ?_
 refine sx_seq fun K16 k16 => ?_
 refine sx_seq fun K17 k17 => sx_region ?_
 refine sm rfl rfl rfl rfl ?_
 refine sx_pure rfl rfl rfl (px_not rfl) ?_
 refine wl_nil (q_n (k17 _ _ ?_))
 refine sx_condB rfl (fun h8 => ?_) (fun h8 => ?_)
 ·
  refine sx_seq fun K18 k18 => sx_region ?_
  refine sx_pure rfl rfl rfl (px_build rfl (xbld30x  _)) ?_
  have f20 := fb4.ext c10
  have f21 := f20.ext cb11
  have f22 := f21.chg cw13 (by omega)
  refine sx_store (vs := [.bool false, (.slice none 0 0), (.slice none 0 0)]) rfl rfl f22 rfl Tryz.sizeOf30 (Nat.le_of_ble_eq_true rfl) (one_cons rfl (one_cons rfl (one_cons rfl one_nil))) (fun w19 sw19 fw19 cw19 => ?_)
  have zw19 := cw19.size
  have gw19 : Blk w19 b4 [.bool false, (.slice none 0 0), (.slice none 0 0)] 30 := fw19
  refine sa rfl rfl rfl rfl ?_
  refine wl_nil (q_n (k18 _ _ ?_))
  refine sx_retc ?_
  refine q_r (sx_ret2 Tryz.results16 ⟨_, rfl, gw19.loadA (vs := [.bool false, (.slice none 0 0), (.slice none 0 0)]) (look_lit rfl) Tryz.isAgg30 Tryz.sizeOf30⟩ rfl ?_)
  rw [uRt_no (bnot_t h8)]
  have q23 := Chg.step (l := 0) (h := 0) (Chg.zero (l := 0) (h := 0) (((cb2.t cb4).t c10).t cb11)) cw13 (by omega)
  have q24 := Chg.step (l := 0) (h := 0) q23 cw19 (by omega)
  exact ⟨_, _, w.heap.size, w.heap.size, w.heap.size, w.heap.size, rfl, Own.nil _ _ _ _ _, Own.nil _ _ _ _ _, by omega, ⟨by simp [noR], by simp [noR]⟩, q24⟩
 ·
  refine sx_skip ?_
  refine q_n (k16 _ _ ?_)
  refine sx_seq fun K25 k25 => sx_region ?_
  refine sm rfl rfl rfl rfl ?_
  refine sx_call rfl rfl Tryz.call50 (c_sCurUnit) (fun v26 w26 p26 => ?_)
  obtain ⟨s26, t26, ls26, us26, lt26, ut26, rfl, os_26, ot_26, hd26, hl26, c26⟩ := p26
  have zw26 := c26.size
  refine sm rfl rfl rfl rfl ?_
  refine sx_call rfl rfl Tryz.call50 (c_sCurUnit) (fun v27 w27 p27 => ?_)
  obtain ⟨s27, t27, ls27, us27, lt27, ut27, rfl, os_27, ot_27, hd27, hl27, c27⟩ := p27
  have zw27 := c27.size
  have f28 := os_26.ext c27
  have f29 := ot_26.ext c27
  refine sx_call rfl rfl Tryz.call49 (c_sRatDiv f28.sv f29.sv os_27.sv ot_27.sv (by omega)) (fun v30 w30 p30 => ?_)
  obtain ⟨s30, t30, ls30, us30, lt30, ut30, rfl, os_30, ot_30, hd30, hl30, c30⟩ := p30
  have zw30 := c30.size
  refine sm rfl rfl rfl rfl ?_
  refine sx_pure rfl rfl rfl (px_extract (vs := [.agg #[.bool ((rDiv ((cUnit b).1) ((cUnit b).2.1) ((cUnit b).2.2.1) ((cUnit a).1) ((cUnit a).2.1) ((cUnit a).2.2.1)).1), s30, t30], .bool ((rDiv ((cUnit b).1) ((cUnit b).2.1) ((cUnit b).2.2.1) ((cUnit a).1) ((cUnit a).2.1) ((cUnit a).2.2.1)).2.2.2)]) rfl rfl) ?_
  refine sx_pure rfl rfl rfl (px_extract (vs := [.agg #[.bool ((rDiv ((cUnit b).1) ((cUnit b).2.1) ((cUnit b).2.2.1) ((cUnit a).1) ((cUnit a).2.1) ((cUnit a).2.2.1)).1), s30, t30], .bool ((rDiv ((cUnit b).1) ((cUnit b).2.1) ((cUnit b).2.2.1) ((cUnit a).1) ((cUnit a).2.1) ((cUnit a).2.2.1)).2.2.2)]) rfl rfl) ?_
  refine sx_alloc [.bool false, (.slice none 0 0), (.slice none 0 0)] rfl Tryz.zeroValue30 rfl (fun b31 w32 eb31 sb31 fb31 cb31 => ?_)
  have zw32 := cb31.size
  have f34 := ot_30.ext cb31
  have f35 := os_30.ext cb31
  refine sx_store (vs := [.bool ((rDiv ((cUnit b).1) ((cUnit b).2.1) ((cUnit b).2.2.1) ((cUnit a).1) ((cUnit a).2.1) ((cUnit a).2.2.1)).1), s30, t30]) rfl rfl fb31 rfl Tryz.sizeOf30 (Nat.le_of_ble_eq_true rfl) (one_cons rfl (one_cons f35.one (one_cons f34.one one_nil))) (fun w33 sw33 fw33 cw33 => ?_)
  have zw33 := cw33.size
  have gw33 : Blk w33 b31 [.bool ((rDiv ((cUnit b).1) ((cUnit b).2.1) ((cUnit b).2.2.1) ((cUnit a).1) ((cUnit a).2.1) ((cUnit a).2.2.1)).1), s30, t30] 30 := fw33
  refine sa rfl rfl rfl rfl ?_
  refine wl_nil (q_n (k25 _ _ ?_))
  refine sx_sub (Sub.cons (t := 6) rfl (.cons (t := 7) rfl (.cons (t := 8) rfl (.cons (t := 10) rfl (.nil))))) ?_
  refine sx_seq fun K36 k36 => sx_region ?_
  have f37 := gw13.ext c26
  have f38 := f37.ext c27
  have f39 := f38.ext c30
  have f40 := f39.ext cb31
  have f41 := f40.chg cw33 (by omega)
  refine sx_pure rfl rfl rfl (px_load rfl (f41.loadA (vs := [.bool ((rOf pv ts a b).1), s10, t10]) (look_lit rfl) Tryz.isAgg30 Tryz.sizeOf30)) ?_
  refine sx_pure rfl rfl rfl (px_load rfl (gw33.loadA (vs := [.bool ((rDiv ((cUnit b).1) ((cUnit b).2.1) ((cUnit b).2.2.1) ((cUnit a).1) ((cUnit a).2.1) ((cUnit a).2.2.1)).1), s30, t30]) (look_lit rfl) Tryz.isAgg30 Tryz.sizeOf30)) ?_
  have f42 := f15.chg cw13 (by omega)
  have f43 := f42.ext c26
  have f44 := f43.ext c27
  have f45 := f44.ext c30
  have f46 := f45.ext cb31
  have f47 := f46.chg cw33 (by omega)
  have f48 := f14.chg cw13 (by omega)
  have f49 := f48.ext c26
  have f50 := f49.ext c27
  have f51 := f50.ext c30
  have f52 := f51.ext cb31
  have f53 := f52.chg cw33 (by omega)
  have f54 := f35.chg cw33 (by omega)
  have f55 := f34.chg cw33 (by omega)
  refine sx_call rfl rfl Tryz.call32 (c_sRatMul f47.sv f53.sv f54.sv f55.sv (by have h8 := rOf_len (pv := pv) (ts := ts) (a := a) (b := b); have h9 := rDiv_len (n1 := (cUnit b).1) (z1 := (cUnit b).2.1) (y1 := (cUnit b).2.2.1) (n2 := (cUnit a).1) (z2 := (cUnit a).2.1) (y2 := (cUnit a).2.2.1); omega)) (fun v56 w56 p56 => ?_)
  obtain ⟨s56, t56, ls56, us56, lt56, ut56, rfl, os_56, ot_56, hd56, hl56, c56⟩ := p56
  have zw56 := c56.size
  refine sx_pure rfl rfl rfl (px_extract (vs := [.agg #[.bool ((rMul ((rOf pv ts a b).1) ((rOf pv ts a b).2.1) ((rOf pv ts a b).2.2.1) ((rDiv ((cUnit b).1) ((cUnit b).2.1) ((cUnit b).2.2.1) ((cUnit a).1) ((cUnit a).2.1) ((cUnit a).2.2.1)).1) ((rDiv ((cUnit b).1) ((cUnit b).2.1) ((cUnit b).2.2.1) ((cUnit a).1) ((cUnit a).2.1) ((cUnit a).2.2.1)).2.1) ((rDiv ((cUnit b).1) ((cUnit b).2.1) ((cUnit b).2.2.1) ((cUnit a).1) ((cUnit a).2.1) ((cUnit a).2.2.1)).2.2.1)).1), s56, t56], .bool ((rMul ((rOf pv ts a b).1) ((rOf pv ts a b).2.1) ((rOf pv ts a b).2.2.1) ((rDiv ((cUnit b).1) ((cUnit b).2.1) ((cUnit b).2.2.1) ((cUnit a).1) ((cUnit a).2.1) ((cUnit a).2.2.1)).1) ((rDiv ((cUnit b).1) ((cUnit b).2.1) ((cUnit b).2.2.1) ((cUnit a).1) ((cUnit a).2.1) ((cUnit a).2.2.1)).2.1) ((rDiv ((cUnit b).1) ((cUnit b).2.1) ((cUnit b).2.2.1) ((cUnit a).1) ((cUnit a).2.1) ((cUnit a).2.2.1)).2.2.1)).2.2.2)]) rfl rfl) ?_
  refine sx_pure rfl rfl rfl (px_extract (vs := [.agg #[.bool ((rMul ((rOf pv ts a b).1) ((rOf pv ts a b).2.1) ((rOf pv ts a b).2.2.1) ((rDiv ((cUnit b).1) ((cUnit b).2.1) ((cUnit b).2.2.1) ((cUnit a).1) ((cUnit a).2.1) ((cUnit a).2.2.1)).1) ((rDiv ((cUnit b).1) ((cUnit b).2.1) ((cUnit b).2.2.1) ((cUnit a).1) ((cUnit a).2.1) ((cUnit a).2.2.1)).2.1) ((rDiv ((cUnit b).1) ((cUnit b).2.1) ((cUnit b).2.2.1) ((cUnit a).1) ((cUnit a).2.1) ((cUnit a).2.2.1)).2.2.1)).1), s56, t56], .bool ((rMul ((rOf pv ts a b).1) ((rOf pv ts a b).2.1) ((rOf pv ts a b).2.2.1) ((rDiv ((cUnit b).1) ((cUnit b).2.1) ((cUnit b).2.2.1) ((cUnit a).1) ((cUnit a).2.1) ((cUnit a).2.2.1)).1) ((rDiv ((cUnit b).1) ((cUnit b).2.1) ((cUnit b).2.2.1) ((cUnit a).1) ((cUnit a).2.1) ((cUnit a).2.2.1)).2.1) ((rDiv ((cUnit b).1) ((cUnit b).2.1) ((cUnit b).2.2.1) ((cUnit a).1) ((cUnit a).2.1) ((cUnit a).2.2.1)).2.2.1)).2.2.2)]) rfl rfl) ?_
  have f58 := fb4.ext c10
  have f59 := f58.ext cb11
  have f60 := f59.chg cw13 (by omega)
  have f61 := f60.ext c26
  have f62 := f61.ext c27
  have f63 := f62.ext c30
  have f64 := f63.ext cb31
  have f65 := f64.chg cw33 (by omega)
  have f66 := f65.ext c56
  refine sx_store (vs := [.bool ((rMul ((rOf pv ts a b).1) ((rOf pv ts a b).2.1) ((rOf pv ts a b).2.2.1) ((rDiv ((cUnit b).1) ((cUnit b).2.1) ((cUnit b).2.2.1) ((cUnit a).1) ((cUnit a).2.1) ((cUnit a).2.2.1)).1) ((rDiv ((cUnit b).1) ((cUnit b).2.1) ((cUnit b).2.2.1) ((cUnit a).1) ((cUnit a).2.1) ((cUnit a).2.2.1)).2.1) ((rDiv ((cUnit b).1) ((cUnit b).2.1) ((cUnit b).2.2.1) ((cUnit a).1) ((cUnit a).2.1) ((cUnit a).2.2.1)).2.2.1)).1), s56, t56]) rfl rfl f66 rfl Tryz.sizeOf30 (Nat.le_of_ble_eq_true rfl) (one_cons rfl (one_cons os_56.one (one_cons ot_56.one one_nil))) (fun w57 sw57 fw57 cw57 => ?_)
  have zw57 := cw57.size
  have gw57 : Blk w57 b4 [.bool ((rMul ((rOf pv ts a b).1) ((rOf pv ts a b).2.1) ((rOf pv ts a b).2.2.1) ((rDiv ((cUnit b).1) ((cUnit b).2.1) ((cUnit b).2.2.1) ((cUnit a).1) ((cUnit a).2.1) ((cUnit a).2.2.1)).1) ((rDiv ((cUnit b).1) ((cUnit b).2.1) ((cUnit b).2.2.1) ((cUnit a).1) ((cUnit a).2.1) ((cUnit a).2.2.1)).2.1) ((rDiv ((cUnit b).1) ((cUnit b).2.1) ((cUnit b).2.2.1) ((cUnit a).1) ((cUnit a).2.1) ((cUnit a).2.2.1)).2.2.1)).1), s56, t56] 30 := fw57
  refine sa rfl rfl rfl rfl ?_
  refine wl_nil (q_n (k36 _ _ ?_))
  refine sx_retc ?_
  refine sx_ret2 Tryz.results16 ⟨_, rfl, gw57.loadA (vs := [.bool ((rMul ((rOf pv ts a b).1) ((rOf pv ts a b).2.1) ((rOf pv ts a b).2.2.1) ((rDiv ((cUnit b).1) ((cUnit b).2.1) ((cUnit b).2.2.1) ((cUnit a).1) ((cUnit a).2.1) ((cUnit a).2.2.1)).1) ((rDiv ((cUnit b).1) ((cUnit b).2.1) ((cUnit b).2.2.1) ((cUnit a).1) ((cUnit a).2.1) ((cUnit a).2.2.1)).2.1) ((rDiv ((cUnit b).1) ((cUnit b).2.1) ((cUnit b).2.2.1) ((cUnit a).1) ((cUnit a).2.1) ((cUnit a).2.2.1)).2.2.1)).1), s56, t56]) (look_lit rfl) Tryz.isAgg30 Tryz.sizeOf30⟩ rfl ?_
  have hrl := uRt_len (pv := pv) (ts := ts) (a := a) (b := b)
  rw [uRt_mul (bnot_f h8)] at hrl ⊢
  have q67 := Chg.step (l := 0) (h := 0) (Chg.zero (l := 0) (h := 0) (((cb2.t cb4).t c10).t cb11)) cw13 (by omega)
  have q68 := Chg.step (l := 0) (h := 0) q67 (((c26.t c27).t c30).t cb31) (by omega)
  have q69 := Chg.step (l := 0) (h := 0) q68 cw33 (by omega)
  have q70 := Chg.step (l := 0) (h := 0) q69 c56 (by omega)
  have q71 := Chg.step (l := 0) (h := 0) q70 cw57 (by omega)
  have f72 := os_56.chg cw57 (by omega)
  have f73 := ot_56.chg cw57 (by omega)
  exact ⟨_, _, _, _, _, _, rfl, f72, f73, by omega, hrl, q71⟩

theorem c_iCurPlaces {w : World} {s : ByteArray} (hG0 : Glob w) :
  Ret Tryz.prog 53 [.string s] w fun v w' => v = .int .i64 ((curOf s).places) ∧ Chg 0 0 w w' := by
 refine sx_enter Tryz.func53 rfl Tryz.ntmps53 (Nat.le_of_ble_eq_true rfl) ?_
 refine sx_seq fun K1 k1 => sx_region ?_
 refine sa rfl rfl rfl rfl ?_
 refine wl_nil (q_n (k1 _ _ ?_))
 refine sx_seq fun K2 k2 => sx_region ?_
 refine sm rfl rfl rfl rfl ?_
 refine sx_call rfl rfl Tryz.call91 (c_currencyOf hG0) (fun v3 w3 p3 => ?_)
 obtain ⟨rfl, c3⟩ := p3
 have zw3 := c3.size
 refine sm rfl rfl rfl rfl ?_
 refine sx_pure rfl rfl rfl (px_extract (vs := [.agg #[.string ((curOf s).code), .string ((curOf s).number), .int .i64 ((curOf s).places), .int .i64 ((curOf s).cash)], .bool (decide (Known s))]) rfl rfl) ?_
 refine sx_pure rfl rfl rfl (px_extract (vs := [.agg #[.string ((curOf s).code), .string ((curOf s).number), .int .i64 ((curOf s).places), .int .i64 ((curOf s).cash)], .bool (decide (Known s))]) rfl rfl) ?_
 refine sx_alloc [.string (⟨#[]⟩), .string (⟨#[]⟩), .int .i64 0, .int .i64 0] rfl Tryz.zeroValue112 rfl (fun b4 w5 eb4 sb4 fb4 cb4 => ?_)
 have zw5 := cb4.size
 refine sx_store (vs := [.string ((curOf s).code), .string ((curOf s).number), .int .i64 ((curOf s).places), .int .i64 ((curOf s).cash)]) rfl rfl fb4 rfl Tryz.sizeOf112 (Nat.le_of_ble_eq_true rfl) (one_cons rfl (one_cons rfl (one_cons rfl (one_cons rfl one_nil)))) (fun w6 sw6 fw6 cw6 => ?_)
 have zw6 := cw6.size
 have gw6 : Blk w6 b4 [.string ((curOf s).code), .string ((curOf s).number), .int .i64 ((curOf s).places), .int .i64 ((curOf s).cash)] 112 := fw6
 refine sa rfl rfl rfl rfl ?_
 refine wl_nil (q_n (k2 _ _ ?_))
 refine sx_seq fun K7 k7 => sx_region ?_
 refine sx_pure rfl rfl rfl (px_field rfl xfld112x2) ?_
 refine sx_pure rfl rfl rfl (px_load rfl (gw6.load1 rfl Tryz.isAgg3)) ?_
 refine sa rfl rfl rfl rfl ?_
 refine wl_nil (q_n (k7 _ _ ?_))
 refine sx_retc ?_
 refine sx_ret1 Tryz.results53 rfl ?_
 have q8 := Chg.step (l := 0) (h := 0) (Chg.zero (l := 0) (h := 0) (c3.t cb4)) cw6 (by omega)
 exact ⟨rfl, q8⟩

theorem c_iUnitRate {w : World} {pv : ByteArray} {vt : Value} {lvt uvt : Nat} {ts : List Rt} {vvt : List Value} {a : ByteArray} {b : ByteArray} (hG0 : Glob w) (hvt : RtS w lvt uvt vt ts vvt) (h63 : ts.length ≤ 4611686018427387904) (hz : ∀ i, i < ts.length → (ts.getD i rt0).2.2.2.1.length ≤ 4611686018427387904) :
  Ret Tryz.prog 17 [.agg #[.string pv, vt], .string a, .string b] w fun v w' => ∃ s t ls us lt ut, v = .tuple #[.agg #[.bool ((uRt pv ts a b).1), s, t], .bool ((uRt pv ts a b).2.2.2)] ∧ OwnI w' (ls) (us) s intT ((uRt pv ts a b).2.1) ∧ OwnI w' (lt) (ut) t intT ((uRt pv ts a b).2.2.1) ∧ (w.heap.size ≤ ls ∧ us ≤ w'.heap.size ∧ w.heap.size ≤ lt ∧ ut ≤ w'.heap.size ∧ (us ≤ lt ∨ ut ≤ ls)) ∧ ((uRt pv ts a b).2.1.length ≤ 18 ∧ (uRt pv ts a b).2.2.1.length ≤ 18) ∧ Chg 0 0 w w' := by
 have hvt0 := hvt.fit
 have hpa := cur_places a
 have hpb := cur_places b
 have hta := ten_len' (k := (curOf a).places) (by omega)
 have htb := ten_len' (k := (curOf b).places) (by omega)
 refine sx_enter Tryz.func17 rfl Tryz.ntmps17 (Nat.le_of_ble_eq_true rfl) ?_
 refine sx_seq fun K1 k1 => sx_region ?_
 refine sx_box [.string pv, vt] rfl rfl rfl (fun b2 w3 eb2 sb2 fb2 cb2 => ?_)
 have zw3 := cb2.size
 refine sx_alloc [.bool false, (.slice none 0 0), (.slice none 0 0)] rfl Tryz.zeroValue30 rfl (fun b4 w5 eb4 sb4 fb4 cb4 => ?_)
 have zw5 := cb4.size
 refine sa rfl rfl rfl rfl ?_
 refine wl_nil (q_n (k1 _ _ ?_))
 refine sx_seq fun K6 k6 => sx_region ?_
 have f7 := fb2.ext cb4
 refine sx_pure rfl rfl rfl (px_load rfl (f7.loadA (vs := [.string pv, vt]) (look_lit rfl) Tryz.isAgg35 Tryz.sizeOf35)) ?_
 refine sm rfl rfl rfl rfl ?_
 refine sm rfl rfl rfl rfl ?_
 have f8 := hG0.ext cb2
 have f9 := f8.ext cb4
 have f10 := hvt0.ext cb2
 have f11 := f10.ext cb4
 refine sx_call rfl rfl Tryz.call10 (c_iRateOf f9 f11 (by omega) (by first | assumption | exact fun i hi => Nat.le_trans (hzz i hi) (by omega))) (fun v12 w12 p12 => ?_)
 obtain ⟨s12, t12, ls12, us12, lt12, ut12, rfl, os_12, ot_12, hd12, hl12, c12⟩ := p12
 have zw12 := c12.size
 refine sm rfl rfl rfl rfl ?_
 refine sx_pure rfl rfl rfl (px_extract (vs := [.agg #[.bool ((rOf pv ts a b).1), s12, t12], .bool ((rOf pv ts a b).2.2.2)]) rfl rfl) ?_
 refine sx_pure rfl rfl rfl (px_extract (vs := [.agg #[.bool ((rOf pv ts a b).1), s12, t12], .bool ((rOf pv ts a b).2.2.2)]) rfl rfl) ?_
 refine sx_alloc [.bool false, (.slice none 0 0), (.slice none 0 0)] rfl Tryz.zeroValue30 rfl (fun b13 w14 eb13 sb13 fb13 cb13 => ?_)
 have zw14 := cb13.size
 have f16 := ot_12.ext cb13
 have f17 := os_12.ext cb13
 refine sx_store (vs := [.bool ((rOf pv ts a b).1), s12, t12]) rfl rfl fb13 rfl Tryz.sizeOf30 (Nat.le_of_ble_eq_true rfl) (one_cons rfl (one_cons f17.one (one_cons f16.one one_nil))) (fun w15 sw15 fw15 cw15 => ?_)
 have zw15 := cw15.size
 have gw15 : Blk w15 b13 [.bool ((rOf pv ts a b).1), s12, t12] 30 := fw15
 refine sa rfl rfl rfl rfl ?_
 refine wl_nil (q_n (k6 _ _ ?_))
 refine sx_sub (Sub.cons (t := 1) rfl (.cons (t := 2) rfl (.cons (t := 6) rfl (.cons (t := 7) rfl (.cons (t := 8) rfl (.cons (t := 9) rfl (.nil))))))) ?_
 refine sx_seq fun K18 k18 => ?_
 refine sx_seq fun K19 k19 => sx_region ?_
 refine sm rfl rfl rfl rfl ?_
 refine sx_pure rfl rfl rfl (px_not rfl) ?_
 refine wl_nil (q_n (k19 _ _ ?_))
 refine sx_condB rfl (fun h31 => ?_) (fun h31 => ?_)
 ·
  refine sx_seq fun K20 k20 => sx_region ?_
  refine sx_pure rfl rfl rfl (px_build rfl (xbld30x  _)) ?_
  have f22 := fb4.ext c12
  have f23 := f22.ext cb13
  have f24 := f23.chg cw15 (by omega)
  refine sx_store (vs := [.bool false, (.slice none 0 0), (.slice none 0 0)]) rfl rfl f24 rfl Tryz.sizeOf30 (Nat.le_of_ble_eq_true rfl) (one_cons rfl (one_cons rfl (one_cons rfl one_nil))) (fun w21 sw21 fw21 cw21 => ?_)
  have zw21 := cw21.size
  have gw21 : Blk w21 b4 [.bool false, (.slice none 0 0), (.slice none 0 0)] 30 := fw21
  refine sa rfl rfl rfl rfl ?_
  refine wl_nil (q_n (k20 _ _ ?_))
  refine sx_retc ?_
  refine q_r (sx_ret2 Tryz.results17 ⟨_, rfl, gw21.loadA (vs := [.bool false, (.slice none 0 0), (.slice none 0 0)]) (look_lit rfl) Tryz.isAgg30 Tryz.sizeOf30⟩ rfl ?_)
  rw [uRt_no (bnot_t h31)]
  have q25 := Chg.step (l := 0) (h := 0) (Chg.zero (l := 0) (h := 0) (((cb2.t cb4).t c12).t cb13)) cw15 (by omega)
  have q26 := Chg.step (l := 0) (h := 0) q25 cw21 (by omega)
  exact ⟨_, _, w.heap.size, w.heap.size, w.heap.size, w.heap.size, rfl, Own.nil _ _ _ _ _, Own.nil _ _ _ _ _, by omega, ⟨by simp [noR], by simp [noR]⟩, q26⟩
 ·
  have hok := bnot_f h31
  obtain ⟨x1, e1, hr1, hr2, hr3, he1, hx1, hy1, hg1⟩ := (rOf_ROk hok).rat
  have lm1 := len_mul x1.natAbs (10 ^ (curOf b).places.toNat)
  have lm2 := len_mul e1 (10 ^ (curOf a).places.toNat)
  have f27 := f17.chg cw15 (by omega)
  have f28 := f27
  rw [hr2] at f28
  have f29 := f16.chg cw15 (by omega)
  have f30 := f29
  rw [hr3] at f30
  have f31 := gw15
  rw [hr1] at f31
  refine sx_skip ?_
  refine q_n (k18 _ _ ?_)
  refine sx_seq fun K32 k32 => ?_
  have f33 := f9.ext c12
  have f34 := f33.ext cb13
  have f35 := f34.chg cw15 (by omega)
  have f36 := f7.ext c12
  have f37 := f36.ext cb13
  have f38 := f37.chg cw15 (by omega)
  have f39 := fb4.ext c12
  have f40 := f39.ext cb13
  have f41 := f40.chg cw15 (by omega)
  have f42 := f11.ext c12
  have f43 := f42.ext cb13
  have f44 := f43.chg cw15 (by omega)
  refine dx_region (fun w' => Chg 0 0 w15 w') (by kernel_rfl) (Chg.zero (Chg.drew _)) ?_
  have d45 := Chg.drew w15
  have s45 : Chg 0 0 w15 (World.drew w15) := Chg.zero (Chg.drew _)
  have y45 : (World.drew w15).heap.size = w15.heap.size := rfl
  generalize World.drew w15 = w45 at *
  have zw45 := d45.size
  refine dx_take 0 rfl rfl rfl rfl (by kernel_rfl) (by kernel_rfl) (by kernel_rfl) s45 (fun _ hS => px_field rfl xfld30x0) ?_
  refine dx_take 1 rfl rfl rfl rfl (by kernel_rfl) (by kernel_rfl) (by kernel_rfl) s45 (fun _ hS => px_field rfl xfld28x1) ?_
  refine dx_take 2 rfl rfl rfl rfl (by kernel_rfl) (by kernel_rfl) (by kernel_rfl) s45 (fun _ hS => px_load rfl ((f31.chg hS (by omega)).load1 rfl Tryz.isAgg26)) ?_
  refine dx_take 3 rfl rfl rfl rfl (by kernel_rfl) (by kernel_rfl) (by kernel_rfl) s45 (fun _ hS => px_move rfl) ?_
  refine dx_eff 4 rfl (by kernel_rfl) ?_
  have f46 := f35.ext d45
  refine sx_call rfl rfl Tryz.call53 (c_iCurPlaces f46) (fun v47 w47 p47 => ?_)
  obtain ⟨rfl, c47⟩ := p47
  have zw47 := c47.size
  have s48 : Chg 0 0 w15 w47 := (d45.t c47)
  refine wl_nil ?_
  refine dx_next s48 ?_
  refine dx_eff 5 rfl (by kernel_rfl) ?_
  refine sx_call rfl rfl Tryz.call52 (c_natTen (by omega)) (fun v49 w49 p49 => ?_)
  obtain ⟨s49, rfl, os_49, c49⟩ := p49
  have zw49 := c49.size
  have s50 : Chg 0 0 w15 w49 := ((d45.t c47).t c49)
  refine wl_nil ?_
  refine dx_next s50 ?_
  refine dx_eff 6 rfl (by kernel_rfl) ?_
  have f51 := f28.ext d45
  have f52 := f51.ext c47
  have f53 := f52.ext c49
  refine sx_call rfl rfl Tryz.call51 (c_natMul f53.sv os_49.sv (by omega) (by omega)) (fun v54 w54 p54 => ?_)
  obtain ⟨s54, rfl, os_54, c54⟩ := p54
  have zw54 := c54.size
  have s55 : Chg 0 0 w15 w54 := (((d45.t c47).t c49).t c54)
  refine wl_nil ?_
  refine dx_next s55 ?_
  refine dx_take 7 rfl rfl rfl rfl (by kernel_rfl) (by kernel_rfl) (by kernel_rfl) s55 (fun _ hS => px_assign rfl) ?_
  refine dx_done (by kernel_rfl) ?_
  refine q_n (k32 _ _ ?_)
  refine sx_sub (Sub.cons (t := 1) rfl (.cons (t := 6) rfl (.cons (t := 7) rfl (.cons (t := 8) rfl (.cons (t := 10) rfl (.nil)))))) ?_
  refine sx_seq fun K56 k56 => ?_
  have f57 := f46.ext c47
  have f58 := f57.ext c49
  have f59 := f58.ext c54
  have f60 := f38.ext d45
  have f61 := f60.ext c47
  have f62 := f61.ext c49
  have f63 := f62.ext c54
  have f64 := f31.ext d45
  have f65 := f64.ext c47
  have f66 := f65.ext c49
  have f67 := f66.ext c54
  have f68 := f44.ext d45
  have f69 := f68.ext c47
  have f70 := f69.ext c49
  have f71 := f70.ext c54
  have f72 := f53.ext c54
  have f73 := f30.ext d45
  have f74 := f73.ext c47
  have f75 := f74.ext c49
  have f76 := f75.ext c54
  have f77 := os_49.ext c54
  refine dx_region (fun w' => Chg b4 (b4 + 1) w54 w') (by kernel_rfl) (Chg.zero (Chg.drew _)) ?_
  have d78 := Chg.drew w54
  have s78 : Chg b4 (b4 + 1) w54 (World.drew w54) := Chg.zero (Chg.drew _)
  have y78 : (World.drew w54).heap.size = w54.heap.size := rfl
  generalize World.drew w54 = w78 at *
  have zw78 := d78.size
  refine dx_take 0 rfl rfl rfl rfl (by kernel_rfl) (by kernel_rfl) (by kernel_rfl) s78 (fun _ hS => px_field rfl xfld30x0) ?_
  refine dx_take 1 rfl rfl rfl rfl (by kernel_rfl) (by kernel_rfl) (by kernel_rfl) s78 (fun _ hS => px_field rfl xfld28x0) ?_
  refine dx_take 2 rfl rfl rfl rfl (by kernel_rfl) (by kernel_rfl) (by kernel_rfl) s78 (fun _ hS => px_load rfl ((f67.chg hS (by omega)).load1 rfl Tryz.isAgg4)) ?_
  refine dx_take 3 rfl rfl rfl rfl (by kernel_rfl) (by kernel_rfl) (by kernel_rfl) s78 (fun _ hS => px_move rfl) ?_
  refine dx_take 5 rfl rfl rfl rfl (by kernel_rfl) (by kernel_rfl) (by kernel_rfl) s78 (fun _ hS => px_field rfl xfld30x1) ?_
  refine dx_take 6 rfl rfl rfl rfl (by kernel_rfl) (by kernel_rfl) (by kernel_rfl) s78 (fun _ hS => px_load rfl ((f67.chg hS (by omega)).load1 rfl Tryz.isAgg26)) ?_
  refine dx_take 7 rfl rfl rfl rfl (by kernel_rfl) (by kernel_rfl) (by kernel_rfl) s78 (fun _ hS => px_move rfl) ?_
  refine dx_eff 4 rfl (by kernel_rfl) ?_
  have f79 := os_54.ext d78
  refine sx_call rfl rfl Tryz.call55 (c_signed f79.sv (by omega)) (fun v80 w80 p80 => ?_)
  obtain ⟨rfl, c80⟩ := p80
  have zw80 := c80.size
  have s81 : Chg b4 (b4 + 1) w54 w80 := (Chg.zero (l := b4) (h := (b4 + 1)) (d78.t c80))
  refine wl_nil ?_
  refine dx_next s81 ?_
  refine dx_eff 8 rfl (by kernel_rfl) ?_
  have f82 := f59.ext d78
  have f83 := f82.ext c80
  refine sx_call rfl rfl Tryz.call53 (c_iCurPlaces f83) (fun v84 w84 p84 => ?_)
  obtain ⟨rfl, c84⟩ := p84
  have zw84 := c84.size
  have s85 : Chg b4 (b4 + 1) w54 w84 := (Chg.zero (l := b4) (h := (b4 + 1)) ((d78.t c80).t c84))
  refine wl_nil ?_
  refine dx_next s85 ?_
  refine dx_eff 9 rfl (by kernel_rfl) ?_
  refine sx_call rfl rfl Tryz.call52 (c_natTen (by omega)) (fun v86 w86 p86 => ?_)
  obtain ⟨s86, rfl, os_86, c86⟩ := p86
  have zw86 := c86.size
  have s87 : Chg b4 (b4 + 1) w54 w86 := (Chg.zero (l := b4) (h := (b4 + 1)) (((d78.t c80).t c84).t c86))
  refine wl_nil ?_
  refine dx_next s87 ?_
  refine dx_eff 10 rfl (by kernel_rfl) ?_
  have f88 := f76.ext d78
  have f89 := f88.ext c80
  have f90 := f89.ext c84
  have f91 := f90.ext c86
  refine sx_call rfl rfl Tryz.call51 (c_natMul f91.sv os_86.sv (by omega) (by omega)) (fun v92 w92 p92 => ?_)
  obtain ⟨s92, rfl, os_92, c92⟩ := p92
  have zw92 := c92.size
  have s93 : Chg b4 (b4 + 1) w54 w92 := (Chg.zero (l := b4) (h := (b4 + 1)) ((((d78.t c80).t c84).t c86).t c92))
  refine wl_nil ?_
  refine dx_next s93 ?_
  refine dx_eff 11 rfl (by kernel_rfl) ?_
  have f94 := f79.ext c80
  have f95 := f94.ext c84
  have f96 := f95.ext c86
  have f97 := f96.ext c92
  refine sx_call rfl rfl Tryz.call54 (c_reduce f97.sv os_92.sv (by omega) (by omega) (Nat.mul_pos he1 (Nat.pow_pos (by decide)))) (fun v98 w98 p98 => ?_)
  obtain ⟨s98, t98, ls98, us98, lt98, ut98, rfl, os_98, ot_98, hd98, hl98, c98⟩ := p98
  have zw98 := c98.size
  have s99 : Chg b4 (b4 + 1) w54 w98 := (Chg.zero (l := b4) (h := (b4 + 1)) (((((d78.t c80).t c84).t c86).t c92).t c98))
  refine wl_nil ?_
  refine dx_next s99 ?_
  refine dx_take 12 rfl rfl rfl rfl (by kernel_rfl) (by kernel_rfl) (by kernel_rfl) s99 (fun _ hS => px_extract (vs := [.agg #[.bool ((rR (sgI (nz (ng x1) (dg (((x1).natAbs) * (10 ^ (((curOf b).places)).toNat)))) (((x1).natAbs) * (10 ^ (((curOf b).places)).toNat))) (e1 * (10 ^ (((curOf a).places)).toNat))).1), s98, t98], .bool ((rR (sgI (nz (ng x1) (dg (((x1).natAbs) * (10 ^ (((curOf b).places)).toNat)))) (((x1).natAbs) * (10 ^ (((curOf b).places)).toNat))) (e1 * (10 ^ (((curOf a).places)).toNat))).2.2.2)]) rfl rfl) ?_
  refine dx_take 13 rfl rfl rfl rfl (by kernel_rfl) (by kernel_rfl) (by kernel_rfl) s99 (fun _ hS => px_extract (vs := [.agg #[.bool ((rR (sgI (nz (ng x1) (dg (((x1).natAbs) * (10 ^ (((curOf b).places)).toNat)))) (((x1).natAbs) * (10 ^ (((curOf b).places)).toNat))) (e1 * (10 ^ (((curOf a).places)).toNat))).1), s98, t98], .bool ((rR (sgI (nz (ng x1) (dg (((x1).natAbs) * (10 ^ (((curOf b).places)).toNat)))) (((x1).natAbs) * (10 ^ (((curOf b).places)).toNat))) (e1 * (10 ^ (((curOf a).places)).toNat))).2.2.2)]) rfl rfl) ?_
  refine dx_eff 14 rfl (by kernel_rfl) ?_
  have f101 := f41.ext d45
  have f102 := f101.ext c47
  have f103 := f102.ext c49
  have f104 := f103.ext c54
  have f105 := f104.ext d78
  have f106 := f105.ext c80
  have f107 := f106.ext c84
  have f108 := f107.ext c86
  have f109 := f108.ext c92
  have f110 := f109.ext c98
  refine sx_store (vs := [.bool ((rR (sgI (nz (ng x1) (dg (((x1).natAbs) * (10 ^ (((curOf b).places)).toNat)))) (((x1).natAbs) * (10 ^ (((curOf b).places)).toNat))) (e1 * (10 ^ (((curOf a).places)).toNat))).1), s98, t98]) rfl rfl f110 rfl Tryz.sizeOf30 (Nat.le_of_ble_eq_true rfl) (one_cons rfl (one_cons os_98.one (one_cons ot_98.one one_nil))) (fun w100 sw100 fw100 cw100 => ?_)
  have zw100 := cw100.size
  have gw100 : Blk w100 b4 [.bool ((rR (sgI (nz (ng x1) (dg (((x1).natAbs) * (10 ^ (((curOf b).places)).toNat)))) (((x1).natAbs) * (10 ^ (((curOf b).places)).toNat))) (e1 * (10 ^ (((curOf a).places)).toNat))).1), s98, t98] 30 := fw100
  have q112 := Chg.step (l := b4) (h := (b4 + 1)) (Chg.zero (l := b4) (h := (b4 + 1)) (((((d78.t c80).t c84).t c86).t c92).t c98)) cw100 (by omega)
  have s111 : Chg b4 (b4 + 1) w54 w100 := q112
  refine wl_nil ?_
  refine dx_next s111 ?_
  refine dx_take 15 rfl rfl rfl rfl (by kernel_rfl) (by kernel_rfl) (by kernel_rfl) s111 (fun _ hS => px_assign rfl) ?_
  refine dx_done (by kernel_rfl) ?_
  refine q_n (k56 _ _ ?_)
  refine sx_sub (Sub.cons (t := 6) rfl (.cons (t := 7) rfl (.nil))) ?_
  refine sx_retc ?_
  refine sx_ret2 Tryz.results17 ⟨_, rfl, gw100.loadA (vs := [.bool ((rR (sgI (nz (ng x1) (dg (((x1).natAbs) * (10 ^ (((curOf b).places)).toNat)))) (((x1).natAbs) * (10 ^ (((curOf b).places)).toNat))) (e1 * (10 ^ (((curOf a).places)).toNat))).1), s98, t98]) (look_lit rfl) Tryz.isAgg30 Tryz.sizeOf30⟩ rfl ?_
  have hrl := uRt_len (pv := pv) (ts := ts) (a := a) (b := b)
  have hre : uRt pv ts a b = rR (sgI (nz (ng x1) (dg (x1.natAbs * 10 ^ (curOf b).places.toNat))) (x1.natAbs * 10 ^ (curOf b).places.toNat)) (e1 * 10 ^ (curOf a).places.toNat) := by rw [uRt_ok hok hr1 hr2 hr3, sgI_nz]
  rw [hre] at hrl ⊢
  have q113 := Chg.step (l := 0) (h := 0) (Chg.zero (l := 0) (h := 0) (((cb2.t cb4).t c12).t cb13)) cw15 (by omega)
  have q114 := Chg.step (l := 0) (h := 0) q113 (((((((((d45.t c47).t c49).t c54).t d78).t c80).t c84).t c86).t c92).t c98) (by omega)
  have q115 := Chg.step (l := 0) (h := 0) q114 cw100 (by omega)
  have f116 := os_98.chg cw100 (by omega)
  have f117 := ot_98.chg cw100 (by omega)
  exact ⟨_, _, _, _, _, _, rfl, f116, f117, by omega, hrl, q115⟩

theorem c_szMoney {w : World} {c1 : ByteArray} {n1 : Bool} {v1 : Value} {lv1 uv1 : Nat} {z1 : List Int} {n : Int} (hv1 : Sl w lv1 uv1 v1 (z1)) (bz1 : z1.length ≤ 9223372036854775807) (bc1 : c1.size ≤ 9223372036854775807) (hn : 0 ≤ n ∧ n ≤ 1048576) :
  Ret Tryz.prog 18 [.agg #[.string c1, .bool n1, v1], .int .i64 n] w fun v w' => ∃ r, v = .int .i64 (r) ∧ (r < 0 ∨ (0 ≤ r ∧ r ≤ n - (z1).length)) ∧ Chg 0 0 w w' := by
 have hv10 := hv1.fit
 refine sx_enter Tryz.func18 rfl Tryz.ntmps18 (Nat.le_of_ble_eq_true rfl) ?_
 refine sx_seq fun K1 k1 => sx_region ?_
 refine sx_box [.string c1, .bool n1, v1] rfl rfl rfl (fun b2 w3 eb2 sb2 fb2 cb2 => ?_)
 have zw3 := cb2.size
 refine sa rfl rfl rfl rfl ?_
 refine wl_nil (q_n (k1 _ _ ?_))
 refine sx_seq fun K4 k4 => sx_region ?_
 refine sm rfl rfl rfl rfl ?_
 refine sx_pure rfl rfl rfl (px_field rfl xfld44x0) ?_
 refine sx_pure rfl rfl rfl (px_load rfl (fb2.load1 rfl Tryz.isAgg9)) ?_
 refine sx_pure rfl rfl rfl (px_lenS rfl Tryz.underlying9) ?_
 refine sx_pure rfl rfl rfl (px_sub rfl rfl (by omega)) ?_
 refine sa rfl rfl rfl rfl ?_
 refine wl_nil (q_n (k4 _ _ ?_))
 refine sx_seq fun K5 k5 => ?_
 refine sx_seq fun K6 k6 => sx_region ?_
 refine sm rfl rfl rfl rfl ?_
 refine sx_pure rfl rfl rfl (px_lt rfl rfl) ?_
 refine wl_nil (q_n (k6 _ _ ?_))
 refine sx_condP rfl (fun h436 => ?_) (fun h436 => ?_)
 ·
  refine sx_seq fun K7 k7 => sx_region ?_
  refine sa rfl rfl rfl rfl ?_
  refine wl_nil (q_n (k7 _ _ ?_))
  refine sx_retc ?_
  refine q_r (sx_ret1 Tryz.results18 rfl ?_)
  exact ⟨_, rfl, by omega, cb2⟩
 ·
  refine sx_skip ?_
  refine q_n (k5 _ _ ?_)
  refine sx_seq fun K8 k8 => sx_region ?_
  refine sx_pure rfl rfl rfl (px_field rfl xfld44x1) ?_
  refine sx_pure rfl rfl rfl (px_load rfl (fb2.loadA (vs := [.bool n1, v1]) (look_lit rfl) Tryz.isAgg42 Tryz.sizeOf42)) ?_
  refine sm rfl rfl rfl rfl ?_
  have f9 := hv10.ext cb2
  refine sx_call rfl rfl Tryz.call56 (c_szSigned f9 (by omega) (by omega)) (fun v10 w10 p10 => ?_)
  obtain ⟨r10, rfl, hr10, c10⟩ := p10
  have zw10 := c10.size
  refine sa rfl rfl rfl rfl ?_
  refine wl_nil (q_n (k8 _ _ ?_))
  refine sx_sub (Sub.cons (t := 1) rfl (.cons (t := 4) rfl (.nil))) ?_
  refine sx_seq fun K11 k11 => ?_
  refine sx_seq fun K12 k12 => sx_region ?_
  refine sm rfl rfl rfl rfl ?_
  refine sx_pure rfl rfl rfl (px_lt rfl rfl) ?_
  refine wl_nil (q_n (k12 _ _ ?_))
  refine sx_condP rfl (fun h440 => ?_) (fun h440 => ?_)
  ·
   refine sx_seq fun K13 k13 => sx_region ?_
   refine sa rfl rfl rfl rfl ?_
   refine wl_nil (q_n (k13 _ _ ?_))
   refine sx_retc ?_
   refine q_r (sx_ret1 Tryz.results18 rfl ?_)
   exact ⟨_, rfl, by omega, (cb2.t c10)⟩
  ·
   refine sx_skip ?_
   refine q_n (k11 _ _ ?_)
   refine sx_seq fun K14 k14 => sx_region ?_
   refine sm rfl rfl rfl rfl ?_
   refine sa rfl rfl rfl rfl ?_
   refine wl_nil (q_n (k14 _ _ ?_))
   refine sx_retc ?_
   refine sx_ret1 Tryz.results18 rfl ?_
   exact ⟨_, rfl, by omega, (cb2.t c10)⟩

theorem c_toMoney {w : World} {c1 : ByteArray} {n1 : Bool} {v1 : Value} {lv1 uv1 : Nat} {z1 : List Int} (hv1 : Sl w lv1 uv1 v1 (z1)) (bz1 : z1.length ≤ 1048576) :
  Ret Tryz.prog 20 [.agg #[.string c1, .bool n1, v1]] w fun v w' => ∃ s2, v = .agg #[.string (c1), .bool (n1), s2] ∧ OwnI w' w.heap.size w'.heap.size s2 intT (z1) ∧ Chg 0 0 w w' := by
 have hv10 := hv1.fit
 refine sx_enter Tryz.func20 rfl Tryz.ntmps20 (Nat.le_of_ble_eq_true rfl) ?_
 refine sx_seq fun K1 k1 => sx_region ?_
 refine sx_box [.string c1, .bool n1, v1] rfl rfl rfl (fun b2 w3 eb2 sb2 fb2 cb2 => ?_)
 have zw3 := cb2.size
 refine sx_alloc [.string (⟨#[]⟩), .bool false, (.slice none 0 0)] rfl Tryz.zeroValue48 rfl (fun b4 w5 eb4 sb4 fb4 cb4 => ?_)
 have zw5 := cb4.size
 refine wl_nil (q_n (k1 _ _ ?_))
 refine sx_seq fun K6 k6 => sx_region ?_
 refine sx_alloc [.string (⟨#[]⟩), .bool false, (.slice none 0 0)] rfl Tryz.zeroValue48 rfl (fun b7 w8 eb7 sb7 fb7 cb7 => ?_)
 have zw8 := cb7.size
 refine wl_nil (q_n (k6 _ _ ?_))
 refine sx_seq fun K9 k9 => sx_region ?_
 refine sx_pure rfl rfl rfl (px_field rfl xfld44x0) ?_
 have f10 := fb2.ext cb4
 have f11 := f10.ext cb7
 refine sx_pure rfl rfl rfl (px_load rfl (f11.load1 rfl Tryz.isAgg9)) ?_
 refine sx_pure rfl rfl rfl (px_field rfl xfld48x0) ?_
 refine sx_store (vs := [.string c1]) rfl rfl fb7 rfl Tryz.sizeOf9 (Nat.le_of_ble_eq_true rfl) (one_cons rfl one_nil) (fun w12 sw12 fw12 cw12 => ?_)
 have zw12 := cw12.size
 have gw12 : Blk w12 b7 [.string c1, .bool false, (.slice none 0 0)] 48 := fw12
 refine wl_nil (q_n (k9 _ _ ?_))
 refine sx_seq fun K13 k13 => sx_region ?_
 refine sx_pure rfl rfl rfl (px_field rfl xfld44x1) ?_
 have f14 := f11.chg cw12 (by omega)
 refine sx_pure rfl rfl rfl (px_load rfl (f14.loadA (vs := [.bool n1, v1]) (look_lit rfl) Tryz.isAgg42 Tryz.sizeOf42)) ?_
 have f15 := hv10.ext cb2
 have f16 := f15.ext cb4
 have f17 := f16.ext cb7
 have f18 := f17.chg cw12 (by omega)
 refine sx_call rfl rfl Tryz.call59 (c_toSigned f18 (by omega)) (fun v19 w19 p19 => ?_)
 obtain ⟨s119, rfl, os1_19, c19⟩ := p19
 have zw19 := c19.size
 refine sx_pure rfl rfl rfl (px_field rfl xfld48x1) ?_
 have f21 := gw12.ext c19
 refine sx_store (vs := [.bool n1, s119]) rfl rfl f21 rfl Tryz.sizeOf28 (Nat.le_of_ble_eq_true rfl) (one_cons rfl (one_cons os1_19.one one_nil)) (fun w20 sw20 fw20 cw20 => ?_)
 have zw20 := cw20.size
 have gw20 : Blk w20 b7 [.string c1, .bool n1, s119] 48 := fw20
 refine wl_nil (q_n (k13 _ _ ?_))
 refine sx_seq fun K22 k22 => sx_region ?_
 refine sx_pure rfl rfl rfl (px_load rfl (gw20.loadA (vs := [.string c1, .bool n1, s119]) (look_lit rfl) Tryz.isAgg48 Tryz.sizeOf48)) ?_
 have f24 := fb4.ext cb7
 have f25 := f24.chg cw12 (by omega)
 have f26 := f25.ext c19
 have f27 := f26.chg cw20 (by omega)
 have f28 := os1_19.chg cw20 (by omega)
 refine sx_store (vs := [.string c1, .bool n1, s119]) rfl rfl f27 rfl Tryz.sizeOf48 (Nat.le_of_ble_eq_true rfl) (one_cons rfl (one_cons rfl (one_cons f28.one one_nil))) (fun w23 sw23 fw23 cw23 => ?_)
 have zw23 := cw23.size
 have gw23 : Blk w23 b4 [.string c1, .bool n1, s119] 48 := fw23
 refine wl_nil (q_n (k22 _ _ ?_))
 refine sx_retc ?_
 refine sx_ret1 Tryz.results20 ⟨_, rfl, gw23.loadA (vs := [.string c1, .bool n1, s119]) (look_lit rfl) Tryz.isAgg48 Tryz.sizeOf48⟩ ?_
 have q29 := Chg.step (l := 0) (h := 0) (Chg.zero (l := 0) (h := 0) ((cb2.t cb4).t cb7)) cw12 (by omega)
 have q30 := Chg.step (l := 0) (h := 0) q29 c19 (by omega)
 have q31 := Chg.step (l := 0) (h := 0) q30 cw20 (by omega)
 have q32 := Chg.step (l := 0) (h := 0) q31 cw23 (by omega)
 have f33 := f28.chg cw23 (by omega)
 exact ⟨_, rfl, Own.mono f33 (by omega) (by omega), q32⟩

theorem c_sMoneyOk {w : World} {c1 : ByteArray} {n1 : Bool} {v1 : Value} {lv1 uv1 : Nat} {z1 : List Int} (hv1 : Sl w lv1 uv1 v1 (z1)) (h63 : z1.length ≤ 4611686018427387904) :
  Ret Tryz.prog 57 [.agg #[.string c1, .bool n1, v1]] w fun v w' => v = .bool (decide (MOk c1 n1 z1)) ∧ Chg 0 0 w w' := by
 have hv10 := hv1.fit
 refine sx_enter Tryz.func57 rfl Tryz.ntmps57 (Nat.le_of_ble_eq_true rfl) ?_
 refine sx_seq fun K1 k1 => sx_region ?_
 refine sx_box [.string c1, .bool n1, v1] rfl rfl rfl (fun b2 w3 eb2 sb2 fb2 cb2 => ?_)
 have zw3 := cb2.size
 refine sa rfl rfl rfl rfl ?_
 refine wl_nil (q_n (k1 _ _ ?_))
 refine sx_seq fun K4 k4 => sx_region ?_
 refine sx_pure rfl rfl rfl (px_field rfl xfld48x0) ?_
 refine sx_pure rfl rfl rfl (px_load rfl (fb2.load1 rfl Tryz.isAgg9)) ?_
 refine sx_call rfl rfl Tryz.call67 (c_sCurKnown) (fun v5 w5 p5 => ?_)
 obtain ⟨rfl, c5⟩ := p5
 have zw5 := c5.size
 refine sm rfl rfl rfl rfl ?_
 refine sx_tmpP (t := 6) rfl (fun h7 => ?_) (fun h7 => ?_)
 ·
  refine sx_guardT rfl rfl rfl ?_
  refine sx_pure rfl rfl rfl (px_field rfl xfld48x1) ?_
  refine sx_guardT rfl rfl rfl ?_
  have f6 := fb2.ext c5
  refine sx_pure rfl rfl rfl (px_load rfl (f6.loadA (vs := [.bool n1, v1]) (look_lit rfl) Tryz.isAgg28 Tryz.sizeOf28)) ?_
  refine sx_guardT rfl rfl rfl ?_
  have f7 := hv10.ext cb2
  have f8 := f7.ext c5
  refine sx_call rfl rfl Tryz.call95 (c_sIntOk f8 (by omega)) (fun v9 w9 p9 => ?_)
  obtain ⟨rfl, c9⟩ := p9
  have zw9 := c9.size
  refine sx_pure rfl rfl rfl (px_pick rfl rfl) ?_
  refine sm rfl rfl rfl rfl ?_
  refine sx_tmpP (t := 11) rfl (fun h7x1 => ?_) (fun h7x1 => ?_)
  ·
   refine sx_guardT rfl rfl rfl ?_
   refine sx_pure rfl rfl rfl (px_field rfl xfld48x1) ?_
   refine sx_guardT rfl rfl rfl ?_
   refine sx_pure rfl rfl rfl (px_field rfl xfld28x1) ?_
   refine sx_guardT rfl rfl rfl ?_
   have f10 := f6.ext c9
   refine sx_pure rfl rfl rfl (px_load rfl (f10.load1 rfl Tryz.isAgg26)) ?_
   refine sx_guardT rfl rfl rfl ?_
   have f11 := f8.ext c9
   refine sx_pure rfl rfl rfl (px_len rfl Tryz.underlying26 f11) ?_
   refine sx_guardT rfl rfl rfl ?_
   refine sx_pure rfl rfl rfl (px_le rfl rfl) ?_
   refine sx_pure rfl rfl rfl (px_pick rfl rfl) ?_
   refine sa rfl rfl rfl rfl ?_
   refine wl_nil (q_n (k4 _ _ ?_))
   refine sx_sub (Sub.cons (t := 2) rfl (.nil)) ?_
   refine sx_retc ?_
   refine sx_ret1 Tryz.results57 rfl ?_
   exact ⟨(by first | exact bTrue (by grind [MOk]) | exact bFalse (by grind [MOk]) | exact bIff (by grind [MOk])), ((cb2.t c5).t c9)⟩
  ·
   refine sx_guardF rfl rfl rfl rfl rfl rfl ?_
   refine sx_guardF rfl rfl rfl rfl rfl rfl ?_
   refine sx_guardF rfl rfl rfl rfl rfl rfl ?_
   refine sx_guardF rfl rfl rfl rfl rfl rfl ?_
   refine sx_guardF rfl rfl rfl rfl rfl rfl ?_
   refine sx_pure rfl rfl rfl (px_pick rfl rfl) ?_
   refine sa rfl rfl rfl rfl ?_
   refine wl_nil (q_n (k4 _ _ ?_))
   refine sx_sub (Sub.cons (t := 2) rfl (.nil)) ?_
   refine sx_retc ?_
   refine sx_ret1 Tryz.results57 rfl ?_
   exact ⟨(by first | exact bTrue (by grind [MOk]) | exact bFalse (by grind [MOk]) | exact bIff (by grind [MOk])), ((cb2.t c5).t c9)⟩
 ·
  refine sx_guardF rfl rfl rfl rfl rfl rfl ?_
  refine sx_guardF rfl rfl rfl rfl rfl rfl ?_
  refine sx_guardF rfl rfl rfl rfl rfl rfl ?_
  refine sx_pure rfl rfl rfl (px_pick rfl rfl) ?_
  refine sm rfl rfl rfl rfl ?_
  refine sx_guardF rfl rfl rfl rfl rfl rfl ?_
  refine sx_guardF rfl rfl rfl rfl rfl rfl ?_
  refine sx_guardF rfl rfl rfl rfl rfl rfl ?_
  refine sx_guardF rfl rfl rfl rfl rfl rfl ?_
  refine sx_guardF rfl rfl rfl rfl rfl rfl ?_
  refine sx_pure rfl rfl rfl (px_pick rfl rfl) ?_
  refine sa rfl rfl rfl rfl ?_
  refine wl_nil (q_n (k4 _ _ ?_))
  refine sx_sub (Sub.cons (t := 2) rfl (.nil)) ?_
  refine sx_retc ?_
  refine sx_ret1 Tryz.results57 rfl ?_
  exact ⟨(by first | exact bTrue (by grind [MOk]) | exact bFalse (by grind [MOk]) | exact bIff (by grind [MOk])), (cb2.t c5)⟩

theorem c_sMoneyRat {w : World} {c1 : ByteArray} {n1 : Bool} {v1 : Value} {lv1 uv1 : Nat} {z1 : List Int} (hv1 : Sl w lv1 uv1 v1 (z1)) (h63 : z1.length ≤ 4611686018427387904) :
  Ret Tryz.prog 58 [.agg #[.string c1, .bool n1, v1]] w fun v w' => ∃ s t ls us lt ut, v = .agg #[.bool ((mRat c1 n1 z1).1), s, t] ∧ OwnI w' (ls) (us) s intT ((mRat c1 n1 z1).2.1) ∧ OwnI w' (lt) (ut) t intT ((mRat c1 n1 z1).2.2.1) ∧ (w.heap.size ≤ ls ∧ us ≤ w'.heap.size ∧ w.heap.size ≤ lt ∧ ut ≤ w'.heap.size ∧ (us ≤ lt ∨ ut ≤ ls)) ∧ ((mRat c1 n1 z1).2.1.length ≤ 18 ∧ (mRat c1 n1 z1).2.2.1.length ≤ 18) ∧ Chg 0 0 w w' := by
 have hv10 := hv1.fit
 refine sx_enter Tryz.func58 rfl Tryz.ntmps58 (Nat.le_of_ble_eq_true rfl) ?_
 refine sx_seq fun K1 k1 => sx_region ?_
 refine sx_box [.string c1, .bool n1, v1] rfl rfl rfl (fun b2 w3 eb2 sb2 fb2 cb2 => ?_)
 have zw3 := cb2.size
 refine sx_alloc [.bool false, (.slice none 0 0), (.slice none 0 0)] rfl Tryz.zeroValue30 rfl (fun b4 w5 eb4 sb4 fb4 cb4 => ?_)
 have zw5 := cb4.size
 refine wl_nil (q_n (k1 _ _ ?_))
 refine sx_seq fun K6 k6 => ?_
 refine sx_seq fun K7 k7 => sx_region ?_
 have f8 := fb2.ext cb4
 refine sx_pure rfl rfl rfl (px_load rfl (f8.loadA (vs := [.string c1, .bool n1, v1]) (look_lit rfl) Tryz.isAgg48 Tryz.sizeOf48)) ?_
 have f9 := hv10.ext cb2
 have f10 := f9.ext cb4
 refine sx_call rfl rfl Tryz.call57 (c_sMoneyOk f10 (by omega)) (fun v11 w11 p11 => ?_)
 obtain ⟨rfl, c11⟩ := p11
 have zw11 := c11.size
 refine sx_pure rfl rfl rfl (px_notP rfl) ?_
 refine wl_nil (q_n (k7 _ _ ?_))
 refine sx_condP rfl (fun h97 => ?_) (fun h97 => ?_)
 ·
  refine sx_seq fun K12 k12 => sx_region ?_
  refine sx_pure rfl rfl rfl (px_build rfl (xbld30x  _)) ?_
  have f14 := fb4.ext c11
  refine sx_store (vs := [.bool false, (.slice none 0 0), (.slice none 0 0)]) rfl rfl f14 rfl Tryz.sizeOf30 (Nat.le_of_ble_eq_true rfl) (one_cons rfl (one_cons rfl (one_cons rfl one_nil))) (fun w13 sw13 fw13 cw13 => ?_)
  have zw13 := cw13.size
  have gw13 : Blk w13 b4 [.bool false, (.slice none 0 0), (.slice none 0 0)] 30 := fw13
  refine wl_nil (q_n (k12 _ _ ?_))
  refine sx_retc ?_
  refine q_r (sx_ret1 Tryz.results58 ⟨_, rfl, gw13.loadA (vs := [.bool false, (.slice none 0 0), (.slice none 0 0)]) (look_lit rfl) Tryz.isAgg30 Tryz.sizeOf30⟩ ?_)
  rw [mRat_no h97]
  have q15 := Chg.step (l := 0) (h := 0) (Chg.zero (l := 0) (h := 0) ((cb2.t cb4).t c11)) cw13 (by omega)
  exact ⟨_, _, w.heap.size, w.heap.size, w.heap.size, w.heap.size, rfl, Own.nil _ _ _ _ _, Own.nil _ _ _ _ _, by omega, ⟨by simp [noR], by simp [noR]⟩, q15⟩
 ·
  have hM := Decidable.not_not.1 h97
  have hM4 := hM.2.2
  refine sx_skip ?_
  refine q_n (k6 _ _ ?_)
  refine sx_seq fun K16 k16 => sx_region ?_
  refine sx_pure rfl rfl rfl (px_field rfl xfld48x1) ?_
  have f17 := f8.ext c11
  refine sx_pure rfl rfl rfl (px_load rfl (f17.loadA (vs := [.bool n1, v1]) (look_lit rfl) Tryz.isAgg28 Tryz.sizeOf28)) ?_
  have f18 := f10.ext c11
  refine sx_call rfl rfl Tryz.call29 (c_sRatInt f18 (by omega)) (fun v19 w19 p19 => ?_)
  obtain ⟨s19, t19, ls19, us19, lt19, ut19, rfl, os_19, ot_19, hd19, hl19, c19⟩ := p19
  have zw19 := c19.size
  refine sm rfl rfl rfl rfl ?_
  refine sx_pure rfl rfl rfl (px_extract (vs := [.agg #[.bool ((rInt n1 z1).1), s19, t19], .bool ((rInt n1 z1).2.2.2)]) rfl rfl) ?_
  refine sx_pure rfl rfl rfl (px_extract (vs := [.agg #[.bool ((rInt n1 z1).1), s19, t19], .bool ((rInt n1 z1).2.2.2)]) rfl rfl) ?_
  refine sx_alloc [.bool false, (.slice none 0 0), (.slice none 0 0)] rfl Tryz.zeroValue30 rfl (fun b20 w21 eb20 sb20 fb20 cb20 => ?_)
  have zw21 := cb20.size
  have f23 := ot_19.ext cb20
  have f24 := os_19.ext cb20
  refine sx_store (vs := [.bool ((rInt n1 z1).1), s19, t19]) rfl rfl fb20 rfl Tryz.sizeOf30 (Nat.le_of_ble_eq_true rfl) (one_cons rfl (one_cons f24.one (one_cons f23.one one_nil))) (fun w22 sw22 fw22 cw22 => ?_)
  have zw22 := cw22.size
  have gw22 : Blk w22 b20 [.bool ((rInt n1 z1).1), s19, t19] 30 := fw22
  refine sa rfl rfl rfl rfl ?_
  refine wl_nil (q_n (k16 _ _ ?_))
  refine sx_seq fun K25 k25 => sx_region ?_
  refine sx_pure rfl rfl rfl (px_load rfl (gw22.loadA (vs := [.bool ((rInt n1 z1).1), s19, t19]) (look_lit rfl) Tryz.isAgg30 Tryz.sizeOf30)) ?_
  have f27 := fb4.ext c11
  have f28 := f27.ext c19
  have f29 := f28.ext cb20
  have f30 := f29.chg cw22 (by omega)
  have f31 := f23.chg cw22 (by omega)
  have f32 := f24.chg cw22 (by omega)
  refine sx_store (vs := [.bool ((rInt n1 z1).1), s19, t19]) rfl rfl f30 rfl Tryz.sizeOf30 (Nat.le_of_ble_eq_true rfl) (one_cons rfl (one_cons f32.one (one_cons f31.one one_nil))) (fun w26 sw26 fw26 cw26 => ?_)
  have zw26 := cw26.size
  have gw26 : Blk w26 b4 [.bool ((rInt n1 z1).1), s19, t19] 30 := fw26
  refine wl_nil (q_n (k25 _ _ ?_))
  refine sx_sub (Sub.cons (t := 2) rfl (.nil)) ?_
  refine sx_retc ?_
  refine sx_ret1 Tryz.results58 ⟨_, rfl, gw26.loadA (vs := [.bool ((rInt n1 z1).1), s19, t19]) (look_lit rfl) Tryz.isAgg30 Tryz.sizeOf30⟩ ?_
  have hrl := mRat_len (c := c1) (n := n1) (z := z1)
  rw [← mRat_int hM] at hrl ⊢
  have q33 := Chg.step (l := 0) (h := 0) (Chg.zero (l := 0) (h := 0) ((((cb2.t cb4).t c11).t c19).t cb20)) cw22 (by omega)
  have q34 := Chg.step (l := 0) (h := 0) q33 cw26 (by omega)
  have f35 := f32.chg cw26 (by omega)
  have f36 := f31.chg cw26 (by omega)
  exact ⟨_, _, _, _, _, _, rfl, f35, f36, by omega, hrl, q34⟩

theorem c_sExact {w : World} {pv : ByteArray} {vt : Value} {lvt uvt : Nat} {ts : List Rt} {vvt : List Value} {c1 : ByteArray} {n1 : Bool} {v1 : Value} {lv1 uv1 : Nat} {z1 : List Int} {to : ByteArray} (hvt : RtS w lvt uvt vt ts vvt) (hv1 : Sl w lv1 uv1 v1 (z1)) (h63 : ts.length ≤ 4611686018427387904) (hz : ∀ i, i < ts.length → (ts.getD i rt0).2.2.2.1.length ≤ 4611686018427387904) (h64 : z1.length ≤ 4611686018427387904) :
  Ret Tryz.prog 19 [.agg #[.string pv, vt], .agg #[.string c1, .bool n1, v1], .string to] w fun v w' => ∃ s t ls us lt ut, v = .tuple #[.agg #[.bool ((exct pv ts c1 n1 z1 to).1), s, t], .bool ((exct pv ts c1 n1 z1 to).2.2.2)] ∧ OwnI w' (ls) (us) s intT ((exct pv ts c1 n1 z1 to).2.1) ∧ OwnI w' (lt) (ut) t intT ((exct pv ts c1 n1 z1 to).2.2.1) ∧ (w.heap.size ≤ ls ∧ us ≤ w'.heap.size ∧ w.heap.size ≤ lt ∧ ut ≤ w'.heap.size ∧ (us ≤ lt ∨ ut ≤ ls)) ∧ ((exct pv ts c1 n1 z1 to).2.1.length ≤ 18 ∧ (exct pv ts c1 n1 z1 to).2.2.1.length ≤ 18) ∧ Chg 0 0 w w' := by
 have hvt0 := hvt.fit
 have hv10 := hv1.fit
 refine sx_enter Tryz.func19 rfl Tryz.ntmps19 (Nat.le_of_ble_eq_true rfl) ?_
 refine sx_seq fun K1 k1 => sx_region ?_
 refine sx_box [.string pv, vt] rfl rfl rfl (fun b2 w3 eb2 sb2 fb2 cb2 => ?_)
 have zw3 := cb2.size
 refine sx_box [.string c1, .bool n1, v1] rfl rfl rfl (fun b4 w5 eb4 sb4 fb4 cb4 => ?_)
 have zw5 := cb4.size
 refine sx_alloc [.bool false, (.slice none 0 0), (.slice none 0 0)] rfl Tryz.zeroValue30 rfl (fun b6 w7 eb6 sb6 fb6 cb6 => ?_)
 have zw7 := cb6.size
 refine sa rfl rfl rfl rfl ?_
 refine wl_nil (q_n (k1 _ _ ?_))
 refine sx_seq fun K8 k8 => sx_region ?_
 have f9 := fb2.ext cb4
 have f10 := f9.ext cb6
 refine sx_pure rfl rfl rfl (px_load rfl (f10.loadA (vs := [.string pv, vt]) (look_lit rfl) Tryz.isAgg35 Tryz.sizeOf35)) ?_
 refine sx_pure rfl rfl rfl (px_field rfl xfld48x0) ?_
 have f11 := fb4.ext cb6
 refine sx_pure rfl rfl rfl (px_load rfl (f11.load1 rfl Tryz.isAgg9)) ?_
 refine sm rfl rfl rfl rfl ?_
 have f12 := hvt0.ext cb2
 have f13 := f12.ext cb4
 have f14 := f13.ext cb6
 refine sx_call rfl rfl Tryz.call16 (c_sUnitRate f14 (by omega) (by first | assumption | exact fun i hi => Nat.le_trans (hzz i hi) (by omega))) (fun v15 w15 p15 => ?_)
 obtain ⟨s15, t15, ls15, us15, lt15, ut15, rfl, os_15, ot_15, hd15, hl15, c15⟩ := p15
 have zw15 := c15.size
 refine sm rfl rfl rfl rfl ?_
 refine sx_pure rfl rfl rfl (px_extract (vs := [.agg #[.bool ((uRt pv ts c1 to).1), s15, t15], .bool ((uRt pv ts c1 to).2.2.2)]) rfl rfl) ?_
 refine sx_pure rfl rfl rfl (px_extract (vs := [.agg #[.bool ((uRt pv ts c1 to).1), s15, t15], .bool ((uRt pv ts c1 to).2.2.2)]) rfl rfl) ?_
 refine sx_alloc [.bool false, (.slice none 0 0), (.slice none 0 0)] rfl Tryz.zeroValue30 rfl (fun b16 w17 eb16 sb16 fb16 cb16 => ?_)
 have zw17 := cb16.size
 have f19 := ot_15.ext cb16
 have f20 := os_15.ext cb16
 refine sx_store (vs := [.bool ((uRt pv ts c1 to).1), s15, t15]) rfl rfl fb16 rfl Tryz.sizeOf30 (Nat.le_of_ble_eq_true rfl) (one_cons rfl (one_cons f20.one (one_cons f19.one one_nil))) (fun w18 sw18 fw18 cw18 => ?_)
 have zw18 := cw18.size
 have gw18 : Blk w18 b16 [.bool ((uRt pv ts c1 to).1), s15, t15] 30 := fw18
 refine sa rfl rfl rfl rfl ?_
 refine wl_nil (q_n (k8 _ _ ?_))
 refine sx_sub (Sub.cons (t := 4) rfl (.cons (t := 6) rfl (.cons (t := 7) rfl (.cons (t := 8) rfl (.cons (t := 9) rfl (.nil)))))) ?_
 refine sx_seq fun K21 k21 => ?_
 refine sx_seq fun K22 k22 => sx_region ?_
 refine sm rfl rfl rfl rfl ?_
 refine sx_pure rfl rfl rfl (px_not rfl) ?_
 refine sm rfl rfl rfl rfl ?_
 refine sx_tmpB (t := 20) rfl (fun h18 => ?_) (fun h18 => ?_)
 ·
  refine sx_guardF rfl rfl rfl rfl rfl rfl ?_
  refine sx_guardF rfl rfl rfl rfl rfl rfl ?_
  refine sx_guardF rfl rfl rfl rfl rfl rfl ?_
  refine sx_pure rfl rfl rfl (px_pick rfl rfl) ?_
  refine wl_nil (q_n (k22 _ _ ?_))
  refine sx_condT rfl ?_
  refine sx_seq fun K23 k23 => sx_region ?_
  refine sx_pure rfl rfl rfl (px_build rfl (xbld30x  _)) ?_
  have f25 := fb6.ext c15
  have f26 := f25.ext cb16
  have f27 := f26.chg cw18 (by omega)
  refine sx_store (vs := [.bool false, (.slice none 0 0), (.slice none 0 0)]) rfl rfl f27 rfl Tryz.sizeOf30 (Nat.le_of_ble_eq_true rfl) (one_cons rfl (one_cons rfl (one_cons rfl one_nil))) (fun w24 sw24 fw24 cw24 => ?_)
  have zw24 := cw24.size
  have gw24 : Blk w24 b6 [.bool false, (.slice none 0 0), (.slice none 0 0)] 30 := fw24
  refine sa rfl rfl rfl rfl ?_
  refine wl_nil (q_n (k23 _ _ ?_))
  refine sx_retc ?_
  refine q_r (sx_ret2 Tryz.results19 ⟨_, rfl, gw24.loadA (vs := [.bool false, (.slice none 0 0), (.slice none 0 0)]) (look_lit rfl) Tryz.isAgg30 Tryz.sizeOf30⟩ rfl ?_)
  rw [exct_no (fun hh => by first | exact bcl hh.2 h18 | exact h18x1 hh.1)]
  have q28 := Chg.step (l := 0) (h := 0) (Chg.zero (l := 0) (h := 0) ((((cb2.t cb4).t cb6).t c15).t cb16)) cw18 (by omega)
  have q29 := Chg.step (l := 0) (h := 0) q28 cw24 (by omega)
  exact ⟨_, _, w.heap.size, w.heap.size, w.heap.size, w.heap.size, rfl, Own.nil _ _ _ _ _, Own.nil _ _ _ _ _, by omega, ⟨by simp [noR], by simp [noR]⟩, q29⟩
 ·
  refine sx_guardT rfl rfl rfl ?_
  have f30 := f11.ext c15
  have f31 := f30.ext cb16
  have f32 := f31.chg cw18 (by omega)
  refine sx_pure rfl rfl rfl (px_load rfl (f32.loadA (vs := [.string c1, .bool n1, v1]) (look_lit rfl) Tryz.isAgg48 Tryz.sizeOf48)) ?_
  refine sx_guardT rfl rfl rfl ?_
  have f33 := hv10.ext cb2
  have f34 := f33.ext cb4
  have f35 := f34.ext cb6
  have f36 := f35.ext c15
  have f37 := f36.ext cb16
  have f38 := f37.chg cw18 (by omega)
  refine sx_call rfl rfl Tryz.call57 (c_sMoneyOk f38 (by omega)) (fun v39 w39 p39 => ?_)
  obtain ⟨rfl, c39⟩ := p39
  have zw39 := c39.size
  refine sx_guardT rfl rfl rfl ?_
  refine sx_pure rfl rfl rfl (px_notP rfl) ?_
  refine sx_pure rfl rfl rfl (px_pick rfl rfl) ?_
  refine wl_nil (q_n (k22 _ _ ?_))
  refine sx_condP rfl (fun h18x1 => ?_) (fun h18x1 => ?_)
  ·
   refine sx_seq fun K40 k40 => sx_region ?_
   refine sx_pure rfl rfl rfl (px_build rfl (xbld30x  _)) ?_
   have f42 := fb6.ext c15
   have f43 := f42.ext cb16
   have f44 := f43.chg cw18 (by omega)
   have f45 := f44.ext c39
   refine sx_store (vs := [.bool false, (.slice none 0 0), (.slice none 0 0)]) rfl rfl f45 rfl Tryz.sizeOf30 (Nat.le_of_ble_eq_true rfl) (one_cons rfl (one_cons rfl (one_cons rfl one_nil))) (fun w41 sw41 fw41 cw41 => ?_)
   have zw41 := cw41.size
   have gw41 : Blk w41 b6 [.bool false, (.slice none 0 0), (.slice none 0 0)] 30 := fw41
   refine sa rfl rfl rfl rfl ?_
   refine wl_nil (q_n (k40 _ _ ?_))
   refine sx_retc ?_
   refine q_r (sx_ret2 Tryz.results19 ⟨_, rfl, gw41.loadA (vs := [.bool false, (.slice none 0 0), (.slice none 0 0)]) (look_lit rfl) Tryz.isAgg30 Tryz.sizeOf30⟩ rfl ?_)
   rw [exct_no (fun hh => by first | exact bcl hh.2 h18 | exact h18x1 hh.1)]
   have q46 := Chg.step (l := 0) (h := 0) (Chg.zero (l := 0) (h := 0) ((((cb2.t cb4).t cb6).t c15).t cb16)) cw18 (by omega)
   have q47 := Chg.step (l := 0) (h := 0) q46 c39 (by omega)
   have q48 := Chg.step (l := 0) (h := 0) q47 cw41 (by omega)
   exact ⟨_, _, w.heap.size, w.heap.size, w.heap.size, w.heap.size, rfl, Own.nil _ _ _ _ _, Own.nil _ _ _ _ _, by omega, ⟨by simp [noR], by simp [noR]⟩, q48⟩
  ·
   refine sx_skip ?_
   refine q_n (k21 _ _ ?_)
   refine sx_seq fun K49 k49 => ?_
   have f50 := f10.ext c15
   have f51 := f50.ext cb16
   have f52 := f51.chg cw18 (by omega)
   have f53 := f52.ext c39
   have f54 := f32.ext c39
   have f55 := gw18.ext c39
   have f56 := f14.ext c15
   have f57 := f56.ext cb16
   have f58 := f57.chg cw18 (by omega)
   have f59 := f58.ext c39
   have f60 := f38.ext c39
   have f61 := f20.chg cw18 (by omega)
   have f62 := f61.ext c39
   have f63 := f19.chg cw18 (by omega)
   have f64 := f63.ext c39
   refine dx_region (fun w' => Chg b6 (b6 + 1) w39 w') (by kernel_rfl) (Chg.zero (Chg.drew _)) ?_
   have d65 := Chg.drew w39
   have s65 : Chg b6 (b6 + 1) w39 (World.drew w39) := Chg.zero (Chg.drew _)
   have y65 : (World.drew w39).heap.size = w39.heap.size := rfl
   generalize World.drew w39 = w65 at *
   have zw65 := d65.size
   refine dx_take 0 rfl rfl rfl rfl (by kernel_rfl) (by kernel_rfl) (by kernel_rfl) s65 (fun _ hS => px_load rfl ((f54.chg hS (by omega)).loadA (vs := [.string c1, .bool n1, v1]) (look_lit rfl) Tryz.isAgg48 Tryz.sizeOf48)) ?_
   refine dx_take 2 rfl rfl rfl rfl (by kernel_rfl) (by kernel_rfl) (by kernel_rfl) s65 (fun _ hS => px_load rfl ((f55.chg hS (by omega)).loadA (vs := [.bool ((uRt pv ts c1 to).1), s15, t15]) (look_lit rfl) Tryz.isAgg30 Tryz.sizeOf30)) ?_
   refine dx_eff 1 rfl (by kernel_rfl) ?_
   have f66 := f60.ext d65
   refine sx_call rfl rfl Tryz.call58 (c_sMoneyRat f66 (by omega)) (fun v67 w67 p67 => ?_)
   obtain ⟨s67, t67, ls67, us67, lt67, ut67, rfl, os_67, ot_67, hd67, hl67, c67⟩ := p67
   have zw67 := c67.size
   have s68 : Chg b6 (b6 + 1) w39 w67 := (Chg.zero (l := b6) (h := (b6 + 1)) (d65.t c67))
   refine wl_nil ?_
   refine dx_next s68 ?_
   refine dx_eff 3 rfl (by kernel_rfl) ?_
   have f69 := f62.ext d65
   have f70 := f69.ext c67
   have f71 := f64.ext d65
   have f72 := f71.ext c67
   refine sx_call rfl rfl Tryz.call32 (c_sRatMul os_67.sv ot_67.sv f70.sv f72.sv (by have h8 := mRat_len (c := c1) (n := n1) (z := z1); have h9 := uRt_len (pv := pv) (ts := ts) (a := c1) (b := to); omega)) (fun v73 w73 p73 => ?_)
   obtain ⟨s73, t73, ls73, us73, lt73, ut73, rfl, os_73, ot_73, hd73, hl73, c73⟩ := p73
   have zw73 := c73.size
   have s74 : Chg b6 (b6 + 1) w39 w73 := (Chg.zero (l := b6) (h := (b6 + 1)) ((d65.t c67).t c73))
   refine wl_nil ?_
   refine dx_next s74 ?_
   refine dx_take 4 rfl rfl rfl rfl (by kernel_rfl) (by kernel_rfl) (by kernel_rfl) s74 (fun _ hS => px_extract (vs := [.agg #[.bool ((rMul ((mRat c1 n1 z1).1) ((mRat c1 n1 z1).2.1) ((mRat c1 n1 z1).2.2.1) ((uRt pv ts c1 to).1) ((uRt pv ts c1 to).2.1) ((uRt pv ts c1 to).2.2.1)).1), s73, t73], .bool ((rMul ((mRat c1 n1 z1).1) ((mRat c1 n1 z1).2.1) ((mRat c1 n1 z1).2.2.1) ((uRt pv ts c1 to).1) ((uRt pv ts c1 to).2.1) ((uRt pv ts c1 to).2.2.1)).2.2.2)]) rfl rfl) ?_
   refine dx_take 5 rfl rfl rfl rfl (by kernel_rfl) (by kernel_rfl) (by kernel_rfl) s74 (fun _ hS => px_extract (vs := [.agg #[.bool ((rMul ((mRat c1 n1 z1).1) ((mRat c1 n1 z1).2.1) ((mRat c1 n1 z1).2.2.1) ((uRt pv ts c1 to).1) ((uRt pv ts c1 to).2.1) ((uRt pv ts c1 to).2.2.1)).1), s73, t73], .bool ((rMul ((mRat c1 n1 z1).1) ((mRat c1 n1 z1).2.1) ((mRat c1 n1 z1).2.2.1) ((uRt pv ts c1 to).1) ((uRt pv ts c1 to).2.1) ((uRt pv ts c1 to).2.2.1)).2.2.2)]) rfl rfl) ?_
   refine dx_eff 6 rfl (by kernel_rfl) ?_
   have f76 := fb6.ext c15
   have f77 := f76.ext cb16
   have f78 := f77.chg cw18 (by omega)
   have f79 := f78.ext c39
   have f80 := f79.ext d65
   have f81 := f80.ext c67
   have f82 := f81.ext c73
   refine sx_store (vs := [.bool ((rMul ((mRat c1 n1 z1).1) ((mRat c1 n1 z1).2.1) ((mRat c1 n1 z1).2.2.1) ((uRt pv ts c1 to).1) ((uRt pv ts c1 to).2.1) ((uRt pv ts c1 to).2.2.1)).1), s73, t73]) rfl rfl f82 rfl Tryz.sizeOf30 (Nat.le_of_ble_eq_true rfl) (one_cons rfl (one_cons os_73.one (one_cons ot_73.one one_nil))) (fun w75 sw75 fw75 cw75 => ?_)
   have zw75 := cw75.size
   have gw75 : Blk w75 b6 [.bool ((rMul ((mRat c1 n1 z1).1) ((mRat c1 n1 z1).2.1) ((mRat c1 n1 z1).2.2.1) ((uRt pv ts c1 to).1) ((uRt pv ts c1 to).2.1) ((uRt pv ts c1 to).2.2.1)).1), s73, t73] 30 := fw75
   have q84 := Chg.step (l := b6) (h := (b6 + 1)) (Chg.zero (l := b6) (h := (b6 + 1)) ((d65.t c67).t c73)) cw75 (by omega)
   have s83 : Chg b6 (b6 + 1) w39 w75 := q84
   refine wl_nil ?_
   refine dx_next s83 ?_
   refine dx_take 7 rfl rfl rfl rfl (by kernel_rfl) (by kernel_rfl) (by kernel_rfl) s83 (fun _ hS => px_assign rfl) ?_
   refine dx_done (by kernel_rfl) ?_
   refine q_n (k49 _ _ ?_)
   refine sx_sub (Sub.cons (t := 6) rfl (.cons (t := 7) rfl (.nil))) ?_
   refine sx_retc ?_
   refine sx_ret2 Tryz.results19 ⟨_, rfl, gw75.loadA (vs := [.bool ((rMul ((mRat c1 n1 z1).1) ((mRat c1 n1 z1).2.1) ((mRat c1 n1 z1).2.2.1) ((uRt pv ts c1 to).1) ((uRt pv ts c1 to).2.1) ((uRt pv ts c1 to).2.2.1)).1), s73, t73]) (look_lit rfl) Tryz.isAgg30 Tryz.sizeOf30⟩ rfl ?_
   have hrl := exct_len (pv := pv) (ts := ts) (c := c1) (n := n1) (z := z1) (to := to)
   rw [exct_ok (Decidable.not_not.1 h18x1) (bnot_f h18)] at hrl ⊢
   have q85 := Chg.step (l := 0) (h := 0) (Chg.zero (l := 0) (h := 0) ((((cb2.t cb4).t cb6).t c15).t cb16)) cw18 (by omega)
   have q86 := Chg.step (l := 0) (h := 0) q85 (((c39.t d65).t c67).t c73) (by omega)
   have q87 := Chg.step (l := 0) (h := 0) q86 cw75 (by omega)
   have f88 := os_73.chg cw75 (by omega)
   have f89 := ot_73.chg cw75 (by omega)
   exact ⟨_, _, _, _, _, _, rfl, f88, f89, by omega, hrl, q87⟩

theorem c_iMoneyOk {w : World} {c1 : ByteArray} {n1 : Bool} {v1 : Value} {lv1 uv1 : Nat} {z1 : List Int} (hG0 : Glob w) (hv1 : Sl w lv1 uv1 v1 (z1)) (h63 : z1.length ≤ 4611686018427387904) :
  Ret Tryz.prog 60 [.agg #[.string c1, .bool n1, v1]] w fun v w' => v = .bool (decide (MOk c1 n1 z1)) ∧ Chg 0 0 w w' := by
 have hv10 := hv1.fit
 refine sx_enter Tryz.func60 rfl Tryz.ntmps60 (Nat.le_of_ble_eq_true rfl) ?_
 refine sx_seq fun K1 k1 => sx_region ?_
 refine sx_box [.string c1, .bool n1, v1] rfl rfl rfl (fun b2 w3 eb2 sb2 fb2 cb2 => ?_)
 have zw3 := cb2.size
 refine sa rfl rfl rfl rfl ?_
 refine wl_nil (q_n (k1 _ _ ?_))
 refine sx_seq fun K4 k4 => sx_region ?_
 refine sx_pure rfl rfl rfl (px_field rfl xfld48x0) ?_
 refine sx_pure rfl rfl rfl (px_load rfl (fb2.load1 rfl Tryz.isAgg9)) ?_
 have f5 := hG0.ext cb2
 refine sx_call rfl rfl Tryz.call79 (c_iCurKnown f5) (fun v6 w6 p6 => ?_)
 obtain ⟨rfl, c6⟩ := p6
 have zw6 := c6.size
 refine sm rfl rfl rfl rfl ?_
 refine sx_tmpP (t := 6) rfl (fun h14 => ?_) (fun h14 => ?_)
 ·
  refine sx_guardT rfl rfl rfl ?_
  refine sx_pure rfl rfl rfl (px_field rfl xfld48x1) ?_
  refine sx_guardT rfl rfl rfl ?_
  have f7 := fb2.ext c6
  refine sx_pure rfl rfl rfl (px_load rfl (f7.loadA (vs := [.bool n1, v1]) (look_lit rfl) Tryz.isAgg28 Tryz.sizeOf28)) ?_
  refine sx_guardT rfl rfl rfl ?_
  have f8 := hv10.ext cb2
  have f9 := f8.ext c6
  refine sx_call rfl rfl Tryz.call97 (c_iIntOk f9 (by omega)) (fun v10 w10 p10 => ?_)
  obtain ⟨rfl, c10⟩ := p10
  have zw10 := c10.size
  refine sx_pure rfl rfl rfl (px_pick rfl rfl) ?_
  refine sm rfl rfl rfl rfl ?_
  refine sx_tmpP (t := 11) rfl (fun h14x1 => ?_) (fun h14x1 => ?_)
  ·
   refine sx_guardT rfl rfl rfl ?_
   refine sx_pure rfl rfl rfl (px_field rfl xfld48x1) ?_
   refine sx_guardT rfl rfl rfl ?_
   refine sx_pure rfl rfl rfl (px_field rfl xfld28x1) ?_
   refine sx_guardT rfl rfl rfl ?_
   have f11 := f7.ext c10
   refine sx_pure rfl rfl rfl (px_load rfl (f11.load1 rfl Tryz.isAgg26)) ?_
   refine sx_guardT rfl rfl rfl ?_
   have f12 := f9.ext c10
   refine sx_pure rfl rfl rfl (px_len rfl Tryz.underlying26 f12) ?_
   refine sx_guardT rfl rfl rfl ?_
   refine sx_pure rfl rfl rfl (px_le rfl rfl) ?_
   refine sx_pure rfl rfl rfl (px_pick rfl rfl) ?_
   refine sa rfl rfl rfl rfl ?_
   refine wl_nil (q_n (k4 _ _ ?_))
   refine sx_sub (Sub.cons (t := 2) rfl (.nil)) ?_
   refine sx_retc ?_
   refine sx_ret1 Tryz.results60 rfl ?_
   exact ⟨(by first | exact bTrue (by grind [MOk]) | exact bFalse (by grind [MOk]) | exact bIff (by grind [MOk])), ((cb2.t c6).t c10)⟩
  ·
   refine sx_guardF rfl rfl rfl rfl rfl rfl ?_
   refine sx_guardF rfl rfl rfl rfl rfl rfl ?_
   refine sx_guardF rfl rfl rfl rfl rfl rfl ?_
   refine sx_guardF rfl rfl rfl rfl rfl rfl ?_
   refine sx_guardF rfl rfl rfl rfl rfl rfl ?_
   refine sx_pure rfl rfl rfl (px_pick rfl rfl) ?_
   refine sa rfl rfl rfl rfl ?_
   refine wl_nil (q_n (k4 _ _ ?_))
   refine sx_sub (Sub.cons (t := 2) rfl (.nil)) ?_
   refine sx_retc ?_
   refine sx_ret1 Tryz.results60 rfl ?_
   exact ⟨(by first | exact bTrue (by grind [MOk]) | exact bFalse (by grind [MOk]) | exact bIff (by grind [MOk])), ((cb2.t c6).t c10)⟩
 ·
  refine sx_guardF rfl rfl rfl rfl rfl rfl ?_
  refine sx_guardF rfl rfl rfl rfl rfl rfl ?_
  refine sx_guardF rfl rfl rfl rfl rfl rfl ?_
  refine sx_pure rfl rfl rfl (px_pick rfl rfl) ?_
  refine sm rfl rfl rfl rfl ?_
  refine sx_guardF rfl rfl rfl rfl rfl rfl ?_
  refine sx_guardF rfl rfl rfl rfl rfl rfl ?_
  refine sx_guardF rfl rfl rfl rfl rfl rfl ?_
  refine sx_guardF rfl rfl rfl rfl rfl rfl ?_
  refine sx_guardF rfl rfl rfl rfl rfl rfl ?_
  refine sx_pure rfl rfl rfl (px_pick rfl rfl) ?_
  refine sa rfl rfl rfl rfl ?_
  refine wl_nil (q_n (k4 _ _ ?_))
  refine sx_sub (Sub.cons (t := 2) rfl (.nil)) ?_
  refine sx_retc ?_
  refine sx_ret1 Tryz.results60 rfl ?_
  exact ⟨(by first | exact bTrue (by grind [MOk]) | exact bFalse (by grind [MOk]) | exact bIff (by grind [MOk])), (cb2.t c6)⟩

theorem c_intCopy {w : World} {n1 : Bool} {v1 : Value} {lv1 uv1 : Nat} {z1 : List Int} (hv1 : Sl w lv1 uv1 v1 (z1)) (bz1 : z1.length ≤ 1048576) :
  Ret Tryz.prog 98 [.agg #[.bool n1, v1]] w fun v w' => ∃ s, v = .agg #[.bool (n1), s] ∧ OwnI w' w.heap.size w'.heap.size s intT (z1) ∧ Chg 0 0 w w' := by
 have hv10 := hv1.fit
 refine sx_enter Tryz.func98 rfl Tryz.ntmps98 (Nat.le_of_ble_eq_true rfl) ?_
 refine sx_seq fun K1 k1 => sx_region ?_
 refine sx_box [.bool n1, v1] rfl rfl rfl (fun b2 w3 eb2 sb2 fb2 cb2 => ?_)
 have zw3 := cb2.size
 refine sx_alloc [.bool false, (.slice none 0 0)] rfl Tryz.zeroValue28 rfl (fun b4 w5 eb4 sb4 fb4 cb4 => ?_)
 have zw5 := cb4.size
 refine wl_nil (q_n (k1 _ _ ?_))
 refine sx_seq fun K6 k6 => ?_
 have f7 := fb2.ext cb4
 have f8 := hv10.ext cb2
 have f9 := f8.ext cb4
 refine dx_region (fun w' => Chg b4 (b4 + 1) w5 w') (by kernel_rfl) (Chg.zero (Chg.drew _)) ?_
 have d10 := Chg.drew w5
 have s10 : Chg b4 (b4 + 1) w5 (World.drew w5) := Chg.zero (Chg.drew _)
 have y10 : (World.drew w5).heap.size = w5.heap.size := rfl
 generalize World.drew w5 = w10 at *
 have zw10 := d10.size
 refine dx_take 0 rfl rfl rfl rfl (by kernel_rfl) (by kernel_rfl) (by kernel_rfl) s10 (fun _ hS => px_field rfl xfld28x0) ?_
 refine dx_take 1 rfl rfl rfl rfl (by kernel_rfl) (by kernel_rfl) (by kernel_rfl) s10 (fun _ hS => px_load rfl ((f7.chg hS (by omega)).load1 rfl Tryz.isAgg4)) ?_
 refine dx_take 2 rfl rfl rfl rfl (by kernel_rfl) (by kernel_rfl) (by kernel_rfl) s10 (fun _ hS => px_field rfl xfld28x1) ?_
 refine dx_take 3 rfl rfl rfl rfl (by kernel_rfl) (by kernel_rfl) (by kernel_rfl) s10 (fun _ hS => px_load rfl ((f7.chg hS (by omega)).load1 rfl Tryz.isAgg26)) ?_
 refine dx_eff 4 rfl (by kernel_rfl) ?_
 have f11 := f9.ext d10
 refine sx_call rfl rfl Tryz.call123 (c_natCopy f11 (by omega)) (fun v12 w12 p12 => ?_)
 obtain ⟨s12, rfl, os_12, c12⟩ := p12
 have zw12 := c12.size
 have s13 : Chg b4 (b4 + 1) w5 w12 := (Chg.zero (l := b4) (h := (b4 + 1)) (d10.t c12))
 refine wl_nil ?_
 refine dx_next s13 ?_
 refine dx_take 5 rfl rfl rfl rfl (by kernel_rfl) (by kernel_rfl) (by kernel_rfl) s13 (fun _ hS => px_build rfl (xbld28x0x1 rfl os_12.one _)) ?_
 refine dx_eff 6 rfl (by kernel_rfl) ?_
 have f15 := fb4.ext d10
 have f16 := f15.ext c12
 refine sx_store (vs := [.bool n1, v12]) rfl rfl f16 rfl Tryz.sizeOf28 (Nat.le_of_ble_eq_true rfl) (one_cons rfl (one_cons os_12.one one_nil)) (fun w14 sw14 fw14 cw14 => ?_)
 have zw14 := cw14.size
 have gw14 : Blk w14 b4 [.bool n1, v12] 28 := fw14
 have q18 := Chg.step (l := b4) (h := (b4 + 1)) (Chg.zero (l := b4) (h := (b4 + 1)) (d10.t c12)) cw14 (by omega)
 have s17 : Chg b4 (b4 + 1) w5 w14 := q18
 refine wl_nil ?_
 refine dx_next s17 ?_
 refine dx_done (by kernel_rfl) ?_
 refine q_n (k6 _ _ ?_)
 refine sx_retc ?_
 refine sx_ret1 Tryz.results98 ⟨_, rfl, gw14.loadA (vs := [.bool n1, v12]) (look_lit rfl) Tryz.isAgg28 Tryz.sizeOf28⟩ ?_
 have q19 := Chg.step (l := 0) (h := 0) (Chg.zero (l := 0) (h := 0) (((cb2.t cb4).t d10).t c12)) cw14 (by omega)
 have f20 := os_12.chg cw14 (by omega)
 exact ⟨_, rfl, (Own.mono f20 (by omega) (by omega)), q19⟩

theorem c_iMoneyRat {w : World} {c1 : ByteArray} {n1 : Bool} {v1 : Value} {lv1 uv1 : Nat} {z1 : List Int} (hG0 : Glob w) (hv1 : Sl w lv1 uv1 v1 (z1)) (h63 : z1.length ≤ 4611686018427387904) :
  Ret Tryz.prog 61 [.agg #[.string c1, .bool n1, v1]] w fun v w' => ∃ s t ls us lt ut, v = .agg #[.bool ((mRat c1 n1 z1).1), s, t] ∧ OwnI w' (ls) (us) s intT ((mRat c1 n1 z1).2.1) ∧ OwnI w' (lt) (ut) t intT ((mRat c1 n1 z1).2.2.1) ∧ (w.heap.size ≤ ls ∧ us ≤ w'.heap.size ∧ w.heap.size ≤ lt ∧ ut ≤ w'.heap.size ∧ (us ≤ lt ∨ ut ≤ ls)) ∧ ((mRat c1 n1 z1).2.1.length ≤ 18 ∧ (mRat c1 n1 z1).2.2.1.length ≤ 18) ∧ Chg 0 0 w w' := by
 have hv10 := hv1.fit
 refine sx_enter Tryz.func61 rfl Tryz.ntmps61 (Nat.le_of_ble_eq_true rfl) ?_
 refine sx_seq fun K1 k1 => sx_region ?_
 refine sx_box [.string c1, .bool n1, v1] rfl rfl rfl (fun b2 w3 eb2 sb2 fb2 cb2 => ?_)
 have zw3 := cb2.size
 refine sx_alloc [.bool false, (.slice none 0 0), (.slice none 0 0)] rfl Tryz.zeroValue30 rfl (fun b4 w5 eb4 sb4 fb4 cb4 => ?_)
 have zw5 := cb4.size
 refine wl_nil (q_n (k1 _ _ ?_))
 refine sx_seq fun K6 k6 => ?_
 refine sx_seq fun K7 k7 => sx_region ?_
 have f8 := fb2.ext cb4
 refine sx_pure rfl rfl rfl (px_load rfl (f8.loadA (vs := [.string c1, .bool n1, v1]) (look_lit rfl) Tryz.isAgg48 Tryz.sizeOf48)) ?_
 have f9 := hG0.ext cb2
 have f10 := f9.ext cb4
 have f11 := hv10.ext cb2
 have f12 := f11.ext cb4
 refine sx_call rfl rfl Tryz.call60 (c_iMoneyOk f10 f12 (by omega)) (fun v13 w13 p13 => ?_)
 obtain ⟨rfl, c13⟩ := p13
 have zw13 := c13.size
 refine sx_pure rfl rfl rfl (px_notP rfl) ?_
 refine wl_nil (q_n (k7 _ _ ?_))
 refine sx_condP rfl (fun h98 => ?_) (fun h98 => ?_)
 ·
  refine sx_seq fun K14 k14 => sx_region ?_
  refine sx_pure rfl rfl rfl (px_build rfl (xbld30x  _)) ?_
  have f16 := fb4.ext c13
  refine sx_store (vs := [.bool false, (.slice none 0 0), (.slice none 0 0)]) rfl rfl f16 rfl Tryz.sizeOf30 (Nat.le_of_ble_eq_true rfl) (one_cons rfl (one_cons rfl (one_cons rfl one_nil))) (fun w15 sw15 fw15 cw15 => ?_)
  have zw15 := cw15.size
  have gw15 : Blk w15 b4 [.bool false, (.slice none 0 0), (.slice none 0 0)] 30 := fw15
  refine wl_nil (q_n (k14 _ _ ?_))
  refine sx_retc ?_
  refine q_r (sx_ret1 Tryz.results61 ⟨_, rfl, gw15.loadA (vs := [.bool false, (.slice none 0 0), (.slice none 0 0)]) (look_lit rfl) Tryz.isAgg30 Tryz.sizeOf30⟩ ?_)
  rw [mRat_no h98]
  have q17 := Chg.step (l := 0) (h := 0) (Chg.zero (l := 0) (h := 0) ((cb2.t cb4).t c13)) cw15 (by omega)
  exact ⟨_, _, w.heap.size, w.heap.size, w.heap.size, w.heap.size, rfl, Own.nil _ _ _ _ _, Own.nil _ _ _ _ _, by omega, ⟨by simp [noR], by simp [noR]⟩, q17⟩
 ·
  have hM := Decidable.not_not.1 h98
  have hM4 := hM.2.2
  refine sx_skip ?_
  refine q_n (k6 _ _ ?_)
  refine sx_seq fun K18 k18 => sx_region ?_
  refine sx_pure rfl rfl rfl (px_field rfl xfld48x1) ?_
  have f19 := f8.ext c13
  refine sx_pure rfl rfl rfl (px_load rfl (f19.loadA (vs := [.bool n1, v1]) (look_lit rfl) Tryz.isAgg28 Tryz.sizeOf28)) ?_
  have f20 := f12.ext c13
  refine sx_call rfl rfl Tryz.call98 (c_intCopy f20 (by omega)) (fun v21 w21 p21 => ?_)
  obtain ⟨s21, rfl, os_21, c21⟩ := p21
  have zw21 := c21.size
  refine sx_lit1 rfl xelt26 rfl rfl (fun s22 ws22 ss22 fs22 cs22 => ?_)
  have ns22 := Own.norm (f := (Value.int .i64)) (zs := [1]) fs22
  have zws22 := cs22.size
  refine sx_pure rfl rfl rfl (px_build rfl (xbld30x0x1 ns22.one _)) ?_
  have f24 := fb4.ext c13
  have f25 := f24.ext c21
  have f26 := f25.ext cs22
  have f27 := os_21.ext cs22
  refine sx_store (vs := [.bool n1, s21, s22]) rfl rfl f26 rfl Tryz.sizeOf30 (Nat.le_of_ble_eq_true rfl) (one_cons rfl (one_cons f27.one (one_cons ns22.one one_nil))) (fun w23 sw23 fw23 cw23 => ?_)
  have zw23 := cw23.size
  have gw23 : Blk w23 b4 [.bool n1, s21, s22] 30 := fw23
  refine wl_nil (q_n (k18 _ _ ?_))
  refine sx_retc ?_
  refine sx_ret1 Tryz.results61 ⟨_, rfl, gw23.loadA (vs := [.bool n1, s21, s22]) (look_lit rfl) Tryz.isAgg30 Tryz.sizeOf30⟩ ?_
  have hrl := mRat_len (c := c1) (n := n1) (z := z1)
  rw [mRat_ok hM] at hrl ⊢
  have q28 := Chg.step (l := 0) (h := 0) (Chg.zero (l := 0) (h := 0) ((((cb2.t cb4).t c13).t c21).t cs22)) cw23 (by omega)
  have f29 := f27.chg cw23 (by omega)
  have f30 := ns22.chg cw23 (by omega)
  exact ⟨_, _, _, _, _, _, rfl, f29, f30, by omega, hrl, q28⟩

theorem c_iExact {w : World} {pv : ByteArray} {vt : Value} {lvt uvt : Nat} {ts : List Rt} {vvt : List Value} {c1 : ByteArray} {n1 : Bool} {v1 : Value} {lv1 uv1 : Nat} {z1 : List Int} {to : ByteArray} (hG0 : Glob w) (hvt : RtS w lvt uvt vt ts vvt) (hv1 : Sl w lv1 uv1 v1 (z1)) (h63 : ts.length ≤ 4611686018427387904) (hz : ∀ i, i < ts.length → (ts.getD i rt0).2.2.2.1.length ≤ 4611686018427387904) (h64 : z1.length ≤ 4611686018427387904) :
  Ret Tryz.prog 21 [.agg #[.string pv, vt], .agg #[.string c1, .bool n1, v1], .string to] w fun v w' => ∃ s t ls us lt ut, v = .tuple #[.agg #[.bool ((exct pv ts c1 n1 z1 to).1), s, t], .bool ((exct pv ts c1 n1 z1 to).2.2.2)] ∧ OwnI w' (ls) (us) s intT ((exct pv ts c1 n1 z1 to).2.1) ∧ OwnI w' (lt) (ut) t intT ((exct pv ts c1 n1 z1 to).2.2.1) ∧ (w.heap.size ≤ ls ∧ us ≤ w'.heap.size ∧ w.heap.size ≤ lt ∧ ut ≤ w'.heap.size ∧ (us ≤ lt ∨ ut ≤ ls)) ∧ ((exct pv ts c1 n1 z1 to).2.1.length ≤ 18 ∧ (exct pv ts c1 n1 z1 to).2.2.1.length ≤ 18) ∧ Chg 0 0 w w' := by
 have hvt0 := hvt.fit
 have hv10 := hv1.fit
 refine sx_enter Tryz.func21 rfl Tryz.ntmps21 (Nat.le_of_ble_eq_true rfl) ?_
 refine sx_seq fun K1 k1 => sx_region ?_
 refine sx_box [.string pv, vt] rfl rfl rfl (fun b2 w3 eb2 sb2 fb2 cb2 => ?_)
 have zw3 := cb2.size
 refine sx_box [.string c1, .bool n1, v1] rfl rfl rfl (fun b4 w5 eb4 sb4 fb4 cb4 => ?_)
 have zw5 := cb4.size
 refine sx_alloc [.bool false, (.slice none 0 0), (.slice none 0 0)] rfl Tryz.zeroValue30 rfl (fun b6 w7 eb6 sb6 fb6 cb6 => ?_)
 have zw7 := cb6.size
 refine sa rfl rfl rfl rfl ?_
 refine wl_nil (q_n (k1 _ _ ?_))
 refine sx_seq fun K8 k8 => ?_
 refine sx_seq fun K9 k9 => sx_region ?_
 have f10 := fb4.ext cb6
 refine sx_pure rfl rfl rfl (px_load rfl (f10.loadA (vs := [.string c1, .bool n1, v1]) (look_lit rfl) Tryz.isAgg48 Tryz.sizeOf48)) ?_
 have f11 := hG0.ext cb2
 have f12 := f11.ext cb4
 have f13 := f12.ext cb6
 have f14 := hv10.ext cb2
 have f15 := f14.ext cb4
 have f16 := f15.ext cb6
 refine sx_call rfl rfl Tryz.call60 (c_iMoneyOk f13 f16 (by omega)) (fun v17 w17 p17 => ?_)
 obtain ⟨rfl, c17⟩ := p17
 have zw17 := c17.size
 refine sx_pure rfl rfl rfl (px_notP rfl) ?_
 refine wl_nil (q_n (k9 _ _ ?_))
 refine sx_condP rfl (fun h40 => ?_) (fun h40 => ?_)
 ·
  refine sx_seq fun K18 k18 => sx_region ?_
  refine sx_pure rfl rfl rfl (px_build rfl (xbld30x  _)) ?_
  have f20 := fb6.ext c17
  refine sx_store (vs := [.bool false, (.slice none 0 0), (.slice none 0 0)]) rfl rfl f20 rfl Tryz.sizeOf30 (Nat.le_of_ble_eq_true rfl) (one_cons rfl (one_cons rfl (one_cons rfl one_nil))) (fun w19 sw19 fw19 cw19 => ?_)
  have zw19 := cw19.size
  have gw19 : Blk w19 b6 [.bool false, (.slice none 0 0), (.slice none 0 0)] 30 := fw19
  refine sa rfl rfl rfl rfl ?_
  refine wl_nil (q_n (k18 _ _ ?_))
  refine sx_retc ?_
  refine q_r (sx_ret2 Tryz.results21 ⟨_, rfl, gw19.loadA (vs := [.bool false, (.slice none 0 0), (.slice none 0 0)]) (look_lit rfl) Tryz.isAgg30 Tryz.sizeOf30⟩ rfl ?_)
  rw [exct_no (fun hh => h40 hh.1)]
  have q21 := Chg.step (l := 0) (h := 0) (Chg.zero (l := 0) (h := 0) (((cb2.t cb4).t cb6).t c17)) cw19 (by omega)
  exact ⟨_, _, w.heap.size, w.heap.size, w.heap.size, w.heap.size, rfl, Own.nil _ _ _ _ _, Own.nil _ _ _ _ _, by omega, ⟨by simp [noR], by simp [noR]⟩, q21⟩
 ·
  refine sx_skip ?_
  refine q_n (k8 _ _ ?_)
  refine sx_seq fun K22 k22 => sx_region ?_
  have f23 := fb2.ext cb4
  have f24 := f23.ext cb6
  have f25 := f24.ext c17
  refine sx_pure rfl rfl rfl (px_load rfl (f25.loadA (vs := [.string pv, vt]) (look_lit rfl) Tryz.isAgg35 Tryz.sizeOf35)) ?_
  refine sx_pure rfl rfl rfl (px_field rfl xfld48x0) ?_
  have f26 := f10.ext c17
  refine sx_pure rfl rfl rfl (px_load rfl (f26.load1 rfl Tryz.isAgg9)) ?_
  refine sm rfl rfl rfl rfl ?_
  have f27 := f13.ext c17
  have f28 := hvt0.ext cb2
  have f29 := f28.ext cb4
  have f30 := f29.ext cb6
  have f31 := f30.ext c17
  refine sx_call rfl rfl Tryz.call17 (c_iUnitRate f27 f31 (by omega) (by first | assumption | exact fun i hi => Nat.le_trans (hzz i hi) (by omega))) (fun v32 w32 p32 => ?_)
  obtain ⟨s32, t32, ls32, us32, lt32, ut32, rfl, os_32, ot_32, hd32, hl32, c32⟩ := p32
  have zw32 := c32.size
  refine sm rfl rfl rfl rfl ?_
  refine sx_pure rfl rfl rfl (px_extract (vs := [.agg #[.bool ((uRt pv ts c1 to).1), s32, t32], .bool ((uRt pv ts c1 to).2.2.2)]) rfl rfl) ?_
  refine sx_pure rfl rfl rfl (px_extract (vs := [.agg #[.bool ((uRt pv ts c1 to).1), s32, t32], .bool ((uRt pv ts c1 to).2.2.2)]) rfl rfl) ?_
  refine sx_alloc [.bool false, (.slice none 0 0), (.slice none 0 0)] rfl Tryz.zeroValue30 rfl (fun b33 w34 eb33 sb33 fb33 cb33 => ?_)
  have zw34 := cb33.size
  have f36 := ot_32.ext cb33
  have f37 := os_32.ext cb33
  refine sx_store (vs := [.bool ((uRt pv ts c1 to).1), s32, t32]) rfl rfl fb33 rfl Tryz.sizeOf30 (Nat.le_of_ble_eq_true rfl) (one_cons rfl (one_cons f37.one (one_cons f36.one one_nil))) (fun w35 sw35 fw35 cw35 => ?_)
  have zw35 := cw35.size
  have gw35 : Blk w35 b33 [.bool ((uRt pv ts c1 to).1), s32, t32] 30 := fw35
  refine sa rfl rfl rfl rfl ?_
  refine wl_nil (q_n (k22 _ _ ?_))
  refine sx_sub (Sub.cons (t := 4) rfl (.cons (t := 6) rfl (.cons (t := 7) rfl (.cons (t := 8) rfl (.cons (t := 9) rfl (.nil)))))) ?_
  refine sx_seq fun K38 k38 => ?_
  refine sx_seq fun K39 k39 => sx_region ?_
  refine sm rfl rfl rfl rfl ?_
  refine sx_pure rfl rfl rfl (px_not rfl) ?_
  refine wl_nil (q_n (k39 _ _ ?_))
  refine sx_condB rfl (fun h44 => ?_) (fun h44 => ?_)
  ·
   refine sx_seq fun K40 k40 => sx_region ?_
   refine sx_pure rfl rfl rfl (px_build rfl (xbld30x  _)) ?_
   have f42 := fb6.ext c17
   have f43 := f42.ext c32
   have f44 := f43.ext cb33
   have f45 := f44.chg cw35 (by omega)
   refine sx_store (vs := [.bool false, (.slice none 0 0), (.slice none 0 0)]) rfl rfl f45 rfl Tryz.sizeOf30 (Nat.le_of_ble_eq_true rfl) (one_cons rfl (one_cons rfl (one_cons rfl one_nil))) (fun w41 sw41 fw41 cw41 => ?_)
   have zw41 := cw41.size
   have gw41 : Blk w41 b6 [.bool false, (.slice none 0 0), (.slice none 0 0)] 30 := fw41
   refine sa rfl rfl rfl rfl ?_
   refine wl_nil (q_n (k40 _ _ ?_))
   refine sx_retc ?_
   refine q_r (sx_ret2 Tryz.results21 ⟨_, rfl, gw41.loadA (vs := [.bool false, (.slice none 0 0), (.slice none 0 0)]) (look_lit rfl) Tryz.isAgg30 Tryz.sizeOf30⟩ rfl ?_)
   rw [exct_no (fun hh => bcl hh.2 h44)]
   have q46 := Chg.step (l := 0) (h := 0) (Chg.zero (l := 0) (h := 0) (((((cb2.t cb4).t cb6).t c17).t c32).t cb33)) cw35 (by omega)
   have q47 := Chg.step (l := 0) (h := 0) q46 cw41 (by omega)
   exact ⟨_, _, w.heap.size, w.heap.size, w.heap.size, w.heap.size, rfl, Own.nil _ _ _ _ _, Own.nil _ _ _ _ _, by omega, ⟨by simp [noR], by simp [noR]⟩, q47⟩
  ·
   refine sx_skip ?_
   refine q_n (k38 _ _ ?_)
   refine sx_seq fun K48 k48 => ?_
   have f49 := f27.ext c32
   have f50 := f49.ext cb33
   have f51 := f50.chg cw35 (by omega)
   have f52 := f25.ext c32
   have f53 := f52.ext cb33
   have f54 := f53.chg cw35 (by omega)
   have f55 := f26.ext c32
   have f56 := f55.ext cb33
   have f57 := f56.chg cw35 (by omega)
   have f58 := f31.ext c32
   have f59 := f58.ext cb33
   have f60 := f59.chg cw35 (by omega)
   have f61 := f16.ext c17
   have f62 := f61.ext c32
   have f63 := f62.ext cb33
   have f64 := f63.chg cw35 (by omega)
   have f65 := f37.chg cw35 (by omega)
   have f66 := f36.chg cw35 (by omega)
   refine dx_region (fun w' => Chg b6 (b6 + 1) w35 w') (by kernel_rfl) (Chg.zero (Chg.drew _)) ?_
   have d67 := Chg.drew w35
   have s67 : Chg b6 (b6 + 1) w35 (World.drew w35) := Chg.zero (Chg.drew _)
   have y67 : (World.drew w35).heap.size = w35.heap.size := rfl
   generalize World.drew w35 = w67 at *
   have zw67 := d67.size
   refine dx_take 0 rfl rfl rfl rfl (by kernel_rfl) (by kernel_rfl) (by kernel_rfl) s67 (fun _ hS => px_load rfl ((f57.chg hS (by omega)).loadA (vs := [.string c1, .bool n1, v1]) (look_lit rfl) Tryz.isAgg48 Tryz.sizeOf48)) ?_
   refine dx_take 2 rfl rfl rfl rfl (by kernel_rfl) (by kernel_rfl) (by kernel_rfl) s67 (fun _ hS => px_load rfl ((gw35.chg hS (by omega)).loadA (vs := [.bool ((uRt pv ts c1 to).1), s32, t32]) (look_lit rfl) Tryz.isAgg30 Tryz.sizeOf30)) ?_
   refine dx_eff 1 rfl (by kernel_rfl) ?_
   have f68 := f51.ext d67
   have f69 := f64.ext d67
   refine sx_call rfl rfl Tryz.call61 (c_iMoneyRat f68 f69 (by omega)) (fun v70 w70 p70 => ?_)
   obtain ⟨s70, t70, ls70, us70, lt70, ut70, rfl, os_70, ot_70, hd70, hl70, c70⟩ := p70
   have zw70 := c70.size
   have s71 : Chg b6 (b6 + 1) w35 w70 := (Chg.zero (l := b6) (h := (b6 + 1)) (d67.t c70))
   refine wl_nil ?_
   refine dx_next s71 ?_
   refine dx_eff 3 rfl (by kernel_rfl) ?_
   have f72 := f65.ext d67
   have f73 := f72.ext c70
   have f74 := f66.ext d67
   have f75 := f74.ext c70
   refine sx_call rfl rfl Tryz.call40 (c_iRatMul os_70.sv ot_70.sv f73.sv f75.sv (by have h8 := mRat_len (c := c1) (n := n1) (z := z1); have h9 := uRt_len (pv := pv) (ts := ts) (a := c1) (b := to); omega)) (fun v76 w76 p76 => ?_)
   obtain ⟨s76, t76, ls76, us76, lt76, ut76, rfl, os_76, ot_76, hd76, hl76, c76⟩ := p76
   have zw76 := c76.size
   have s77 : Chg b6 (b6 + 1) w35 w76 := (Chg.zero (l := b6) (h := (b6 + 1)) ((d67.t c70).t c76))
   refine wl_nil ?_
   refine dx_next s77 ?_
   refine dx_take 4 rfl rfl rfl rfl (by kernel_rfl) (by kernel_rfl) (by kernel_rfl) s77 (fun _ hS => px_extract (vs := [.agg #[.bool ((rMul ((mRat c1 n1 z1).1) ((mRat c1 n1 z1).2.1) ((mRat c1 n1 z1).2.2.1) ((uRt pv ts c1 to).1) ((uRt pv ts c1 to).2.1) ((uRt pv ts c1 to).2.2.1)).1), s76, t76], .bool ((rMul ((mRat c1 n1 z1).1) ((mRat c1 n1 z1).2.1) ((mRat c1 n1 z1).2.2.1) ((uRt pv ts c1 to).1) ((uRt pv ts c1 to).2.1) ((uRt pv ts c1 to).2.2.1)).2.2.2)]) rfl rfl) ?_
   refine dx_take 5 rfl rfl rfl rfl (by kernel_rfl) (by kernel_rfl) (by kernel_rfl) s77 (fun _ hS => px_extract (vs := [.agg #[.bool ((rMul ((mRat c1 n1 z1).1) ((mRat c1 n1 z1).2.1) ((mRat c1 n1 z1).2.2.1) ((uRt pv ts c1 to).1) ((uRt pv ts c1 to).2.1) ((uRt pv ts c1 to).2.2.1)).1), s76, t76], .bool ((rMul ((mRat c1 n1 z1).1) ((mRat c1 n1 z1).2.1) ((mRat c1 n1 z1).2.2.1) ((uRt pv ts c1 to).1) ((uRt pv ts c1 to).2.1) ((uRt pv ts c1 to).2.2.1)).2.2.2)]) rfl rfl) ?_
   refine dx_eff 6 rfl (by kernel_rfl) ?_
   have f79 := fb6.ext c17
   have f80 := f79.ext c32
   have f81 := f80.ext cb33
   have f82 := f81.chg cw35 (by omega)
   have f83 := f82.ext d67
   have f84 := f83.ext c70
   have f85 := f84.ext c76
   refine sx_store (vs := [.bool ((rMul ((mRat c1 n1 z1).1) ((mRat c1 n1 z1).2.1) ((mRat c1 n1 z1).2.2.1) ((uRt pv ts c1 to).1) ((uRt pv ts c1 to).2.1) ((uRt pv ts c1 to).2.2.1)).1), s76, t76]) rfl rfl f85 rfl Tryz.sizeOf30 (Nat.le_of_ble_eq_true rfl) (one_cons rfl (one_cons os_76.one (one_cons ot_76.one one_nil))) (fun w78 sw78 fw78 cw78 => ?_)
   have zw78 := cw78.size
   have gw78 : Blk w78 b6 [.bool ((rMul ((mRat c1 n1 z1).1) ((mRat c1 n1 z1).2.1) ((mRat c1 n1 z1).2.2.1) ((uRt pv ts c1 to).1) ((uRt pv ts c1 to).2.1) ((uRt pv ts c1 to).2.2.1)).1), s76, t76] 30 := fw78
   have q87 := Chg.step (l := b6) (h := (b6 + 1)) (Chg.zero (l := b6) (h := (b6 + 1)) ((d67.t c70).t c76)) cw78 (by omega)
   have s86 : Chg b6 (b6 + 1) w35 w78 := q87
   refine wl_nil ?_
   refine dx_next s86 ?_
   refine dx_take 7 rfl rfl rfl rfl (by kernel_rfl) (by kernel_rfl) (by kernel_rfl) s86 (fun _ hS => px_assign rfl) ?_
   refine dx_done (by kernel_rfl) ?_
   refine q_n (k48 _ _ ?_)
   refine sx_retc ?_
   refine sx_ret2 Tryz.results21 ⟨_, rfl, gw78.loadA (vs := [.bool ((rMul ((mRat c1 n1 z1).1) ((mRat c1 n1 z1).2.1) ((mRat c1 n1 z1).2.2.1) ((uRt pv ts c1 to).1) ((uRt pv ts c1 to).2.1) ((uRt pv ts c1 to).2.2.1)).1), s76, t76]) (look_lit rfl) Tryz.isAgg30 Tryz.sizeOf30⟩ rfl ?_
   have hrl := exct_len (pv := pv) (ts := ts) (c := c1) (n := n1) (z := z1) (to := to)
   rw [exct_ok (Decidable.not_not.1 h40) (bnot_f h44)] at hrl ⊢
   have q88 := Chg.step (l := 0) (h := 0) (Chg.zero (l := 0) (h := 0) (((((cb2.t cb4).t cb6).t c17).t c32).t cb33)) cw35 (by omega)
   have q89 := Chg.step (l := 0) (h := 0) q88 ((d67.t c70).t c76) (by omega)
   have q90 := Chg.step (l := 0) (h := 0) q89 cw78 (by omega)
   have f91 := os_76.chg cw78 (by omega)
   have f92 := ot_76.chg cw78 (by omega)
   exact ⟨_, _, _, _, _, _, rfl, f91, f92, by omega, hrl, q90⟩

theorem c_eqMoney {w : World} {c1 : ByteArray} {n1 : Bool} {v1 : Value} {lv1 uv1 : Nat} {z1 : List Int} {c2 : ByteArray} {n2 : Bool} {v2 : Value} {lv2 uv2 : Nat} {z2 : List Int} (hv1 : Sl w lv1 uv1 v1 (z1)) (hv2 : Sl w lv2 uv2 v2 (z2)) (h63 : z1.length ≤ 4611686018427387904 ∧ z2.length ≤ 4611686018427387904) :
  Ret Tryz.prog 22 [.agg #[.string c1, .bool n1, v1], .agg #[.string c2, .bool n2, v2]] w fun v w' => v = .bool (decide (c1 = c2 ∧ n1 = n2 ∧ z1 = z2)) ∧ Chg 0 0 w w' := by
 have hv10 := hv1.fit
 have hv20 := hv2.fit
 refine sx_enter Tryz.func22 rfl Tryz.ntmps22 (Nat.le_of_ble_eq_true rfl) ?_
 refine sx_seq fun K1 k1 => sx_region ?_
 refine sx_box [.string c1, .bool n1, v1] rfl rfl rfl (fun b2 w3 eb2 sb2 fb2 cb2 => ?_)
 have zw3 := cb2.size
 refine sx_box [.string c2, .bool n2, v2] rfl rfl rfl (fun b4 w5 eb4 sb4 fb4 cb4 => ?_)
 have zw5 := cb4.size
 refine sa rfl rfl rfl rfl ?_
 refine wl_nil (q_n (k1 _ _ ?_))
 refine sx_seq fun K6 k6 => ?_
 refine sx_seq fun K7 k7 => sx_region ?_
 refine sx_pure rfl rfl rfl (px_field rfl xfld48x0) ?_
 have f8 := fb2.ext cb4
 refine sx_pure rfl rfl rfl (px_load rfl (f8.load1 rfl Tryz.isAgg9)) ?_
 refine sx_pure rfl rfl rfl (px_field rfl xfld48x0) ?_
 refine sx_pure rfl rfl rfl (px_load rfl (fb4.load1 rfl Tryz.isAgg9)) ?_
 refine sx_pure rfl rfl rfl (px_neS rfl rfl) ?_
 refine wl_nil (q_n (k7 _ _ ?_))
 refine sx_condP rfl (fun h447 => ?_) (fun h447 => ?_)
 ·
  refine sx_seq fun K9 k9 => sx_region ?_
  refine sa rfl rfl rfl rfl ?_
  refine wl_nil (q_n (k9 _ _ ?_))
  refine sx_retc ?_
  refine q_r (sx_ret1 Tryz.results22 rfl ?_)
  exact ⟨(by first | exact bTrue (by grind) | exact bFalse (by grind) | exact bIff (by grind)), (cb2.t cb4)⟩
 ·
  refine sx_skip ?_
  refine q_n (k6 _ _ ?_)
  refine sx_seq fun K10 k10 => ?_
  refine sx_seq fun K11 k11 => sx_region ?_
  refine sx_pure rfl rfl rfl (px_field rfl xfld48x1) ?_
  refine sx_pure rfl rfl rfl (px_load rfl (f8.loadA (vs := [.bool n1, v1]) (look_lit rfl) Tryz.isAgg28 Tryz.sizeOf28)) ?_
  refine sx_pure rfl rfl rfl (px_field rfl xfld48x1) ?_
  refine sx_pure rfl rfl rfl (px_load rfl (fb4.loadA (vs := [.bool n2, v2]) (look_lit rfl) Tryz.isAgg28 Tryz.sizeOf28)) ?_
  have f12 := hv10.ext cb2
  have f13 := f12.ext cb4
  have f14 := hv20.ext cb2
  have f15 := f14.ext cb4
  refine sx_call rfl rfl Tryz.call41 (c_eqSigned f13 f15 (by omega)) (fun v16 w16 p16 => ?_)
  obtain ⟨rfl, c16⟩ := p16
  have zw16 := c16.size
  refine sx_pure rfl rfl rfl (px_notP rfl) ?_
  refine wl_nil (q_n (k11 _ _ ?_))
  refine sx_sub (Sub.cons (t := 4) rfl (.cons (t := 15) rfl (.nil))) ?_
  refine sx_condP rfl (fun h450 => ?_) (fun h450 => ?_)
  ·
   refine sx_seq fun K17 k17 => sx_region ?_
   refine sa rfl rfl rfl rfl ?_
   refine wl_nil (q_n (k17 _ _ ?_))
   refine sx_retc ?_
   refine q_r (sx_ret1 Tryz.results22 rfl ?_)
   exact ⟨(by first | exact bTrue (by grind) | exact bFalse (by grind) | exact bIff (by grind)), ((cb2.t cb4).t c16)⟩
  ·
   refine sx_skip ?_
   refine q_n (k10 _ _ ?_)
   refine sx_seq fun K18 k18 => sx_region ?_
   refine sa rfl rfl rfl rfl ?_
   refine wl_nil (q_n (k18 _ _ ?_))
   refine sx_retc ?_
   refine sx_ret1 Tryz.results22 rfl ?_
   exact ⟨(by first | exact bTrue (by grind) | exact bFalse (by grind) | exact bIff (by grind)), ((cb2.t cb4).t c16)⟩

theorem c_markMoney {w : World} {c1 : ByteArray} {n1 : Bool} {v1 : Value} {lv1 uv1 : Nat} {z1 : List Int} {n : Int} (hv1 : OwnI w lv1 uv1 v1 intT (z1)) (h63 : z1.length ≤ 1048576) (hn : 0 ≤ n ∧ n ≤ 4611686018427387904) :
  Ret Tryz.prog 23 [.agg #[.string c1, .bool n1, v1], .int .i64 n] w fun v w' => v = .int .i64 (n + ↑(z1).length) ∧ OwnI w' (lv1) (uv1) v1 intT (mk n (z1).length) ∧ Chg lv1 uv1 w w' := by
 refine sx_enter Tryz.func23 rfl Tryz.ntmps23 (Nat.le_of_ble_eq_true rfl) ?_
 refine sx_seq fun K1 k1 => sx_region ?_
 refine sx_box [.string c1, .bool n1, v1] rfl rfl rfl (fun b2 w3 eb2 sb2 fb2 cb2 => ?_)
 have zw3 := cb2.size
 refine sa rfl rfl rfl rfl ?_
 refine wl_nil (q_n (k1 _ _ ?_))
 refine sx_seq fun K4 k4 => sx_region ?_
 refine sx_pure rfl rfl rfl (px_field rfl xfld48x1) ?_
 refine sx_pure rfl rfl rfl (px_load rfl (fb2.loadA (vs := [.bool n1, v1]) (look_lit rfl) Tryz.isAgg28 Tryz.sizeOf28)) ?_
 refine sm rfl rfl rfl rfl ?_
 have f5 := hv1.ext cb2
 refine sx_call rfl rfl Tryz.call45 (c_markSigned f5 (by omega) (by omega)) (fun v6 w6 p6 => ?_)
 obtain ⟨rfl, ov1_6, c6⟩ := p6
 have zw6 := c6.size
 refine sa rfl rfl rfl rfl ?_
 refine wl_nil (q_n (k4 _ _ ?_))
 refine sx_seq fun K7 k7 => sx_region ?_
 refine sm rfl rfl rfl rfl ?_
 refine sa rfl rfl rfl rfl ?_
 refine wl_nil (q_n (k7 _ _ ?_))
 refine sx_retc ?_
 refine sx_ret1 Tryz.results23 rfl ?_
 have q8 := Chg.step (l := lv1) (h := uv1) (Chg.zero (l := lv1) (h := uv1) cb2) c6 (by omega)
 exact ⟨rfl, ov1_6, q8⟩

end Go.Proofs.YtcghgfmickgnkaaGreatDoor
