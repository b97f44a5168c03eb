/- Contracts of functions of the program: what each call returns, and that it changes nothing that was. Conditions: as each says. -/
import Derived.Test.YteiifmkclokgnaaTy
import Derived.Test.YteiifmkclokgnaaNatE
import Derived.Test.YteiifmkclokgnaaK0
import Derived.Test.YteiifmkclokgnaaK1
set_option linter.unusedVariables false
set_option linter.unusedSimpArgs false
namespace Go.Proofs.Yteiifmkclokgnaa
open Go Go.RowKit
set_option maxRecDepth 100000
theorem c_iDecSub {w : World} {n1 : Bool} {v1 : Value} {lv1 uv1 : Nat} {z1 : List Int} {p1 : Int} {n2 : Bool} {v2 : Value} {lv2 uv2 : Nat} {z2 : List Int} {p2 : Int} (hv1 : Sl w lv1 uv1 v1 (z1)) (hv2 : Sl w lv2 uv2 v2 (z2)) (h63 : z1.length ≤ 4611686018427387904 ∧ z2.length ≤ 4611686018427387904) :
  Ret Try.prog 39 [.agg #[.bool n1, v1, .int .i64 p1], .agg #[.bool n2, v2, .int .i64 p2]] w fun v w' => ∃ s, v = .tuple #[.agg #[.bool ((dBin fSub n1 z1 p1 n2 z2 p2).1), s, .int .i64 ((dBin fSub n1 z1 p1 n2 z2 p2).2.2.1)], .bool ((dBin fSub n1 z1 p1 n2 z2 p2).2.2.2)] ∧ OwnI w' w.heap.size w'.heap.size s intT ((dBin fSub n1 z1 p1 n2 z2 p2).2.1) ∧ ((dBin fSub n1 z1 p1 n2 z2 p2).2.1.length ≤ 6) ∧ Chg 0 0 w w' := by
 have hv10 := hv1.fit
 have hv20 := hv2.fit
 refine sx_enter Try.func39 rfl Try.ntmps39 (Nat.le_of_ble_eq_true rfl) ?_
 refine sx_seq fun K1 k1 => sx_region ?_
 refine sx_box [.bool n1, v1, .int .i64 p1] rfl rfl rfl (fun b2 w3 eb2 sb2 fb2 cb2 => ?_)
 have zw3 := cb2.size
 refine sx_box [.bool n2, v2, .int .i64 p2] rfl rfl rfl (fun b4 w5 eb4 sb4 fb4 cb4 => ?_)
 have zw5 := cb4.size
 refine sx_alloc [.bool false, (.slice none 0 0), .int .i64 0] rfl Try.zeroValue31 rfl (fun b6 w7 eb6 sb6 fb6 cb6 => ?_)
 have zw7 := cb6.size
 refine sa rfl rfl rfl rfl ?_
 refine wl_nil (q_n (k1 _ _ ?_))
 refine sx_seq fun K8 k8 => ?_
 refine sx_seq fun K9 k9 => sx_region ?_
 have f10 := fb4.ext cb6
 refine sx_pure rfl rfl rfl (px_load rfl (f10.loadA (vs := [.bool n2, v2, .int .i64 p2]) (look_lit rfl) Try.isAgg31 Try.sizeOf31)) ?_
 have f11 := hv20.ext cb2
 have f12 := f11.ext cb4
 have f13 := f12.ext cb6
 refine sx_call rfl rfl Try.call18 (c_iDecOk f13 (by omega)) (fun v14 w14 p14 => ?_)
 obtain ⟨rfl, c14⟩ := p14
 have zw14 := c14.size
 refine sx_pure rfl rfl rfl (px_notP rfl) ?_
 refine wl_nil (q_n (k9 _ _ ?_))
 refine sx_condP rfl (fun h122 => ?_) (fun h122 => ?_)
 ·
  refine sx_seq fun K15 k15 => sx_region ?_
  refine sx_pure rfl rfl rfl (px_build rfl (xbld31x  _)) ?_
  have f17 := fb6.ext c14
  refine sx_store (vs := [.bool false, (.slice none 0 0), .int .i64 0]) rfl rfl f17 rfl Try.sizeOf31 (Nat.le_of_ble_eq_true rfl) (one_cons rfl (one_cons rfl (one_cons rfl one_nil))) (fun w16 sw16 fw16 cw16 => ?_)
  have zw16 := cw16.size
  have gw16 : Blk w16 b6 [.bool false, (.slice none 0 0), .int .i64 0] 31 := fw16
  refine sa rfl rfl rfl rfl ?_
  refine wl_nil (q_n (k15 _ _ ?_))
  refine sx_retc ?_
  refine q_r (sx_ret2 Try.results39 ⟨_, rfl, gw16.loadA (vs := [.bool false, (.slice none 0 0), .int .i64 0]) (look_lit rfl) Try.isAgg31 Try.sizeOf31⟩ rfl ?_)
  rw [dBin_no (by grind)]
  have q18 := Chg.step (l := 0) (h := 0) (Chg.zero (l := 0) (h := 0) (((cb2.t cb4).t cb6).t c14)) cw16 (by omega)
  exact ⟨_, rfl, Own.nil _ _ _ _ _, by simp, q18⟩
 ·
  have hD2 := Decidable.not_not.1 h122
  obtain ⟨x2, rfl, rfl, hx2⟩ := hD2.int
  refine sx_skip ?_
  refine q_n (k8 _ _ ?_)
  refine sx_seq fun K19 k19 => ?_
  have f20 := fb2.ext cb4
  have f21 := f20.ext cb6
  have f22 := f21.ext c14
  have f23 := f10.ext c14
  have f24 := hv10.ext cb2
  have f25 := f24.ext cb4
  have f26 := f25.ext cb6
  have f27 := f26.ext c14
  have f28 := f13.ext c14
  refine dx_region (fun w' => Chg b6 (b6 + 1) w14 w') (by kernel_rfl) (Chg.zero (Chg.drew _)) ?_
  have d29 := Chg.drew w14
  have s29 : Chg b6 (b6 + 1) w14 (World.drew w14) := Chg.zero (Chg.drew _)
  have y29 : (World.drew w14).heap.size = w14.heap.size := rfl
  generalize World.drew w14 = w29 at *
  have zw29 := d29.size
  refine dx_take 0 rfl rfl rfl rfl (by kernel_rfl) (by kernel_rfl) (by kernel_rfl) s29 (fun _ hS => px_load rfl ((f22.chg hS (by omega)).loadA (vs := [.bool n1, v1, .int .i64 p1]) (look_lit rfl) Try.isAgg31 Try.sizeOf31)) ?_
  refine dx_take 1 rfl rfl rfl rfl (by kernel_rfl) (by kernel_rfl) (by kernel_rfl) s29 (fun _ hS => px_field rfl xfld31x0) ?_
  refine dx_take 2 rfl rfl rfl rfl (by kernel_rfl) (by kernel_rfl) (by kernel_rfl) s29 (fun _ hS => px_load rfl ((f23.chg hS (by omega)).loadA (vs := [.bool (ng x2), v2]) (look_lit rfl) Try.isAgg29 Try.sizeOf29)) ?_
  refine dx_take 4 rfl rfl rfl rfl (by kernel_rfl) (by kernel_rfl) (by kernel_rfl) s29 (fun _ hS => px_field rfl xfld31x1) ?_
  refine dx_take 5 rfl rfl rfl rfl (by kernel_rfl) (by kernel_rfl) (by kernel_rfl) s29 (fun _ hS => px_load rfl ((f23.chg hS (by omega)).load1 rfl Try.isAgg3)) ?_
  refine dx_eff 3 rfl (by kernel_rfl) ?_
  have f30 := f28.ext d29
  refine sx_call rfl rfl Try.call82 (c_intNeg f30 (by omega)) (fun v31 w31 p31 => ?_)
  obtain ⟨s31, rfl, os_31, c31⟩ := p31
  have zw31 := c31.size
  have s32 : Chg b6 (b6 + 1) w14 w31 := (Chg.zero (l := b6) (h := (b6 + 1)) (d29.t c31))
  refine wl_nil ?_
  refine dx_next s32 ?_
  refine dx_take 6 rfl rfl rfl rfl (by kernel_rfl) (by kernel_rfl) (by kernel_rfl) s32 (fun _ hS => px_build rfl (xbld31x0x1 rfl _)) ?_
  refine dx_eff 7 rfl (by kernel_rfl) ?_
  have f33 := f27.ext d29
  have f34 := f33.ext c31
  refine sx_call rfl rfl Try.call37 (c_iDecAdd f34 os_31.sv (by rw [Int.natAbs_neg]; omega)) (fun v35 w35 p35 => ?_)
  obtain ⟨s35, rfl, os_35, hl35, c35⟩ := p35
  have zw35 := c35.size
  have s36 : Chg b6 (b6 + 1) w14 w35 := (Chg.zero (l := b6) (h := (b6 + 1)) ((d29.t c31).t c35))
  refine wl_nil ?_
  refine dx_next s36 ?_
  refine dx_take 8 rfl rfl rfl rfl (by kernel_rfl) (by kernel_rfl) (by kernel_rfl) s36 (fun _ hS => px_extract (vs := [.agg #[.bool ((dBin fAdd n1 z1 p1 (ng (-x2)) (dg (-x2).natAbs) p2).1), s35, .int .i64 ((dBin fAdd n1 z1 p1 (ng (-x2)) (dg (-x2).natAbs) p2).2.2.1)], .bool ((dBin fAdd n1 z1 p1 (ng (-x2)) (dg (-x2).natAbs) p2).2.2.2)]) rfl rfl) ?_
  refine dx_take 9 rfl rfl rfl rfl (by kernel_rfl) (by kernel_rfl) (by kernel_rfl) s36 (fun _ hS => px_extract (vs := [.agg #[.bool ((dBin fAdd n1 z1 p1 (ng (-x2)) (dg (-x2).natAbs) p2).1), s35, .int .i64 ((dBin fAdd n1 z1 p1 (ng (-x2)) (dg (-x2).natAbs) p2).2.2.1)], .bool ((dBin fAdd n1 z1 p1 (ng (-x2)) (dg (-x2).natAbs) p2).2.2.2)]) rfl rfl) ?_
  refine dx_eff 10 rfl (by kernel_rfl) ?_
  have f38 := fb6.ext c14
  have f39 := f38.ext d29
  have f40 := f39.ext c31
  have f41 := f40.ext c35
  refine sx_store (vs := [.bool ((dBin fAdd n1 z1 p1 (ng (-x2)) (dg (-x2).natAbs) p2).1), s35, .int .i64 ((dBin fAdd n1 z1 p1 (ng (-x2)) (dg (-x2).natAbs) p2).2.2.1)]) rfl rfl f41 rfl Try.sizeOf31 (Nat.le_of_ble_eq_true rfl) (one_cons rfl (one_cons os_35.one (one_cons rfl one_nil))) (fun w37 sw37 fw37 cw37 => ?_)
  have zw37 := cw37.size
  have gw37 : Blk w37 b6 [.bool ((dBin fAdd n1 z1 p1 (ng (-x2)) (dg (-x2).natAbs) p2).1), s35, .int .i64 ((dBin fAdd n1 z1 p1 (ng (-x2)) (dg (-x2).natAbs) p2).2.2.1)] 31 := fw37
  have q43 := Chg.step (l := b6) (h := (b6 + 1)) (Chg.zero (l := b6) (h := (b6 + 1)) ((d29.t c31).t c35)) cw37 (by omega)
  have s42 : Chg b6 (b6 + 1) w14 w37 := q43
  refine wl_nil ?_
  refine dx_next s42 ?_
  refine dx_take 11 rfl rfl rfl rfl (by kernel_rfl) (by kernel_rfl) (by kernel_rfl) s42 (fun _ hS => px_assign rfl) ?_
  refine dx_done (by kernel_rfl) ?_
  refine q_n (k19 _ _ ?_)
  refine sx_sub (Sub.cons (t := 4) rfl (.cons (t := 5) rfl (.nil))) ?_
  refine sx_retc ?_
  refine sx_ret2 Try.results39 ⟨_, rfl, gw37.loadA (vs := [.bool ((dBin fAdd n1 z1 p1 (ng (-x2)) (dg (-x2).natAbs) p2).1), s35, .int .i64 ((dBin fAdd n1 z1 p1 (ng (-x2)) (dg (-x2).natAbs) p2).2.2.1)]) (look_lit rfl) Try.isAgg31 Try.sizeOf31⟩ rfl ?_
  rw [dBin_sub]
  have q44 := Chg.step (l := 0) (h := 0) (Chg.zero (l := 0) (h := 0) ((((((cb2.t cb4).t cb6).t c14).t d29).t c31).t c35)) cw37 (by omega)
  have f45 := os_35.chg cw37 (by omega)
  exact ⟨_, rfl, (Own.mono f45 (by omega) (by omega)), dBin_len, q44⟩

theorem c_IntCmp {w : World} {va : Value} {lva uva : Nat} {x : Int} {vb : Value} {lvb uvb : Nat} {y : Int} (hva : Sl w lva uva va (dg x.natAbs)) (hvb : Sl w lvb uvb vb (dg y.natAbs)) (hbx : (dg x.natAbs).length ≤ 50) (hby : (dg y.natAbs).length ≤ 50) :
  Ret Try.prog 71 [.agg #[.bool (ng x), va], .agg #[.bool (ng y), vb]] w fun v w' => v = .int .i64 (cmpI x y) ∧ Chg 0 0 w w' := by
 have hva0 := hva.fit
 have hvb0 := hvb.fit
 refine sx_enter Try.func71 rfl Try.ntmps71 (Nat.le_of_ble_eq_true rfl) ?_
 refine sx_seq fun K1 k1 => sx_region ?_
 refine sx_box [.bool (ng x), va] rfl rfl rfl (fun b2 w3 eb2 sb2 fb2 cb2 => ?_)
 have zw3 := cb2.size
 refine sx_box [.bool (ng y), vb] rfl rfl rfl (fun b4 w5 eb4 sb4 fb4 cb4 => ?_)
 have zw5 := cb4.size
 refine sa rfl rfl rfl rfl ?_
 refine wl_nil (q_n (k1 _ _ ?_))
 refine sx_seq fun K6 k6 => ?_
 refine sx_block ?_
 refine sx_seq fun K7 k7 => sx_region ?_
 have f8 := fb2.ext cb4
 refine sx_pure rfl rfl rfl (px_load rfl (f8.loadA (vs := [.bool (ng x), va]) (look_lit rfl) Try.isAgg29 Try.sizeOf29)) ?_
 have f9 := hva0.ext cb2
 have f10 := f9.ext cb4
 refine sx_call rfl rfl Try.call60 (c_sIntOk f10 (by omega)) (fun v11 w11 p11 => ?_)
 obtain ⟨rfl, c11⟩ := p11
 have zw11 := c11.size
 refine sx_pure rfl rfl rfl (px_notP rfl) ?_
 refine sm rfl rfl rfl rfl ?_
 have h89 : ¬ (¬ (IOk (ng x) (dg x.natAbs))) := by first | exact fun h => h (IOk_ng (by omega)) | exact fun h => h (IOk_ng (by assumption))
 refine sx_tmpPF (t := 9) rfl h89 ?_
 refine sx_guardT rfl rfl rfl ?_
 have f12 := fb4.ext c11
 refine sx_pure rfl rfl rfl (px_load rfl (f12.loadA (vs := [.bool (ng y), vb]) (look_lit rfl) Try.isAgg29 Try.sizeOf29)) ?_
 refine sx_guardT rfl rfl rfl ?_
 have f13 := hvb0.ext cb2
 have f14 := f13.ext cb4
 have f15 := f14.ext c11
 refine sx_call rfl rfl Try.call60 (c_sIntOk f15 (by omega)) (fun v16 w16 p16 => ?_)
 obtain ⟨rfl, c16⟩ := p16
 have zw16 := c16.size
 refine sx_guardT rfl rfl rfl ?_
 refine sx_pure rfl rfl rfl (px_notP rfl) ?_
 refine sx_pure rfl rfl rfl (px_pick rfl rfl) ?_
 refine sa rfl rfl rfl rfl ?_
 refine wl_nil (q_n (k7 _ _ ?_))
 have h89x1 : ¬ (¬ (IOk (ng y) (dg y.natAbs))) := by first | exact fun h => h (IOk_ng (by omega)) | exact fun h => h (IOk_ng (by assumption))
 refine sx_condPF rfl h89x1 ?_
 refine sx_seq fun K17 k17 => sx_region ?_
 refine sx_pure rfl rfl rfl (px_field rfl xfld29x0) ?_
 have f18 := f8.ext c11
 have f19 := f18.ext c16
 refine sx_pure rfl rfl rfl (px_load rfl (f19.load1 rfl Try.isAgg4)) ?_
 refine sm rfl rfl rfl rfl ?_
 refine sx_tmpB (t := 17) rfl (fun h91 => ?_) (fun h91 => ?_)
 ·
  refine sx_guardT rfl rfl rfl ?_
  refine sx_pure rfl rfl rfl (px_field rfl xfld29x0) ?_
  refine sx_guardT rfl rfl rfl ?_
  have f20 := f12.ext c16
  refine sx_pure rfl rfl rfl (px_load rfl (f20.load1 rfl Try.isAgg4)) ?_
  refine sx_guardT rfl rfl rfl ?_
  refine sx_pure rfl rfl rfl (px_not rfl) ?_
  refine sx_pure rfl rfl rfl (px_pick rfl rfl) ?_
  refine sa rfl rfl rfl rfl ?_
  refine wl_nil (q_n (k17 _ _ ?_))
  refine sx_sub (Sub.cons (t := 2) rfl (.cons (t := 3) rfl (.cons (t := 4) rfl (.cons (t := 14) rfl (.nil))))) ?_
  refine sx_condB rfl (fun h91x1 => ?_) (fun h91x1 => ?_)
  ·
   refine sx_seq fun K21 k21 => sx_region ?_
   refine sa rfl rfl rfl rfl ?_
   refine wl_nil (q_n (k21 _ _ ?_))
   refine sx_retc ?_
   refine q_br (q_r (sx_ret1 Try.results71 rfl ?_))
   exact ⟨iEq (cmpI_lt (by simp_all [ng] <;> omega)), (((cb2.t cb4).t c11).t c16)⟩
  ·
   refine sx_seq fun K22 k22 => sx_region ?_
   refine sx_pure rfl rfl rfl (px_field rfl xfld29x0) ?_
   refine sx_pure rfl rfl rfl (px_load rfl (f19.load1 rfl Try.isAgg4)) ?_
   refine sx_pure rfl rfl rfl (px_not rfl) ?_
   refine sm rfl rfl rfl rfl ?_
   refine sx_tmpB (t := 26) rfl (fun h93 => ?_) (fun h93 => ?_)
   ·
    refine sx_guardT rfl rfl rfl ?_
    refine sx_pure rfl rfl rfl (px_field rfl xfld29x0) ?_
    refine sx_guardT rfl rfl rfl ?_
    refine sx_pure rfl rfl rfl (px_load rfl (f20.load1 rfl Try.isAgg4)) ?_
    refine sx_pure rfl rfl rfl (px_pick rfl rfl) ?_
    refine sa rfl rfl rfl rfl ?_
    refine wl_nil (q_n (k22 _ _ ?_))
    refine sx_condB rfl (fun h93x1 => ?_) (fun h93x1 => ?_)
    ·
     refine sx_seq fun K23 k23 => sx_region ?_
     refine sa rfl rfl rfl rfl ?_
     refine wl_nil (q_n (k23 _ _ ?_))
     refine sx_retc ?_
     refine q_br (q_r (sx_ret1 Try.results71 rfl ?_))
     exact ⟨iEq (cmpI_gt (by simp_all [ng] <;> omega)), (((cb2.t cb4).t c11).t c16)⟩
    ·
     refine sx_seq fun K24 k24 => sx_region ?_
     refine sx_pure rfl rfl rfl (px_field rfl xfld29x0) ?_
     refine sx_pure rfl rfl rfl (px_load rfl (f19.load1 rfl Try.isAgg4)) ?_
     refine sa rfl rfl rfl rfl ?_
     refine wl_nil (q_n (k24 _ _ ?_))
     refine sx_sub (Sub.cons (t := 2) rfl (.cons (t := 3) rfl (.cons (t := 4) rfl (.cons (t := 30) rfl (.nil))))) ?_
     refine sx_condB rfl (fun h95 => ?_) (fun h95 => ?_)
     ·
      refine sx_seq fun K25 k25 => sx_region ?_
      refine sx_pure rfl rfl rfl (px_field rfl xfld29x1) ?_
      refine sx_pure rfl rfl rfl (px_load rfl (f20.load1 rfl Try.isAgg22)) ?_
      refine sx_pure rfl rfl rfl (px_field rfl xfld29x1) ?_
      refine sx_pure rfl rfl rfl (px_load rfl (f19.load1 rfl Try.isAgg22)) ?_
      have f26 := f15.ext c16
      have f27 := f10.ext c11
      have f28 := f27.ext c16
      refine sx_call rfl rfl Try.call76 (c_l02Cmp f26 f28 (by omega)) (fun v29 w29 p29 => ?_)
      obtain ⟨rfl, c29⟩ := p29
      have zw29 := c29.size
      refine sa rfl rfl rfl rfl ?_
      refine wl_nil (q_n (k25 _ _ ?_))
      refine sx_retc ?_
      refine q_br (q_r (sx_ret1 Try.results71 rfl ?_))
      exact ⟨iEq (cmpI_mm (by simp_all [ng] <;> omega) (by simp_all [ng] <;> omega)), ((((cb2.t cb4).t c11).t c16).t c29)⟩
     ·
      refine sx_skip ?_
      refine q_bn (q_n (k6 _ _ ?_))
      refine sx_seq fun K30 k30 => sx_region ?_
      refine sx_pure rfl rfl rfl (px_field rfl xfld29x1) ?_
      refine sx_pure rfl rfl rfl (px_load rfl (f19.load1 rfl Try.isAgg22)) ?_
      refine sx_pure rfl rfl rfl (px_field rfl xfld29x1) ?_
      refine sx_pure rfl rfl rfl (px_load rfl (f20.load1 rfl Try.isAgg22)) ?_
      have f31 := f10.ext c11
      have f32 := f31.ext c16
      have f33 := f15.ext c16
      refine sx_call rfl rfl Try.call76 (c_l02Cmp f32 f33 (by omega)) (fun v34 w34 p34 => ?_)
      obtain ⟨rfl, c34⟩ := p34
      have zw34 := c34.size
      refine sa rfl rfl rfl rfl ?_
      refine wl_nil (q_n (k30 _ _ ?_))
      refine sx_retc ?_
      refine sx_ret1 Try.results71 rfl ?_
      exact ⟨iEq (cmpI_nn (by simp_all [ng] <;> omega) (by simp_all [ng] <;> omega)), ((((cb2.t cb4).t c11).t c16).t c34)⟩
   ·
    refine sx_guardF rfl rfl rfl rfl rfl rfl ?_
    refine sx_guardF rfl rfl rfl rfl rfl rfl ?_
    refine sx_pure rfl rfl rfl (px_pick rfl rfl) ?_
    refine sa rfl rfl rfl rfl ?_
    refine wl_nil (q_n (k22 _ _ ?_))
    refine sx_condF rfl ?_
    refine sx_seq fun K35 k35 => sx_region ?_
    refine sx_pure rfl rfl rfl (px_field rfl xfld29x0) ?_
    refine sx_pure rfl rfl rfl (px_load rfl (f19.load1 rfl Try.isAgg4)) ?_
    refine sa rfl rfl rfl rfl ?_
    refine wl_nil (q_n (k35 _ _ ?_))
    refine sx_sub (Sub.cons (t := 2) rfl (.cons (t := 3) rfl (.cons (t := 4) rfl (.cons (t := 30) rfl (.nil))))) ?_
    refine sx_condB rfl (fun h95 => ?_) (fun h95 => ?_)
    ·
     refine sx_seq fun K36 k36 => sx_region ?_
     refine sx_pure rfl rfl rfl (px_field rfl xfld29x1) ?_
     refine sx_pure rfl rfl rfl (px_load rfl (f20.load1 rfl Try.isAgg22)) ?_
     refine sx_pure rfl rfl rfl (px_field rfl xfld29x1) ?_
     refine sx_pure rfl rfl rfl (px_load rfl (f19.load1 rfl Try.isAgg22)) ?_
     have f37 := f15.ext c16
     have f38 := f10.ext c11
     have f39 := f38.ext c16
     refine sx_call rfl rfl Try.call76 (c_l02Cmp f37 f39 (by omega)) (fun v40 w40 p40 => ?_)
     obtain ⟨rfl, c40⟩ := p40
     have zw40 := c40.size
     refine sa rfl rfl rfl rfl ?_
     refine wl_nil (q_n (k36 _ _ ?_))
     refine sx_retc ?_
     refine q_br (q_r (sx_ret1 Try.results71 rfl ?_))
     exact ⟨iEq (cmpI_mm (by simp_all [ng] <;> omega) (by simp_all [ng] <;> omega)), ((((cb2.t cb4).t c11).t c16).t c40)⟩
    ·
     refine sx_skip ?_
     refine q_bn (q_n (k6 _ _ ?_))
     refine sx_seq fun K41 k41 => sx_region ?_
     refine sx_pure rfl rfl rfl (px_field rfl xfld29x1) ?_
     refine sx_pure rfl rfl rfl (px_load rfl (f19.load1 rfl Try.isAgg22)) ?_
     refine sx_pure rfl rfl rfl (px_field rfl xfld29x1) ?_
     refine sx_pure rfl rfl rfl (px_load rfl (f20.load1 rfl Try.isAgg22)) ?_
     have f42 := f10.ext c11
     have f43 := f42.ext c16
     have f44 := f15.ext c16
     refine sx_call rfl rfl Try.call76 (c_l02Cmp f43 f44 (by omega)) (fun v45 w45 p45 => ?_)
     obtain ⟨rfl, c45⟩ := p45
     have zw45 := c45.size
     refine sa rfl rfl rfl rfl ?_
     refine wl_nil (q_n (k41 _ _ ?_))
     refine sx_retc ?_
     refine sx_ret1 Try.results71 rfl ?_
     exact ⟨iEq (cmpI_nn (by simp_all [ng] <;> omega) (by simp_all [ng] <;> omega)), ((((cb2.t cb4).t c11).t c16).t c45)⟩
 ·
  refine sx_guardF rfl rfl rfl rfl rfl rfl ?_
  refine sx_guardF rfl rfl rfl rfl rfl rfl ?_
  refine sx_guardF rfl rfl rfl rfl rfl rfl ?_
  refine sx_pure rfl rfl rfl (px_pick rfl rfl) ?_
  refine sa rfl rfl rfl rfl ?_
  refine wl_nil (q_n (k17 _ _ ?_))
  refine sx_sub (Sub.cons (t := 2) rfl (.cons (t := 3) rfl (.cons (t := 4) rfl (.cons (t := 14) rfl (.nil))))) ?_
  refine sx_condF rfl ?_
  refine sx_seq fun K46 k46 => sx_region ?_
  refine sx_pure rfl rfl rfl (px_field rfl xfld29x0) ?_
  refine sx_pure rfl rfl rfl (px_load rfl (f19.load1 rfl Try.isAgg4)) ?_
  refine sx_pure rfl rfl rfl (px_not rfl) ?_
  refine sm rfl rfl rfl rfl ?_
  refine sx_tmpB (t := 26) rfl (fun h93 => ?_) (fun h93 => ?_)
  ·
   refine sx_guardT rfl rfl rfl ?_
   refine sx_pure rfl rfl rfl (px_field rfl xfld29x0) ?_
   refine sx_guardT rfl rfl rfl ?_
   have f47 := f12.ext c16
   refine sx_pure rfl rfl rfl (px_load rfl (f47.load1 rfl Try.isAgg4)) ?_
   refine sx_pure rfl rfl rfl (px_pick rfl rfl) ?_
   refine sa rfl rfl rfl rfl ?_
   refine wl_nil (q_n (k46 _ _ ?_))
   refine sx_condB rfl (fun h93x1 => ?_) (fun h93x1 => ?_)
   ·
    refine sx_seq fun K48 k48 => sx_region ?_
    refine sa rfl rfl rfl rfl ?_
    refine wl_nil (q_n (k48 _ _ ?_))
    refine sx_retc ?_
    refine q_br (q_r (sx_ret1 Try.results71 rfl ?_))
    exact ⟨iEq (cmpI_gt (by simp_all [ng] <;> omega)), (((cb2.t cb4).t c11).t c16)⟩
   ·
    refine sx_seq fun K49 k49 => sx_region ?_
    refine sx_pure rfl rfl rfl (px_field rfl xfld29x0) ?_
    refine sx_pure rfl rfl rfl (px_load rfl (f19.load1 rfl Try.isAgg4)) ?_
    refine sa rfl rfl rfl rfl ?_
    refine wl_nil (q_n (k49 _ _ ?_))
    refine sx_sub (Sub.cons (t := 2) rfl (.cons (t := 3) rfl (.cons (t := 4) rfl (.cons (t := 30) rfl (.nil))))) ?_
    refine sx_condB rfl (fun h95 => ?_) (fun h95 => ?_)
    ·
     refine sx_seq fun K50 k50 => sx_region ?_
     refine sx_pure rfl rfl rfl (px_field rfl xfld29x1) ?_
     refine sx_pure rfl rfl rfl (px_load rfl (f47.load1 rfl Try.isAgg22)) ?_
     refine sx_pure rfl rfl rfl (px_field rfl xfld29x1) ?_
     refine sx_pure rfl rfl rfl (px_load rfl (f19.load1 rfl Try.isAgg22)) ?_
     have f51 := f15.ext c16
     have f52 := f10.ext c11
     have f53 := f52.ext c16
     refine sx_call rfl rfl Try.call76 (c_l02Cmp f51 f53 (by omega)) (fun v54 w54 p54 => ?_)
     obtain ⟨rfl, c54⟩ := p54
     have zw54 := c54.size
     refine sa rfl rfl rfl rfl ?_
     refine wl_nil (q_n (k50 _ _ ?_))
     refine sx_retc ?_
     refine q_br (q_r (sx_ret1 Try.results71 rfl ?_))
     exact ⟨iEq (cmpI_mm (by simp_all [ng] <;> omega) (by simp_all [ng] <;> omega)), ((((cb2.t cb4).t c11).t c16).t c54)⟩
    ·
     refine sx_skip ?_
     refine q_bn (q_n (k6 _ _ ?_))
     refine sx_seq fun K55 k55 => sx_region ?_
     refine sx_pure rfl rfl rfl (px_field rfl xfld29x1) ?_
     refine sx_pure rfl rfl rfl (px_load rfl (f19.load1 rfl Try.isAgg22)) ?_
     refine sx_pure rfl rfl rfl (px_field rfl xfld29x1) ?_
     refine sx_pure rfl rfl rfl (px_load rfl (f47.load1 rfl Try.isAgg22)) ?_
     have f56 := f10.ext c11
     have f57 := f56.ext c16
     have f58 := f15.ext c16
     refine sx_call rfl rfl Try.call76 (c_l02Cmp f57 f58 (by omega)) (fun v59 w59 p59 => ?_)
     obtain ⟨rfl, c59⟩ := p59
     have zw59 := c59.size
     refine sa rfl rfl rfl rfl ?_
     refine wl_nil (q_n (k55 _ _ ?_))
     refine sx_retc ?_
     refine sx_ret1 Try.results71 rfl ?_
     exact ⟨iEq (cmpI_nn (by simp_all [ng] <;> omega) (by simp_all [ng] <;> omega)), ((((cb2.t cb4).t c11).t c16).t c59)⟩
  ·
   refine sx_guardF rfl rfl rfl rfl rfl rfl ?_
   refine sx_guardF rfl rfl rfl rfl rfl rfl ?_
   refine sx_pure rfl rfl rfl (px_pick rfl rfl) ?_
   refine sa rfl rfl rfl rfl ?_
   refine wl_nil (q_n (k46 _ _ ?_))
   refine sx_condF rfl ?_
   refine sx_seq fun K60 k60 => sx_region ?_
   refine sx_pure rfl rfl rfl (px_field rfl xfld29x0) ?_
   refine sx_pure rfl rfl rfl (px_load rfl (f19.load1 rfl Try.isAgg4)) ?_
   refine sa rfl rfl rfl rfl ?_
   refine wl_nil (q_n (k60 _ _ ?_))
   refine sx_sub (Sub.cons (t := 2) rfl (.cons (t := 3) rfl (.cons (t := 4) rfl (.cons (t := 30) rfl (.nil))))) ?_
   refine sx_condB rfl (fun h95 => ?_) (fun h95 => ?_)
   ·
    refine sx_seq fun K61 k61 => sx_region ?_
    refine sx_pure rfl rfl rfl (px_field rfl xfld29x1) ?_
    have f62 := f12.ext c16
    refine sx_pure rfl rfl rfl (px_load rfl (f62.load1 rfl Try.isAgg22)) ?_
    refine sx_pure rfl rfl rfl (px_field rfl xfld29x1) ?_
    refine sx_pure rfl rfl rfl (px_load rfl (f19.load1 rfl Try.isAgg22)) ?_
    have f63 := f15.ext c16
    have f64 := f10.ext c11
    have f65 := f64.ext c16
    refine sx_call rfl rfl Try.call76 (c_l02Cmp f63 f65 (by omega)) (fun v66 w66 p66 => ?_)
    obtain ⟨rfl, c66⟩ := p66
    have zw66 := c66.size
    refine sa rfl rfl rfl rfl ?_
    refine wl_nil (q_n (k61 _ _ ?_))
    refine sx_retc ?_
    refine q_br (q_r (sx_ret1 Try.results71 rfl ?_))
    exact ⟨iEq (cmpI_mm (by simp_all [ng] <;> omega) (by simp_all [ng] <;> omega)), ((((cb2.t cb4).t c11).t c16).t c66)⟩
   ·
    refine sx_skip ?_
    refine q_bn (q_n (k6 _ _ ?_))
    refine sx_seq fun K67 k67 => sx_region ?_
    refine sx_pure rfl rfl rfl (px_field rfl xfld29x1) ?_
    refine sx_pure rfl rfl rfl (px_load rfl (f19.load1 rfl Try.isAgg22)) ?_
    refine sx_pure rfl rfl rfl (px_field rfl xfld29x1) ?_
    have f68 := f12.ext c16
    refine sx_pure rfl rfl rfl (px_load rfl (f68.load1 rfl Try.isAgg22)) ?_
    have f69 := f10.ext c11
    have f70 := f69.ext c16
    have f71 := f15.ext c16
    refine sx_call rfl rfl Try.call76 (c_l02Cmp f70 f71 (by omega)) (fun v72 w72 p72 => ?_)
    obtain ⟨rfl, c72⟩ := p72
    have zw72 := c72.size
    refine sa rfl rfl rfl rfl ?_
    refine wl_nil (q_n (k67 _ _ ?_))
    refine sx_retc ?_
    refine sx_ret1 Try.results71 rfl ?_
    exact ⟨iEq (cmpI_nn (by simp_all [ng] <;> omega) (by simp_all [ng] <;> omega)), ((((cb2.t cb4).t c11).t c16).t c72)⟩

theorem c_sDecCmp {w : World} {n1 : Bool} {v1 : Value} {lv1 uv1 : Nat} {z1 : List Int} {p1 : Int} {n2 : Bool} {v2 : Value} {lv2 uv2 : Nat} {z2 : List Int} {p2 : Int} (hv1 : Sl w lv1 uv1 v1 (z1)) (hv2 : Sl w lv2 uv2 v2 (z2)) (h63 : z1.length ≤ 4611686018427387904 ∧ z2.length ≤ 4611686018427387904) :
  Ret Try.prog 29 [.agg #[.bool n1, v1, .int .i64 p1], .agg #[.bool n2, v2, .int .i64 p2]] w fun v w' => v = .int .i64 (dCmp n1 z1 p1 n2 z2 p2) ∧ Chg 0 0 w w' := by
 have hv10 := hv1.fit
 have hv20 := hv2.fit
 refine sx_enter Try.func29 rfl Try.ntmps29 (Nat.le_of_ble_eq_true rfl) ?_
 refine sx_seq fun K1 k1 => sx_region ?_
 refine sx_box [.bool n1, v1, .int .i64 p1] rfl rfl rfl (fun b2 w3 eb2 sb2 fb2 cb2 => ?_)
 have zw3 := cb2.size
 refine sx_box [.bool n2, v2, .int .i64 p2] rfl rfl rfl (fun b4 w5 eb4 sb4 fb4 cb4 => ?_)
 have zw5 := cb4.size
 refine sa rfl rfl rfl rfl ?_
 refine wl_nil (q_n (k1 _ _ ?_))
 refine sx_seq fun K6 k6 => ?_
 refine sx_seq fun K7 k7 => sx_region ?_
 have f8 := fb2.ext cb4
 refine sx_pure rfl rfl rfl (px_load rfl (f8.loadA (vs := [.bool n1, v1, .int .i64 p1]) (look_lit rfl) Try.isAgg31 Try.sizeOf31)) ?_
 have f9 := hv10.ext cb2
 have f10 := f9.ext cb4
 refine sx_call rfl rfl Try.call16 (c_sDecOk f10 (by omega)) (fun v11 w11 p11 => ?_)
 obtain ⟨rfl, c11⟩ := p11
 have zw11 := c11.size
 refine sx_pure rfl rfl rfl (px_notP rfl) ?_
 refine sm rfl rfl rfl rfl ?_
 refine sx_tmpP (t := 11) rfl (fun h131 => ?_) (fun h131 => ?_)
 ·
  refine sx_guardF rfl rfl rfl rfl rfl rfl ?_
  refine sx_guardF rfl rfl rfl rfl rfl rfl ?_
  refine sx_guardF rfl rfl rfl rfl rfl rfl ?_
  refine sx_pure rfl rfl rfl (px_pick rfl rfl) ?_
  refine wl_nil (q_n (k7 _ _ ?_))
  refine sx_condT rfl ?_
  refine sx_seq fun K12 k12 => sx_region ?_
  refine sa rfl rfl rfl rfl ?_
  refine wl_nil (q_n (k12 _ _ ?_))
  refine sx_retc ?_
  refine q_r (sx_ret1 Try.results29 rfl ?_)
  rw [dCmp_no (by grind)]
  exact ⟨rfl, ((cb2.t cb4).t c11)⟩
 ·
  refine sx_guardT rfl rfl rfl ?_
  have f13 := fb4.ext c11
  refine sx_pure rfl rfl rfl (px_load rfl (f13.loadA (vs := [.bool n2, v2, .int .i64 p2]) (look_lit rfl) Try.isAgg31 Try.sizeOf31)) ?_
  refine sx_guardT rfl rfl rfl ?_
  have f14 := hv20.ext cb2
  have f15 := f14.ext cb4
  have f16 := f15.ext c11
  refine sx_call rfl rfl Try.call16 (c_sDecOk f16 (by omega)) (fun v17 w17 p17 => ?_)
  obtain ⟨rfl, c17⟩ := p17
  have zw17 := c17.size
  refine sx_guardT rfl rfl rfl ?_
  refine sx_pure rfl rfl rfl (px_notP rfl) ?_
  refine sx_pure rfl rfl rfl (px_pick rfl rfl) ?_
  refine wl_nil (q_n (k7 _ _ ?_))
  refine sx_condP rfl (fun h131x1 => ?_) (fun h131x1 => ?_)
  ·
   refine sx_seq fun K18 k18 => sx_region ?_
   refine sa rfl rfl rfl rfl ?_
   refine wl_nil (q_n (k18 _ _ ?_))
   refine sx_retc ?_
   refine q_r (sx_ret1 Try.results29 rfl ?_)
   rw [dCmp_no (by grind)]
   exact ⟨rfl, (((cb2.t cb4).t c11).t c17)⟩
  ·
   have hD1 := Decidable.not_not.1 h131
   have hD2 := Decidable.not_not.1 h131x1
   obtain ⟨x1, rfl, rfl, hx1⟩ := hD1.int
   obtain ⟨x2, rfl, rfl, hx2⟩ := hD2.int
   refine sx_skip ?_
   refine q_n (k6 _ _ ?_)
   refine sx_seq fun K19 k19 => sx_region ?_
   have f20 := f8.ext c11
   have f21 := f20.ext c17
   refine sx_pure rfl rfl rfl (px_load rfl (f21.loadA (vs := [.bool (ng x1), v1, .int .i64 p1]) (look_lit rfl) Try.isAgg31 Try.sizeOf31)) ?_
   have f22 := f13.ext c17
   refine sx_pure rfl rfl rfl (px_load rfl (f22.loadA (vs := [.bool (ng x2), v2, .int .i64 p2]) (look_lit rfl) Try.isAgg31 Try.sizeOf31)) ?_
   have f23 := f10.ext c11
   have f24 := f23.ext c17
   have f25 := f16.ext c17
   refine sx_call rfl rfl Try.call70 (c_l07Both f24 f25 (by omega) (by omega)) (fun v26 w26 p26 => ?_)
   obtain ⟨s26, t26, rfl, os_26, ot_26, c26⟩ := p26
   have zw26 := c26.size
   refine sm rfl rfl rfl rfl ?_
   refine sx_pure rfl rfl rfl (px_extract (vs := [.agg #[.bool (ng (x1 * tenI (max p1 p2 - p1))), s26], .agg #[.bool (ng (x2 * tenI (max p1 p2 - p2))), t26], .int .i64 (max p1 p2)]) rfl rfl) ?_
   refine sx_pure rfl rfl rfl (px_extract (vs := [.agg #[.bool (ng (x1 * tenI (max p1 p2 - p1))), s26], .agg #[.bool (ng (x2 * tenI (max p1 p2 - p2))), t26], .int .i64 (max p1 p2)]) rfl rfl) ?_
   refine sx_pure rfl rfl rfl (px_extract (vs := [.agg #[.bool (ng (x1 * tenI (max p1 p2 - p1))), s26], .agg #[.bool (ng (x2 * tenI (max p1 p2 - p2))), t26], .int .i64 (max p1 p2)]) rfl rfl) ?_
   refine sx_alloc [.bool false, (.slice none 0 0)] rfl Try.zeroValue29 rfl (fun b27 w28 eb27 sb27 fb27 cb27 => ?_)
   have zw28 := cb27.size
   refine sx_alloc [.bool false, (.slice none 0 0)] rfl Try.zeroValue29 rfl (fun b29 w30 eb29 sb29 fb29 cb29 => ?_)
   have zw30 := cb29.size
   have f32 := fb27.ext cb29
   have f33 := os_26.ext cb27
   have f34 := f33.ext cb29
   refine sx_store (vs := [.bool (ng (x1 * tenI (max p1 p2 - p1))), s26]) rfl rfl f32 rfl Try.sizeOf29 (Nat.le_of_ble_eq_true rfl) (one_cons rfl (one_cons f34.one one_nil)) (fun w31 sw31 fw31 cw31 => ?_)
   have zw31 := cw31.size
   have gw31 : Blk w31 b27 [.bool (ng (x1 * tenI (max p1 p2 - p1))), s26] 29 := fw31
   have f36 := fb29.chg cw31 (by omega)
   have f37 := ot_26.ext cb27
   have f38 := f37.ext cb29
   have f39 := f38.chg cw31 (by omega)
   refine sx_store (vs := [.bool (ng (x2 * tenI (max p1 p2 - p2))), t26]) rfl rfl f36 rfl Try.sizeOf29 (Nat.le_of_ble_eq_true rfl) (one_cons rfl (one_cons f39.one one_nil)) (fun w35 sw35 fw35 cw35 => ?_)
   have zw35 := cw35.size
   have gw35 : Blk w35 b29 [.bool (ng (x2 * tenI (max p1 p2 - p2))), t26] 29 := fw35
   refine sa rfl rfl rfl rfl ?_
   refine wl_nil (q_n (k19 _ _ ?_))
   refine sx_sub (Sub.cons (t := 4) rfl (.cons (t := 5) rfl (.cons (t := 6) rfl (.nil)))) ?_
   refine sx_seq fun K40 k40 => sx_region ?_
   have f41 := gw31.chg cw35 (by omega)
   refine sx_pure rfl rfl rfl (px_load rfl (f41.loadA (vs := [.bool (ng (x1 * tenI (max p1 p2 - p1))), s26]) (look_lit rfl) Try.isAgg29 Try.sizeOf29)) ?_
   refine sx_pure rfl rfl rfl (px_load rfl (gw35.loadA (vs := [.bool (ng (x2 * tenI (max p1 p2 - p2))), t26]) (look_lit rfl) Try.isAgg29 Try.sizeOf29)) ?_
   have f42 := f34.chg cw31 (by omega)
   have f43 := f42.chg cw35 (by omega)
   have f44 := f39.chg cw35 (by omega)
   refine sx_call rfl rfl Try.call71 (c_IntCmp f43.sv f44.sv (by have h1 := len_ten (k := max p1 p2 - p1) (by omega); have h2 := len_ten (k := max p1 p2 - p2) (by omega); have h3 := len_mulI x1 (tenI (max p1 p2 - p1)); have h4 := len_mulI x2 (tenI (max p1 p2 - p2)); first | omega | (have h5 := len_addI (x1 * tenI (max p1 p2 - p1)) (x2 * tenI (max p1 p2 - p2)); omega)) (by have h1 := len_ten (k := max p1 p2 - p1) (by omega); have h2 := len_ten (k := max p1 p2 - p2) (by omega); have h3 := len_mulI x1 (tenI (max p1 p2 - p1)); have h4 := len_mulI x2 (tenI (max p1 p2 - p2)); first | omega | (have h5 := len_addI (x1 * tenI (max p1 p2 - p1)) (x2 * tenI (max p1 p2 - p2)); omega))) (fun v45 w45 p45 => ?_)
   obtain ⟨rfl, c45⟩ := p45
   have zw45 := c45.size
   refine sa rfl rfl rfl rfl ?_
   refine wl_nil (q_n (k40 _ _ ?_))
   refine sx_retc ?_
   refine sx_ret1 Try.results29 rfl ?_
   rw [dCmp_ok hD1 hD2]
   have q46 := Chg.step (l := 0) (h := 0) (Chg.zero (l := 0) (h := 0) ((((((cb2.t cb4).t c11).t c17).t c26).t cb27).t cb29)) cw31 (by omega)
   have q47 := Chg.step (l := 0) (h := 0) q46 cw35 (by omega)
   have q48 := Chg.step (l := 0) (h := 0) q47 c45 (by omega)
   exact ⟨rfl, q48⟩

theorem c_intSign {w : World} {va : Value} {lva uva : Nat} {x : Int} (hva : Sl w lva uva va (dg x.natAbs)) (hbx : (dg x.natAbs).length ≤ 1000) :
  Ret Try.prog 108 [.agg #[.bool (ng x), va]] w fun v w' => v = .int .i64 ((x).sign) ∧ Chg 0 0 w w' := by
 have hva0 := hva.fit
 refine sx_enter Try.func108 rfl Try.ntmps108 (Nat.le_of_ble_eq_true rfl) ?_
 refine sx_seq fun K1 k1 => sx_region ?_
 refine sx_box [.bool (ng x), va] rfl rfl rfl (fun b2 w3 eb2 sb2 fb2 cb2 => ?_)
 have zw3 := cb2.size
 refine sa rfl rfl rfl rfl ?_
 refine wl_nil (q_n (k1 _ _ ?_))
 refine sx_seq fun K4 k4 => ?_
 refine sx_block ?_
 refine sx_seq fun K5 k5 => sx_region ?_
 refine sx_pure rfl rfl rfl (px_field rfl xfld29x1) ?_
 refine sx_pure rfl rfl rfl (px_load rfl (fb2.load1 rfl Try.isAgg22)) ?_
 have f6 := hva0.ext cb2
 refine sx_pure rfl rfl rfl (px_len rfl Try.underlying22 f6) ?_
 refine sx_pure rfl rfl rfl (px_eq rfl rfl) ?_
 refine sa rfl rfl rfl rfl ?_
 refine wl_nil (q_n (k5 _ _ ?_))
 refine sx_condP rfl (fun h101 => ?_) (fun h101 => ?_)
 ·
  refine sx_seq fun K7 k7 => sx_region ?_
  refine sa rfl rfl rfl rfl ?_
  refine wl_nil (q_n (k7 _ _ ?_))
  refine sx_retc ?_
  refine q_br (q_r (sx_ret1 Try.results108 rfl ?_))
  exact ⟨(by rw [sign_z (by omega)]), cb2⟩
 ·
  refine sx_seq fun K8 k8 => sx_region ?_
  refine sx_pure rfl rfl rfl (px_field rfl xfld29x0) ?_
  refine sx_pure rfl rfl rfl (px_load rfl (fb2.load1 rfl Try.isAgg4)) ?_
  refine sa rfl rfl rfl rfl ?_
  refine wl_nil (q_n (k8 _ _ ?_))
  refine sx_condB rfl (fun h103 => ?_) (fun h103 => ?_)
  ·
   refine sx_seq fun K9 k9 => sx_region ?_
   refine sa rfl rfl rfl rfl ?_
   refine wl_nil (q_n (k9 _ _ ?_))
   refine sx_retc ?_
   refine q_br (q_r (sx_ret1 Try.results108 rfl ?_))
   exact ⟨(by rw [sign_n h103]), cb2⟩
  ·
   refine sx_skip ?_
   refine q_bn (q_n (k4 _ _ ?_))
   refine sx_seq fun K10 k10 => sx_region ?_
   refine sa rfl rfl rfl rfl ?_
   refine wl_nil (q_n (k10 _ _ ?_))
   refine sx_retc ?_
   refine sx_ret1 Try.results108 rfl ?_
   exact ⟨(by rw [sign_p (by omega) h103]), cb2⟩

theorem c_intCmp {w : World} {va : Value} {lva uva : Nat} {x : Int} {vb : Value} {lvb uvb : Nat} {y : Int} (hva : Sl w lva uva va (dg x.natAbs)) (hvb : Sl w lvb uvb vb (dg y.natAbs)) (hbx : (dg x.natAbs).length ≤ 900) (hby : (dg y.natAbs).length ≤ 900) :
  Ret Try.prog 73 [.agg #[.bool (ng x), va], .agg #[.bool (ng y), vb]] w fun v w' => v = .int .i64 (cmpI x y) ∧ Chg 0 0 w w' := by
 have hva0 := hva.fit
 have hvb0 := hvb.fit
 refine sx_enter Try.func73 rfl Try.ntmps73 (Nat.le_of_ble_eq_true rfl) ?_
 refine sx_seq fun K1 k1 => sx_region ?_
 refine sx_box [.bool (ng x), va] rfl rfl rfl (fun b2 w3 eb2 sb2 fb2 cb2 => ?_)
 have zw3 := cb2.size
 refine sx_box [.bool (ng y), vb] rfl rfl rfl (fun b4 w5 eb4 sb4 fb4 cb4 => ?_)
 have zw5 := cb4.size
 refine sa rfl rfl rfl rfl ?_
 refine wl_nil (q_n (k1 _ _ ?_))
 refine sx_seq fun K6 k6 => ?_
 have f7 := fb2.ext cb4
 have f8 := hva0.ext cb2
 have f9 := f8.ext cb4
 have f10 := hvb0.ext cb2
 have f11 := f10.ext cb4
 refine dx_region (fun w' => Chg 0 0 w5 w') (by kernel_rfl) (Chg.zero (Chg.drew _)) ?_
 have d12 := Chg.drew w5
 have s12 : Chg 0 0 w5 (World.drew w5) := Chg.zero (Chg.drew _)
 have y12 : (World.drew w5).heap.size = w5.heap.size := rfl
 generalize World.drew w5 = w12 at *
 have zw12 := d12.size
 refine dx_take 0 rfl rfl rfl rfl (by kernel_rfl) (by kernel_rfl) (by kernel_rfl) s12 (fun _ hS => px_load rfl ((f7.chg hS (by omega)).loadA (vs := [.bool (ng x), va]) (look_lit rfl) Try.isAgg29 Try.sizeOf29)) ?_
 refine dx_take 1 rfl rfl rfl rfl (by kernel_rfl) (by kernel_rfl) (by kernel_rfl) s12 (fun _ hS => px_load rfl ((fb4.chg hS (by omega)).loadA (vs := [.bool (ng y), vb]) (look_lit rfl) Try.isAgg29 Try.sizeOf29)) ?_
 refine dx_eff 2 rfl (by kernel_rfl) ?_
 have f13 := f11.ext d12
 refine sx_call rfl rfl Try.call82 (c_intNeg f13 (by omega)) (fun v14 w14 p14 => ?_)
 obtain ⟨s14, rfl, os_14, c14⟩ := p14
 have zw14 := c14.size
 have s15 : Chg 0 0 w5 w14 := (d12.t c14)
 refine wl_nil ?_
 refine dx_next s15 ?_
 refine dx_eff 3 rfl (by kernel_rfl) ?_
 have f16 := f9.ext d12
 have f17 := f16.ext c14
 refine sx_call rfl rfl Try.call80 (c_intAdd f17 os_14.sv (by omega) (by rw [Int.natAbs_neg]; omega)) (fun v18 w18 p18 => ?_)
 obtain ⟨s18, rfl, os_18, c18⟩ := p18
 have zw18 := c18.size
 have s19 : Chg 0 0 w5 w18 := ((d12.t c14).t c18)
 refine wl_nil ?_
 refine dx_next s19 ?_
 refine dx_eff 4 rfl (by kernel_rfl) ?_
 refine sx_call rfl rfl Try.call108 (c_intSign os_18.sv (by have h := len_addI x (-y); rw [Int.natAbs_neg] at h; omega)) (fun v20 w20 p20 => ?_)
 obtain ⟨rfl, c20⟩ := p20
 have zw20 := c20.size
 have s21 : Chg 0 0 w5 w20 := (((d12.t c14).t c18).t c20)
 refine wl_nil ?_
 refine dx_next s21 ?_
 refine dx_take 5 rfl rfl rfl rfl (by kernel_rfl) (by kernel_rfl) (by kernel_rfl) s21 (fun _ hS => px_assign rfl) ?_
 refine dx_done (by kernel_rfl) ?_
 refine q_n (k6 _ _ ?_)
 refine sx_retc ?_
 refine sx_ret1 Try.results73 rfl ?_
 exact ⟨(by rw [cmpI_sign]), (((((cb2.t cb4).t d12).t c14).t c18).t c20)⟩

theorem c_iDecCmp {w : World} {n1 : Bool} {v1 : Value} {lv1 uv1 : Nat} {z1 : List Int} {p1 : Int} {n2 : Bool} {v2 : Value} {lv2 uv2 : Nat} {z2 : List Int} {p2 : Int} (hv1 : Sl w lv1 uv1 v1 (z1)) (hv2 : Sl w lv2 uv2 v2 (z2)) (h63 : z1.length ≤ 4611686018427387904 ∧ z2.length ≤ 4611686018427387904) :
  Ret Try.prog 30 [.agg #[.bool n1, v1, .int .i64 p1], .agg #[.bool n2, v2, .int .i64 p2]] w fun v w' => v = .int .i64 (dCmp n1 z1 p1 n2 z2 p2) ∧ Chg 0 0 w w' := by
 have hv10 := hv1.fit
 have hv20 := hv2.fit
 refine sx_enter Try.func30 rfl Try.ntmps30 (Nat.le_of_ble_eq_true rfl) ?_
 refine sx_seq fun K1 k1 => sx_region ?_
 refine sx_box [.bool n1, v1, .int .i64 p1] rfl rfl rfl (fun b2 w3 eb2 sb2 fb2 cb2 => ?_)
 have zw3 := cb2.size
 refine sx_box [.bool n2, v2, .int .i64 p2] rfl rfl rfl (fun b4 w5 eb4 sb4 fb4 cb4 => ?_)
 have zw5 := cb4.size
 refine sa rfl rfl rfl rfl ?_
 refine wl_nil (q_n (k1 _ _ ?_))
 refine sx_seq fun K6 k6 => ?_
 refine sx_seq fun K7 k7 => sx_region ?_
 have f8 := fb2.ext cb4
 refine sx_pure rfl rfl rfl (px_load rfl (f8.loadA (vs := [.bool n1, v1, .int .i64 p1]) (look_lit rfl) Try.isAgg31 Try.sizeOf31)) ?_
 have f9 := hv10.ext cb2
 have f10 := f9.ext cb4
 refine sx_call rfl rfl Try.call18 (c_iDecOk f10 (by omega)) (fun v11 w11 p11 => ?_)
 obtain ⟨rfl, c11⟩ := p11
 have zw11 := c11.size
 refine sx_pure rfl rfl rfl (px_notP rfl) ?_
 refine sm rfl rfl rfl rfl ?_
 refine sx_tmpP (t := 9) rfl (fun h138 => ?_) (fun h138 => ?_)
 ·
  refine sx_guardF rfl rfl rfl rfl rfl rfl ?_
  refine sx_guardF rfl rfl rfl rfl rfl rfl ?_
  refine sx_guardF rfl rfl rfl rfl rfl rfl ?_
  refine sx_pure rfl rfl rfl (px_pick rfl rfl) ?_
  refine wl_nil (q_n (k7 _ _ ?_))
  refine sx_condT rfl ?_
  refine sx_seq fun K12 k12 => sx_region ?_
  refine sa rfl rfl rfl rfl ?_
  refine wl_nil (q_n (k12 _ _ ?_))
  refine sx_retc ?_
  refine q_r (sx_ret1 Try.results30 rfl ?_)
  rw [dCmp_no (by grind)]
  exact ⟨rfl, ((cb2.t cb4).t c11)⟩
 ·
  refine sx_guardT rfl rfl rfl ?_
  have f13 := fb4.ext c11
  refine sx_pure rfl rfl rfl (px_load rfl (f13.loadA (vs := [.bool n2, v2, .int .i64 p2]) (look_lit rfl) Try.isAgg31 Try.sizeOf31)) ?_
  refine sx_guardT rfl rfl rfl ?_
  have f14 := hv20.ext cb2
  have f15 := f14.ext cb4
  have f16 := f15.ext c11
  refine sx_call rfl rfl Try.call18 (c_iDecOk f16 (by omega)) (fun v17 w17 p17 => ?_)
  obtain ⟨rfl, c17⟩ := p17
  have zw17 := c17.size
  refine sx_guardT rfl rfl rfl ?_
  refine sx_pure rfl rfl rfl (px_notP rfl) ?_
  refine sx_pure rfl rfl rfl (px_pick rfl rfl) ?_
  refine wl_nil (q_n (k7 _ _ ?_))
  refine sx_condP rfl (fun h138x1 => ?_) (fun h138x1 => ?_)
  ·
   refine sx_seq fun K18 k18 => sx_region ?_
   refine sa rfl rfl rfl rfl ?_
   refine wl_nil (q_n (k18 _ _ ?_))
   refine sx_retc ?_
   refine q_r (sx_ret1 Try.results30 rfl ?_)
   rw [dCmp_no (by grind)]
   exact ⟨rfl, (((cb2.t cb4).t c11).t c17)⟩
  ·
   have hD1 := Decidable.not_not.1 h138
   have hD2 := Decidable.not_not.1 h138x1
   obtain ⟨x1, rfl, rfl, hx1⟩ := hD1.int
   obtain ⟨x2, rfl, rfl, hx2⟩ := hD2.int
   refine sx_skip ?_
   refine q_n (k6 _ _ ?_)
   refine sx_seq fun K19 k19 => sx_region ?_
   refine sx_pure rfl rfl rfl (px_field rfl xfld31x1) ?_
   have f20 := f8.ext c11
   have f21 := f20.ext c17
   refine sx_pure rfl rfl rfl (px_load rfl (f21.load1 rfl Try.isAgg3)) ?_
   refine sx_pure rfl rfl rfl (px_field rfl xfld31x1) ?_
   have f22 := f13.ext c17
   refine sx_pure rfl rfl rfl (px_load rfl (f22.load1 rfl Try.isAgg3)) ?_
   refine sx_pure rfl rfl rfl (px_max rfl rfl) ?_
   refine sx_call rfl rfl Try.call72 (c_scaled) (fun v23 w23 p23 => ?_)
   obtain ⟨b23, rfl, xb_23, hb23, c23⟩ := p23
   have zw23 := c23.size
   refine sa rfl rfl rfl rfl ?_
   refine wl_nil (q_n (k19 _ _ ?_))
   refine sx_sub (Sub.cons (t := 2) rfl (.cons (t := 3) rfl (.cons (t := 4) rfl (.cons (t := 5) rfl (.nil))))) ?_
   refine sx_seq fun K24 k24 => ?_
   have f25 := f21.ext c23
   have f26 := f22.ext c23
   have f27 := f10.ext c11
   have f28 := f27.ext c17
   have f29 := f28.ext c23
   have f30 := f16.ext c17
   have f31 := f30.ext c23
   refine dx_region (fun w' => Chg 0 0 w23 w') (by kernel_rfl) (Chg.zero (Chg.drew _)) ?_
   have d32 := Chg.drew w23
   have s32 : Chg 0 0 w23 (World.drew w23) := Chg.zero (Chg.drew _)
   have y32 : (World.drew w23).heap.size = w23.heap.size := rfl
   generalize World.drew w23 = w32 at *
   have zw32 := d32.size
   refine dx_take 0 rfl rfl rfl rfl (by kernel_rfl) (by kernel_rfl) (by kernel_rfl) s32 (fun _ hS => px_move rfl) ?_
   refine dx_take 1 rfl rfl rfl rfl (by kernel_rfl) (by kernel_rfl) (by kernel_rfl) s32 (fun _ hS => px_load rfl ((f25.chg hS (by omega)).loadA (vs := [.bool (ng x1), v1, .int .i64 p1]) (look_lit rfl) Try.isAgg31 Try.sizeOf31)) ?_
   refine dx_take 3 rfl rfl rfl rfl (by kernel_rfl) (by kernel_rfl) (by kernel_rfl) s32 (fun _ hS => px_move rfl) ?_
   refine dx_take 4 rfl rfl rfl rfl (by kernel_rfl) (by kernel_rfl) (by kernel_rfl) s32 (fun _ hS => px_load rfl ((f26.chg hS (by omega)).loadA (vs := [.bool (ng x2), v2, .int .i64 p2]) (look_lit rfl) Try.isAgg31 Try.sizeOf31)) ?_
   refine dx_eff 2 rfl (by kernel_rfl) ?_
   have f33 := f29.ext d32
   have f34 := xb_23.ext d32
   refine sx_callV rfl rfl rfl Try.call107 (c_scaled1 f33 f34 (by omega) (by omega)) (fun v35 w35 p35 => ?_)
   obtain ⟨s35, rfl, os_35, c35⟩ := p35
   have zw35 := c35.size
   have s36 : Chg 0 0 w23 w35 := (d32.t c35)
   refine wl_nil ?_
   refine dx_next s36 ?_
   refine dx_eff 5 rfl (by kernel_rfl) ?_
   have f37 := f31.ext d32
   have f38 := f37.ext c35
   have f39 := f34.ext c35
   refine sx_callV rfl rfl rfl Try.call107 (c_scaled1 f38 f39 (by omega) (by omega)) (fun v40 w40 p40 => ?_)
   obtain ⟨s40, rfl, os_40, c40⟩ := p40
   have zw40 := c40.size
   have s41 : Chg 0 0 w23 w40 := ((d32.t c35).t c40)
   refine wl_nil ?_
   refine dx_next s41 ?_
   refine dx_eff 6 rfl (by kernel_rfl) ?_
   have f42 := os_35.ext c40
   refine sx_call rfl rfl Try.call73 (c_intCmp f42.sv os_40.sv (by have h1 := len_ten (k := max p1 p2 - p1) (by omega); have h2 := len_ten (k := max p1 p2 - p2) (by omega); have h3 := len_mulI x1 (tenI (max p1 p2 - p1)); have h4 := len_mulI x2 (tenI (max p1 p2 - p2)); first | omega | (have h5 := len_addI (x1 * tenI (max p1 p2 - p1)) (x2 * tenI (max p1 p2 - p2)); omega)) (by have h1 := len_ten (k := max p1 p2 - p1) (by omega); have h2 := len_ten (k := max p1 p2 - p2) (by omega); have h3 := len_mulI x1 (tenI (max p1 p2 - p1)); have h4 := len_mulI x2 (tenI (max p1 p2 - p2)); first | omega | (have h5 := len_addI (x1 * tenI (max p1 p2 - p1)) (x2 * tenI (max p1 p2 - p2)); omega))) (fun v43 w43 p43 => ?_)
   obtain ⟨rfl, c43⟩ := p43
   have zw43 := c43.size
   have s44 : Chg 0 0 w23 w43 := (((d32.t c35).t c40).t c43)
   refine wl_nil ?_
   refine dx_next s44 ?_
   refine dx_take 7 rfl rfl rfl rfl (by kernel_rfl) (by kernel_rfl) (by kernel_rfl) s44 (fun _ hS => px_assign rfl) ?_
   refine dx_done (by kernel_rfl) ?_
   refine q_n (k24 _ _ ?_)
   refine sx_retc ?_
   refine sx_ret1 Try.results30 rfl ?_
   rw [dCmp_ok hD1 hD2]
   exact ⟨rfl, ((((((((cb2.t cb4).t c11).t c17).t c23).t d32).t c35).t c40).t c43)⟩

end Go.Proofs.Yteiifmkclokgnaa
