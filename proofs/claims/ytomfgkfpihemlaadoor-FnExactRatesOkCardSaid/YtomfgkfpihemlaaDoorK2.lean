/- Contracts of functions of the program: what each call returns, and that it changes nothing that was. Conditions: as each says. -/
import Derived.Test.YtomfgkfpihemlaaDoorTy
import Derived.Test.YtomfgkfpihemlaaDoorNatJ
import Derived.Test.YtomfgkfpihemlaaDoorPair
import Derived.Test.YtomfgkfpihemlaaDoorK0
import Derived.Test.YtomfgkfpihemlaaDoorK1
set_option linter.unusedVariables false
set_option linter.unusedSimpArgs false
namespace Go.Proofs.YtomfgkfpihemlaaDoor
open Go Go.RowKit
set_option maxRecDepth 100000
theorem c_IntSub {w : World} {va : Value} {lva uva : Nat} {x : Int} {vb : Value} {lvb uvb : Nat} {y : Int} (hva : Sl w lva uva va (dg x.natAbs)) (hvb : Sl w lvb uvb vb (dg y.natAbs)) (hbx : (dg x.natAbs).length ≤ 50) (hby : (dg y.natAbs).length ≤ 50) :
  Ret Tryd.prog 100 [.agg #[.bool (ng x), va], .agg #[.bool (ng y), vb]] w fun v w' => ∃ s, v = .agg #[.bool (ng (cap (x + -y))), s] ∧ OwnI w' w.heap.size w'.heap.size s intT (dg (cap (x + -y)).natAbs) ∧ Chg 0 0 w w' := by
 have hva0 := hva.fit
 have hvb0 := hvb.fit
 refine sx_enter Tryd.func100 rfl Tryd.ntmps100 (Nat.le_of_ble_eq_true rfl) ?_
 refine sx_seq fun K1 k1 => sx_region ?_
 refine sx_box [.bool (ng x), va] rfl rfl rfl (fun b2 w3 eb2 sb2 fb2 cb2 => ?_)
 have zw3 := cb2.size
 refine sx_box [.bool (ng y), vb] rfl rfl rfl (fun b4 w5 eb4 sb4 fb4 cb4 => ?_)
 have zw5 := cb4.size
 refine sx_alloc [.bool false, (.slice none 0 0)] rfl Tryd.zeroValue29 rfl (fun b6 w7 eb6 sb6 fb6 cb6 => ?_)
 have zw7 := cb6.size
 refine wl_nil (q_n (k1 _ _ ?_))
 refine sx_seq fun K8 k8 => ?_
 refine sx_seq fun K9 k9 => sx_region ?_
 have f10 := fb2.ext cb4
 have f11 := f10.ext cb6
 refine sx_pure rfl rfl rfl (px_load rfl (f11.loadA (vs := [.bool (ng x), va]) (look_lit rfl) Tryd.isAgg29 Tryd.sizeOf29)) ?_
 have f12 := hva0.ext cb2
 have f13 := f12.ext cb4
 have f14 := f13.ext cb6
 refine sx_call rfl rfl Tryd.call59 (c_sIntOk f14 (by omega)) (fun v15 w15 p15 => ?_)
 obtain ⟨rfl, c15⟩ := p15
 have zw15 := c15.size
 refine sx_pure rfl rfl rfl (px_notP rfl) ?_
 refine sm rfl rfl rfl rfl ?_
 have h72 : ¬ (¬ (IOk (ng x) (dg x.natAbs))) := by first | exact fun h => h (IOk_ng (by omega)) | exact fun h => h (IOk_ng (by assumption))
 refine sx_tmpPF (t := 8) rfl h72 ?_
 refine sx_guardT rfl rfl rfl ?_
 have f16 := fb4.ext cb6
 have f17 := f16.ext c15
 refine sx_pure rfl rfl rfl (px_load rfl (f17.loadA (vs := [.bool (ng y), vb]) (look_lit rfl) Tryd.isAgg29 Tryd.sizeOf29)) ?_
 refine sx_guardT rfl rfl rfl ?_
 have f18 := hvb0.ext cb2
 have f19 := f18.ext cb4
 have f20 := f19.ext cb6
 have f21 := f20.ext c15
 refine sx_call rfl rfl Tryd.call59 (c_sIntOk f21 (by omega)) (fun v22 w22 p22 => ?_)
 obtain ⟨rfl, c22⟩ := p22
 have zw22 := c22.size
 refine sx_guardT rfl rfl rfl ?_
 refine sx_pure rfl rfl rfl (px_notP rfl) ?_
 refine sx_pure rfl rfl rfl (px_pick rfl rfl) ?_
 refine wl_nil (q_n (k9 _ _ ?_))
 have h72x1 : ¬ (¬ (IOk (ng y) (dg y.natAbs))) := by first | exact fun h => h (IOk_ng (by omega)) | exact fun h => h (IOk_ng (by assumption))
 refine sx_condPF rfl h72x1 ?_
 refine sx_skip ?_
 refine q_n (k8 _ _ ?_)
 refine sx_seq fun K23 k23 => ?_
 have f24 := f11.ext c15
 have f25 := f24.ext c22
 have f26 := f17.ext c22
 have f27 := f14.ext c15
 have f28 := f27.ext c22
 have f29 := f21.ext c22
 refine dx_region (fun w' => Chg b6 (b6 + 1) w22 w') (by kernel_rfl) (Chg.zero (Chg.drew _)) ?_
 have d30 := Chg.drew w22
 have s30 : Chg b6 (b6 + 1) w22 (World.drew w22) := Chg.zero (Chg.drew _)
 have y30 : (World.drew w22).heap.size = w22.heap.size := rfl
 generalize World.drew w22 = w30 at *
 have zw30 := d30.size
 refine dx_take 0 rfl rfl rfl rfl (by kernel_rfl) (by kernel_rfl) (by kernel_rfl) s30 (fun _ hS => px_load rfl ((f25.chg hS (by omega)).loadA (vs := [.bool (ng x), va]) (look_lit rfl) Tryd.isAgg29 Tryd.sizeOf29)) ?_
 refine dx_take 1 rfl rfl rfl rfl (by kernel_rfl) (by kernel_rfl) (by kernel_rfl) s30 (fun _ hS => px_load rfl ((f26.chg hS (by omega)).loadA (vs := [.bool (ng y), vb]) (look_lit rfl) Tryd.isAgg29 Tryd.sizeOf29)) ?_
 refine dx_eff 2 rfl (by kernel_rfl) ?_
 have f31 := f29.ext d30
 refine sx_call rfl rfl Tryd.call84 (c_IntNeg f31 (by omega)) (fun v32 w32 p32 => ?_)
 obtain ⟨s32, rfl, os_32, c32⟩ := p32
 have zw32 := c32.size
 have s33 : Chg b6 (b6 + 1) w22 w32 := (Chg.zero (l := b6) (h := (b6 + 1)) (d30.t c32))
 refine wl_nil ?_
 refine dx_next s33 ?_
 refine dx_eff 3 rfl (by kernel_rfl) ?_
 have f34 := f28.ext d30
 have f35 := f34.ext c32
 refine sx_call rfl rfl Tryd.call118 (c_l04Add f35 os_32.sv (by omega) (by rw [Int.natAbs_neg]; omega)) (fun v36 w36 p36 => ?_)
 obtain ⟨s36, rfl, os_36, c36⟩ := p36
 have zw36 := c36.size
 have s37 : Chg b6 (b6 + 1) w22 w36 := (Chg.zero (l := b6) (h := (b6 + 1)) ((d30.t c32).t c36))
 refine wl_nil ?_
 refine dx_next s37 ?_
 refine dx_eff 4 rfl (by kernel_rfl) ?_
 have f39 := fb6.ext c15
 have f40 := f39.ext c22
 have f41 := f40.ext d30
 have f42 := f41.ext c32
 have f43 := f42.ext c36
 refine sx_store (vs := [.bool (ng (cap (x + (-y)))), s36]) rfl rfl f43 rfl Tryd.sizeOf29 (Nat.le_of_ble_eq_true rfl) (one_cons rfl (one_cons os_36.one one_nil)) (fun w38 sw38 fw38 cw38 => ?_)
 have zw38 := cw38.size
 have gw38 : Blk w38 b6 [.bool (ng (cap (x + (-y)))), s36] 29 := fw38
 have q45 := Chg.step (l := b6) (h := (b6 + 1)) (Chg.zero (l := b6) (h := (b6 + 1)) ((d30.t c32).t c36)) cw38 (by omega)
 have s44 : Chg b6 (b6 + 1) w22 w38 := q45
 refine wl_nil ?_
 refine dx_next s44 ?_
 refine dx_done (by kernel_rfl) ?_
 refine q_n (k23 _ _ ?_)
 refine sx_sub (Sub.cons (t := 4) rfl (.nil)) ?_
 refine sx_retc ?_
 refine sx_ret1 Tryd.results100 ⟨_, rfl, gw38.loadA (vs := [.bool (ng (cap (x + (-y)))), s36]) (look_lit rfl) Tryd.isAgg29 Tryd.sizeOf29⟩ ?_
 have q46 := Chg.step (l := 0) (h := 0) (Chg.zero (l := 0) (h := 0) (((((((cb2.t cb4).t cb6).t c15).t c22).t d30).t c32).t c36)) cw38 (by omega)
 have f47 := os_36.chg cw38 (by omega)
 exact ⟨_, rfl, (Own.mono f47 (by omega) (by omega)), q46⟩

theorem c_IntSubE {w : World} {va : Value} {lva uva : Nat} {x : Int} {vb : Value} {lvb uvb : Nat} {y : Int} (hva : Sl w lva uva va (dg x.natAbs)) (hvb : Sl w lvb uvb vb (dg y.natAbs)) (hbx : (dg x.natAbs).length ≤ 49) (hby : (dg y.natAbs).length ≤ 49) :
  Ret Tryd.prog 100 [.agg #[.bool (ng x), va], .agg #[.bool (ng y), vb]] w fun v w' => ∃ s, v = .agg #[.bool (ng (x + -y)), s] ∧ OwnI w' w.heap.size w'.heap.size s intT (dg (x + -y).natAbs) ∧ Chg 0 0 w w' := by
 have h := c_IntSub hva hvb (by omega) (by omega); rwa [cap_ok (by have := len_addI x (-y); rw [Int.natAbs_neg] at this; omega)] at h

theorem c_sMoneySub {w : World} {c1 : ByteArray} {n1 : Bool} {v1 : Value} {lv1 uv1 : Nat} {z1 : List Int} {c2 : ByteArray} {n2 : Bool} {v2 : Value} {lv2 uv2 : Nat} {z2 : List Int} (hv1 : Sl w lv1 uv1 v1 (z1)) (hv2 : Sl w lv2 uv2 v2 (z2)) (h63 : z1.length ≤ 4611686018427387904 ∧ z2.length ≤ 4611686018427387904) :
  Ret Tryd.prog 49 [.agg #[.string c1, .bool n1, v1], .agg #[.string c2, .bool n2, v2]] w fun v w' => ∃ s, v = .tuple #[.agg #[.string ((mBin gSub c1 n1 z1 c2 n2 z2).1), .bool ((mBin gSub c1 n1 z1 c2 n2 z2).2.1), s], .bool ((mBin gSub c1 n1 z1 c2 n2 z2).2.2.2)] ∧ OwnI w' w.heap.size w'.heap.size s intT ((mBin gSub c1 n1 z1 c2 n2 z2).2.2.1) ∧ ((mBin gSub c1 n1 z1 c2 n2 z2).2.2.1.length ≤ 4) ∧ Chg 0 0 w w' := by
 have hv10 := hv1.fit
 have hv20 := hv2.fit
 refine sx_enter Tryd.func49 rfl Tryd.ntmps49 (Nat.le_of_ble_eq_true rfl) ?_
 refine sx_seq fun K1 k1 => sx_region ?_
 refine sx_box [.string c1, .bool n1, v1] rfl rfl rfl (fun b2 w3 eb2 sb2 fb2 cb2 => ?_)
 have zw3 := cb2.size
 refine sx_box [.string c2, .bool n2, v2] rfl rfl rfl (fun b4 w5 eb4 sb4 fb4 cb4 => ?_)
 have zw5 := cb4.size
 refine sx_alloc [.string (⟨#[]⟩), .bool false, (.slice none 0 0)] rfl Tryd.zeroValue31 rfl (fun b6 w7 eb6 sb6 fb6 cb6 => ?_)
 have zw7 := cb6.size
 refine sa rfl rfl rfl rfl ?_
 refine wl_nil (q_n (k1 _ _ ?_))
 refine sx_seq fun K8 k8 => ?_
 refine sx_seq fun K9 k9 => sx_region ?_
 have f10 := fb2.ext cb4
 have f11 := f10.ext cb6
 refine sx_pure rfl rfl rfl (px_load rfl (f11.loadA (vs := [.string c1, .bool n1, v1]) (look_lit rfl) Tryd.isAgg31 Tryd.sizeOf31)) ?_
 have f12 := fb4.ext cb6
 refine sx_pure rfl rfl rfl (px_load rfl (f12.loadA (vs := [.string c2, .bool n2, v2]) (look_lit rfl) Tryd.isAgg31 Tryd.sizeOf31)) ?_
 have f13 := hv10.ext cb2
 have f14 := f13.ext cb4
 have f15 := f14.ext cb6
 have f16 := hv20.ext cb2
 have f17 := f16.ext cb4
 have f18 := f17.ext cb6
 refine sx_call rfl rfl Tryd.call86 (c_l09Both f15 f18 (by omega)) (fun v19 w19 p19 => ?_)
 obtain ⟨rfl, c19⟩ := p19
 have zw19 := c19.size
 refine sx_pure rfl rfl rfl (px_notP rfl) ?_
 refine wl_nil (q_n (k9 _ _ ?_))
 refine sx_condP rfl (fun h58 => ?_) (fun h58 => ?_)
 ·
  refine sx_seq fun K20 k20 => sx_region ?_
  refine sx_pure rfl rfl rfl (px_build rfl (xbld31x  _)) ?_
  have f22 := fb6.ext c19
  refine sx_store (vs := [.string (⟨#[]⟩), .bool false, (.slice none 0 0)]) rfl rfl f22 rfl Tryd.sizeOf31 (Nat.le_of_ble_eq_true rfl) (one_cons rfl (one_cons rfl (one_cons rfl one_nil))) (fun w21 sw21 fw21 cw21 => ?_)
  have zw21 := cw21.size
  have gw21 : Blk w21 b6 [.string (⟨#[]⟩), .bool false, (.slice none 0 0)] 31 := fw21
  refine sa rfl rfl rfl rfl ?_
  refine wl_nil (q_n (k20 _ _ ?_))
  refine sx_retc ?_
  refine q_r (sx_ret2 Tryd.results49 ⟨_, rfl, gw21.loadA (vs := [.string (⟨#[]⟩), .bool false, (.slice none 0 0)]) (look_lit rfl) Tryd.isAgg31 Tryd.sizeOf31⟩ rfl ?_)
  rw [mBin_no (by assumption)]
  have q23 := Chg.step (l := 0) (h := 0) (Chg.zero (l := 0) (h := 0) (((cb2.t cb4).t cb6).t c19)) cw21 (by omega)
  exact ⟨_, rfl, Own.nil _ _ _ _ _, by simp [noM], q23⟩
 ·
  have hA := Decidable.not_not.1 h58
  obtain ⟨x1, rfl, rfl, hx1⟩ := hA.1.int
  obtain ⟨x2, rfl, rfl, hx2⟩ := hA.2.1.int
  have la := len_addI x1 x2
  have lb := len_addI x1 (-x2)
  have lc : (dg (-x2).natAbs).length = (dg x2.natAbs).length := by rw [Int.natAbs_neg]
  refine sx_skip ?_
  refine q_n (k8 _ _ ?_)
  refine sx_seq fun K24 k24 => ?_
  have f25 := f11.ext c19
  have f26 := f12.ext c19
  have f27 := f15.ext c19
  have f28 := f18.ext c19
  refine dx_region (fun w' => Chg b6 (b6 + 1) w19 w') (by kernel_rfl) (Chg.zero (Chg.drew _)) ?_
  have d29 := Chg.drew w19
  have s29 : Chg b6 (b6 + 1) w19 (World.drew w19) := Chg.zero (Chg.drew _)
  have y29 : (World.drew w19).heap.size = w19.heap.size := rfl
  generalize World.drew w19 = w29 at *
  have zw29 := d29.size
  refine dx_take 0 rfl rfl rfl rfl (by kernel_rfl) (by kernel_rfl) (by kernel_rfl) s29 (fun _ hS => px_field rfl xfld31x0) ?_
  refine dx_take 1 rfl rfl rfl rfl (by kernel_rfl) (by kernel_rfl) (by kernel_rfl) s29 (fun _ hS => px_load rfl ((f25.chg hS (by omega)).load1 rfl Tryd.isAgg9)) ?_
  refine dx_take 2 rfl rfl rfl rfl (by kernel_rfl) (by kernel_rfl) (by kernel_rfl) s29 (fun _ hS => px_field rfl xfld31x1) ?_
  refine dx_take 3 rfl rfl rfl rfl (by kernel_rfl) (by kernel_rfl) (by kernel_rfl) s29 (fun _ hS => px_load rfl ((f25.chg hS (by omega)).loadA (vs := [.bool (ng x1), v1]) (look_lit rfl) Tryd.isAgg29 Tryd.sizeOf29)) ?_
  refine dx_take 4 rfl rfl rfl rfl (by kernel_rfl) (by kernel_rfl) (by kernel_rfl) s29 (fun _ hS => px_field rfl xfld31x1) ?_
  refine dx_take 5 rfl rfl rfl rfl (by kernel_rfl) (by kernel_rfl) (by kernel_rfl) s29 (fun _ hS => px_load rfl ((f26.chg hS (by omega)).loadA (vs := [.bool (ng x2), v2]) (look_lit rfl) Tryd.isAgg29 Tryd.sizeOf29)) ?_
  refine dx_eff 6 rfl (by kernel_rfl) ?_
  have f30 := f27.ext d29
  have f31 := f28.ext d29
  refine sx_call rfl rfl Tryd.call100 (c_IntSubE f30 f31 (by omega) (by omega)) (fun v32 w32 p32 => ?_)
  obtain ⟨s32, rfl, os_32, c32⟩ := p32
  have zw32 := c32.size
  have s33 : Chg b6 (b6 + 1) w19 w32 := (Chg.zero (l := b6) (h := (b6 + 1)) (d29.t c32))
  refine wl_nil ?_
  refine dx_next s33 ?_
  refine dx_eff 7 rfl (by kernel_rfl) ?_
  refine sx_call rfl rfl Tryd.call73 (c_l09Make os_32 (by omega) (by omega)) (fun v34 w34 p34 => ?_)
  obtain ⟨s34, rfl, os_34, c34⟩ := p34
  have zw34 := c34.size
  have s35 : Chg b6 (b6 + 1) w19 w34 := (Chg.zero (l := b6) (h := (b6 + 1)) ((d29.t c32).t c34))
  refine wl_nil ?_
  refine dx_next s35 ?_
  refine dx_take 8 rfl rfl rfl rfl (by kernel_rfl) (by kernel_rfl) (by kernel_rfl) s35 (fun _ hS => px_extract (vs := [.agg #[.string ((mR c1 (x1 + -x2)).1), .bool ((mR c1 (x1 + -x2)).2.1), s34], .bool ((mR c1 (x1 + -x2)).2.2.2)]) rfl rfl) ?_
  refine dx_take 9 rfl rfl rfl rfl (by kernel_rfl) (by kernel_rfl) (by kernel_rfl) s35 (fun _ hS => px_extract (vs := [.agg #[.string ((mR c1 (x1 + -x2)).1), .bool ((mR c1 (x1 + -x2)).2.1), s34], .bool ((mR c1 (x1 + -x2)).2.2.2)]) rfl rfl) ?_
  refine dx_eff 10 rfl (by kernel_rfl) ?_
  have f37 := fb6.ext c19
  have f38 := f37.ext d29
  have f39 := f38.ext c32
  have f40 := f39.ext c34
  refine sx_store (vs := [.string ((mR c1 (x1 + -x2)).1), .bool ((mR c1 (x1 + -x2)).2.1), s34]) rfl rfl f40 rfl Tryd.sizeOf31 (Nat.le_of_ble_eq_true rfl) (one_cons rfl (one_cons rfl (one_cons os_34.one one_nil))) (fun w36 sw36 fw36 cw36 => ?_)
  have zw36 := cw36.size
  have gw36 : Blk w36 b6 [.string ((mR c1 (x1 + -x2)).1), .bool ((mR c1 (x1 + -x2)).2.1), s34] 31 := fw36
  have q42 := Chg.step (l := b6) (h := (b6 + 1)) (Chg.zero (l := b6) (h := (b6 + 1)) ((d29.t c32).t c34)) cw36 (by omega)
  have s41 : Chg b6 (b6 + 1) w19 w36 := q42
  refine wl_nil ?_
  refine dx_next s41 ?_
  refine dx_take 11 rfl rfl rfl rfl (by kernel_rfl) (by kernel_rfl) (by kernel_rfl) s41 (fun _ hS => px_assign rfl) ?_
  refine dx_done (by kernel_rfl) ?_
  refine q_n (k24 _ _ ?_)
  refine sx_sub (Sub.cons (t := 4) rfl (.cons (t := 5) rfl (.nil))) ?_
  refine sx_retc ?_
  refine sx_ret2 Tryd.results49 ⟨_, rfl, gw36.loadA (vs := [.string ((mR c1 (x1 + -x2)).1), .bool ((mR c1 (x1 + -x2)).2.1), s34]) (look_lit rfl) Tryd.isAgg31 Tryd.sizeOf31⟩ rfl ?_
  rw [mBin_ok hA]
  have q43 := Chg.step (l := 0) (h := 0) (Chg.zero (l := 0) (h := 0) ((((((cb2.t cb4).t cb6).t c19).t d29).t c32).t c34)) cw36 (by omega)
  have f44 := os_34.chg cw36 (by omega)
  exact ⟨_, rfl, (Own.mono f44 (by omega) (by omega)), mR_len, q43⟩

theorem c_iMoneySub {w : World} {c1 : ByteArray} {n1 : Bool} {v1 : Value} {lv1 uv1 : Nat} {z1 : List Int} {c2 : ByteArray} {n2 : Bool} {v2 : Value} {lv2 uv2 : Nat} {z2 : List Int} (hG0 : Glob w) (hv1 : Sl w lv1 uv1 v1 (z1)) (hv2 : Sl w lv2 uv2 v2 (z2)) (h63 : z1.length ≤ 4611686018427387904 ∧ z2.length ≤ 4611686018427387904) :
  Ret Tryd.prog 50 [.agg #[.string c1, .bool n1, v1], .agg #[.string c2, .bool n2, v2]] w fun v w' => ∃ s, v = .tuple #[.agg #[.string ((mBin gSub c1 n1 z1 c2 n2 z2).1), .bool ((mBin gSub c1 n1 z1 c2 n2 z2).2.1), s], .bool ((mBin gSub c1 n1 z1 c2 n2 z2).2.2.2)] ∧ OwnI w' w.heap.size w'.heap.size s intT ((mBin gSub c1 n1 z1 c2 n2 z2).2.2.1) ∧ ((mBin gSub c1 n1 z1 c2 n2 z2).2.2.1.length ≤ 4) ∧ Chg 0 0 w w' := by
 have hv10 := hv1.fit
 have hv20 := hv2.fit
 refine sx_enter Tryd.func50 rfl Tryd.ntmps50 (Nat.le_of_ble_eq_true rfl) ?_
 refine sx_seq fun K1 k1 => sx_region ?_
 refine sx_box [.string c1, .bool n1, v1] rfl rfl rfl (fun b2 w3 eb2 sb2 fb2 cb2 => ?_)
 have zw3 := cb2.size
 refine sx_box [.string c2, .bool n2, v2] rfl rfl rfl (fun b4 w5 eb4 sb4 fb4 cb4 => ?_)
 have zw5 := cb4.size
 refine sx_alloc [.string (⟨#[]⟩), .bool false, (.slice none 0 0)] rfl Tryd.zeroValue31 rfl (fun b6 w7 eb6 sb6 fb6 cb6 => ?_)
 have zw7 := cb6.size
 refine sa rfl rfl rfl rfl ?_
 refine wl_nil (q_n (k1 _ _ ?_))
 refine sx_seq fun K8 k8 => ?_
 refine sx_seq fun K9 k9 => sx_region ?_
 have f10 := fb2.ext cb4
 have f11 := f10.ext cb6
 refine sx_pure rfl rfl rfl (px_load rfl (f11.loadA (vs := [.string c1, .bool n1, v1]) (look_lit rfl) Tryd.isAgg31 Tryd.sizeOf31)) ?_
 have f12 := fb4.ext cb6
 refine sx_pure rfl rfl rfl (px_load rfl (f12.loadA (vs := [.string c2, .bool n2, v2]) (look_lit rfl) Tryd.isAgg31 Tryd.sizeOf31)) ?_
 have f13 := hG0.ext cb2
 have f14 := f13.ext cb4
 have f15 := f14.ext cb6
 have f16 := hv10.ext cb2
 have f17 := f16.ext cb4
 have f18 := f17.ext cb6
 have f19 := hv20.ext cb2
 have f20 := f19.ext cb4
 have f21 := f20.ext cb6
 refine sx_call rfl rfl Tryd.call88 (c_alike f15 f18 f21 (by omega)) (fun v22 w22 p22 => ?_)
 obtain ⟨rfl, c22⟩ := p22
 have zw22 := c22.size
 refine sx_pure rfl rfl rfl (px_notP rfl) ?_
 refine wl_nil (q_n (k9 _ _ ?_))
 refine sx_condP rfl (fun h63 => ?_) (fun h63 => ?_)
 ·
  refine sx_seq fun K23 k23 => sx_region ?_
  refine sx_pure rfl rfl rfl (px_build rfl (xbld31x  _)) ?_
  have f25 := fb6.ext c22
  refine sx_store (vs := [.string (⟨#[]⟩), .bool false, (.slice none 0 0)]) rfl rfl f25 rfl Tryd.sizeOf31 (Nat.le_of_ble_eq_true rfl) (one_cons rfl (one_cons rfl (one_cons rfl one_nil))) (fun w24 sw24 fw24 cw24 => ?_)
  have zw24 := cw24.size
  have gw24 : Blk w24 b6 [.string (⟨#[]⟩), .bool false, (.slice none 0 0)] 31 := fw24
  refine sa rfl rfl rfl rfl ?_
  refine wl_nil (q_n (k23 _ _ ?_))
  refine sx_retc ?_
  refine q_r (sx_ret2 Tryd.results50 ⟨_, rfl, gw24.loadA (vs := [.string (⟨#[]⟩), .bool false, (.slice none 0 0)]) (look_lit rfl) Tryd.isAgg31 Tryd.sizeOf31⟩ rfl ?_)
  rw [mBin_no (by assumption)]
  have q26 := Chg.step (l := 0) (h := 0) (Chg.zero (l := 0) (h := 0) (((cb2.t cb4).t cb6).t c22)) cw24 (by omega)
  exact ⟨_, rfl, Own.nil _ _ _ _ _, by simp [noM], q26⟩
 ·
  have hA := Decidable.not_not.1 h63
  obtain ⟨x1, rfl, rfl, hx1⟩ := hA.1.int
  obtain ⟨x2, rfl, rfl, hx2⟩ := hA.2.1.int
  have la := len_addI x1 x2
  have lb := len_addI x1 (-x2)
  have lc : (dg (-x2).natAbs).length = (dg x2.natAbs).length := by rw [Int.natAbs_neg]
  refine sx_skip ?_
  refine q_n (k8 _ _ ?_)
  refine sx_seq fun K27 k27 => ?_
  have f28 := f15.ext c22
  have f29 := f11.ext c22
  have f30 := f12.ext c22
  have f31 := f18.ext c22
  have f32 := f21.ext c22
  refine dx_region (fun w' => Chg b6 (b6 + 1) w22 w') (by kernel_rfl) (Chg.zero (Chg.drew _)) ?_
  have d33 := Chg.drew w22
  have s33 : Chg b6 (b6 + 1) w22 (World.drew w22) := Chg.zero (Chg.drew _)
  have y33 : (World.drew w22).heap.size = w22.heap.size := rfl
  generalize World.drew w22 = w33 at *
  have zw33 := d33.size
  refine dx_take 0 rfl rfl rfl rfl (by kernel_rfl) (by kernel_rfl) (by kernel_rfl) s33 (fun _ hS => px_field rfl xfld31x0) ?_
  refine dx_take 1 rfl rfl rfl rfl (by kernel_rfl) (by kernel_rfl) (by kernel_rfl) s33 (fun _ hS => px_load rfl ((f29.chg hS (by omega)).load1 rfl Tryd.isAgg9)) ?_
  refine dx_take 2 rfl rfl rfl rfl (by kernel_rfl) (by kernel_rfl) (by kernel_rfl) s33 (fun _ hS => px_field rfl xfld31x1) ?_
  refine dx_take 3 rfl rfl rfl rfl (by kernel_rfl) (by kernel_rfl) (by kernel_rfl) s33 (fun _ hS => px_load rfl ((f29.chg hS (by omega)).loadA (vs := [.bool (ng x1), v1]) (look_lit rfl) Tryd.isAgg29 Tryd.sizeOf29)) ?_
  refine dx_take 4 rfl rfl rfl rfl (by kernel_rfl) (by kernel_rfl) (by kernel_rfl) s33 (fun _ hS => px_field rfl xfld31x1) ?_
  refine dx_take 5 rfl rfl rfl rfl (by kernel_rfl) (by kernel_rfl) (by kernel_rfl) s33 (fun _ hS => px_load rfl ((f30.chg hS (by omega)).loadA (vs := [.bool (ng x2), v2]) (look_lit rfl) Tryd.isAgg29 Tryd.sizeOf29)) ?_
  refine dx_eff 6 rfl (by kernel_rfl) ?_
  have f34 := f32.ext d33
  refine sx_call rfl rfl Tryd.call85 (c_intNeg f34 (by omega)) (fun v35 w35 p35 => ?_)
  obtain ⟨s35, rfl, os_35, c35⟩ := p35
  have zw35 := c35.size
  have s36 : Chg b6 (b6 + 1) w22 w35 := (Chg.zero (l := b6) (h := (b6 + 1)) (d33.t c35))
  refine wl_nil ?_
  refine dx_next s36 ?_
  refine dx_eff 7 rfl (by kernel_rfl) ?_
  have f37 := f31.ext d33
  have f38 := f37.ext c35
  refine sx_call rfl rfl Tryd.call97 (c_intAdd f38 os_35.sv (by omega) (by omega)) (fun v39 w39 p39 => ?_)
  obtain ⟨s39, rfl, os_39, c39⟩ := p39
  have zw39 := c39.size
  have s40 : Chg b6 (b6 + 1) w22 w39 := (Chg.zero (l := b6) (h := (b6 + 1)) ((d33.t c35).t c39))
  refine wl_nil ?_
  refine dx_next s40 ?_
  refine dx_eff 8 rfl (by kernel_rfl) ?_
  have f41 := f28.ext d33
  have f42 := f41.ext c35
  have f43 := f42.ext c39
  refine sx_call rfl rfl Tryd.call75 (c_moneyOf f43 os_39 (by omega) (by omega)) (fun v44 w44 p44 => ?_)
  obtain ⟨s44, rfl, os_44, c44⟩ := p44
  have zw44 := c44.size
  have s45 : Chg b6 (b6 + 1) w22 w44 := (Chg.zero (l := b6) (h := (b6 + 1)) (((d33.t c35).t c39).t c44))
  refine wl_nil ?_
  refine dx_next s45 ?_
  refine dx_take 9 rfl rfl rfl rfl (by kernel_rfl) (by kernel_rfl) (by kernel_rfl) s45 (fun _ hS => px_extract (vs := [.agg #[.string ((mR c1 (x1 + (-x2))).1), .bool ((mR c1 (x1 + (-x2))).2.1), s44], .bool ((mR c1 (x1 + (-x2))).2.2.2)]) rfl rfl) ?_
  refine dx_take 10 rfl rfl rfl rfl (by kernel_rfl) (by kernel_rfl) (by kernel_rfl) s45 (fun _ hS => px_extract (vs := [.agg #[.string ((mR c1 (x1 + (-x2))).1), .bool ((mR c1 (x1 + (-x2))).2.1), s44], .bool ((mR c1 (x1 + (-x2))).2.2.2)]) rfl rfl) ?_
  refine dx_eff 11 rfl (by kernel_rfl) ?_
  have f47 := fb6.ext c22
  have f48 := f47.ext d33
  have f49 := f48.ext c35
  have f50 := f49.ext c39
  have f51 := f50.ext c44
  refine sx_store (vs := [.string ((mR c1 (x1 + (-x2))).1), .bool ((mR c1 (x1 + (-x2))).2.1), s44]) rfl rfl f51 rfl Tryd.sizeOf31 (Nat.le_of_ble_eq_true rfl) (one_cons rfl (one_cons rfl (one_cons os_44.one one_nil))) (fun w46 sw46 fw46 cw46 => ?_)
  have zw46 := cw46.size
  have gw46 : Blk w46 b6 [.string ((mR c1 (x1 + (-x2))).1), .bool ((mR c1 (x1 + (-x2))).2.1), s44] 31 := fw46
  have q53 := Chg.step (l := b6) (h := (b6 + 1)) (Chg.zero (l := b6) (h := (b6 + 1)) (((d33.t c35).t c39).t c44)) cw46 (by omega)
  have s52 : Chg b6 (b6 + 1) w22 w46 := q53
  refine wl_nil ?_
  refine dx_next s52 ?_
  refine dx_take 12 rfl rfl rfl rfl (by kernel_rfl) (by kernel_rfl) (by kernel_rfl) s52 (fun _ hS => px_assign rfl) ?_
  refine dx_done (by kernel_rfl) ?_
  refine q_n (k27 _ _ ?_)
  refine sx_sub (Sub.cons (t := 4) rfl (.cons (t := 5) rfl (.nil))) ?_
  refine sx_retc ?_
  refine sx_ret2 Tryd.results50 ⟨_, rfl, gw46.loadA (vs := [.string ((mR c1 (x1 + (-x2))).1), .bool ((mR c1 (x1 + (-x2))).2.1), s44]) (look_lit rfl) Tryd.isAgg31 Tryd.sizeOf31⟩ rfl ?_
  rw [mBin_ok hA]
  have q54 := Chg.step (l := 0) (h := 0) (Chg.zero (l := 0) (h := 0) (((((((cb2.t cb4).t cb6).t c22).t d33).t c35).t c39).t c44)) cw46 (by omega)
  have f55 := os_44.chg cw46 (by omega)
  exact ⟨_, rfl, (Own.mono f55 (by omega) (by omega)), mR_len, q54⟩

theorem c_IntCmp {w : World} {va : Value} {lva uva : Nat} {x : Int} {vb : Value} {lvb uvb : Nat} {y : Int} (hva : Sl w lva uva va (dg x.natAbs)) (hvb : Sl w lvb uvb vb (dg y.natAbs)) (hbx : (dg x.natAbs).length ≤ 50) (hby : (dg y.natAbs).length ≤ 50) :
  Ret Tryd.prog 87 [.agg #[.bool (ng x), va], .agg #[.bool (ng y), vb]] w fun v w' => v = .int .i64 (cmpI x y) ∧ Chg 0 0 w w' := by
 have hva0 := hva.fit
 have hvb0 := hvb.fit
 refine sx_enter Tryd.func87 rfl Tryd.ntmps87 (Nat.le_of_ble_eq_true rfl) ?_
 refine sx_seq fun K1 k1 => sx_region ?_
 refine sx_box [.bool (ng x), va] rfl rfl rfl (fun b2 w3 eb2 sb2 fb2 cb2 => ?_)
 have zw3 := cb2.size
 refine sx_box [.bool (ng y), vb] rfl rfl rfl (fun b4 w5 eb4 sb4 fb4 cb4 => ?_)
 have zw5 := cb4.size
 refine sa rfl rfl rfl rfl ?_
 refine wl_nil (q_n (k1 _ _ ?_))
 refine sx_seq fun K6 k6 => ?_
 refine sx_block ?_
 refine sx_seq fun K7 k7 => sx_region ?_
 have f8 := fb2.ext cb4
 refine sx_pure rfl rfl rfl (px_load rfl (f8.loadA (vs := [.bool (ng x), va]) (look_lit rfl) Tryd.isAgg29 Tryd.sizeOf29)) ?_
 have f9 := hva0.ext cb2
 have f10 := f9.ext cb4
 refine sx_call rfl rfl Tryd.call59 (c_sIntOk f10 (by omega)) (fun v11 w11 p11 => ?_)
 obtain ⟨rfl, c11⟩ := p11
 have zw11 := c11.size
 refine sx_pure rfl rfl rfl (px_notP rfl) ?_
 refine sm rfl rfl rfl rfl ?_
 have h89 : ¬ (¬ (IOk (ng x) (dg x.natAbs))) := by first | exact fun h => h (IOk_ng (by omega)) | exact fun h => h (IOk_ng (by assumption))
 refine sx_tmpPF (t := 9) rfl h89 ?_
 refine sx_guardT rfl rfl rfl ?_
 have f12 := fb4.ext c11
 refine sx_pure rfl rfl rfl (px_load rfl (f12.loadA (vs := [.bool (ng y), vb]) (look_lit rfl) Tryd.isAgg29 Tryd.sizeOf29)) ?_
 refine sx_guardT rfl rfl rfl ?_
 have f13 := hvb0.ext cb2
 have f14 := f13.ext cb4
 have f15 := f14.ext c11
 refine sx_call rfl rfl Tryd.call59 (c_sIntOk f15 (by omega)) (fun v16 w16 p16 => ?_)
 obtain ⟨rfl, c16⟩ := p16
 have zw16 := c16.size
 refine sx_guardT rfl rfl rfl ?_
 refine sx_pure rfl rfl rfl (px_notP rfl) ?_
 refine sx_pure rfl rfl rfl (px_pick rfl rfl) ?_
 refine sa rfl rfl rfl rfl ?_
 refine wl_nil (q_n (k7 _ _ ?_))
 have h89x1 : ¬ (¬ (IOk (ng y) (dg y.natAbs))) := by first | exact fun h => h (IOk_ng (by omega)) | exact fun h => h (IOk_ng (by assumption))
 refine sx_condPF rfl h89x1 ?_
 refine sx_seq fun K17 k17 => sx_region ?_
 refine sx_pure rfl rfl rfl (px_field rfl xfld29x0) ?_
 have f18 := f8.ext c11
 have f19 := f18.ext c16
 refine sx_pure rfl rfl rfl (px_load rfl (f19.load1 rfl Tryd.isAgg4)) ?_
 refine sm rfl rfl rfl rfl ?_
 refine sx_tmpB (t := 17) rfl (fun h91 => ?_) (fun h91 => ?_)
 ·
  refine sx_guardT rfl rfl rfl ?_
  refine sx_pure rfl rfl rfl (px_field rfl xfld29x0) ?_
  refine sx_guardT rfl rfl rfl ?_
  have f20 := f12.ext c16
  refine sx_pure rfl rfl rfl (px_load rfl (f20.load1 rfl Tryd.isAgg4)) ?_
  refine sx_guardT rfl rfl rfl ?_
  refine sx_pure rfl rfl rfl (px_not rfl) ?_
  refine sx_pure rfl rfl rfl (px_pick rfl rfl) ?_
  refine sa rfl rfl rfl rfl ?_
  refine wl_nil (q_n (k17 _ _ ?_))
  refine sx_sub (Sub.cons (t := 2) rfl (.cons (t := 3) rfl (.cons (t := 4) rfl (.cons (t := 14) rfl (.nil))))) ?_
  refine sx_condB rfl (fun h91x1 => ?_) (fun h91x1 => ?_)
  ·
   refine sx_seq fun K21 k21 => sx_region ?_
   refine sa rfl rfl rfl rfl ?_
   refine wl_nil (q_n (k21 _ _ ?_))
   refine sx_retc ?_
   refine q_br (q_r (sx_ret1 Tryd.results87 rfl ?_))
   exact ⟨iEq (cmpI_lt (by simp_all [ng] <;> omega)), (((cb2.t cb4).t c11).t c16)⟩
  ·
   refine sx_seq fun K22 k22 => sx_region ?_
   refine sx_pure rfl rfl rfl (px_field rfl xfld29x0) ?_
   refine sx_pure rfl rfl rfl (px_load rfl (f19.load1 rfl Tryd.isAgg4)) ?_
   refine sx_pure rfl rfl rfl (px_not rfl) ?_
   refine sm rfl rfl rfl rfl ?_
   refine sx_tmpB (t := 26) rfl (fun h93 => ?_) (fun h93 => ?_)
   ·
    refine sx_guardT rfl rfl rfl ?_
    refine sx_pure rfl rfl rfl (px_field rfl xfld29x0) ?_
    refine sx_guardT rfl rfl rfl ?_
    refine sx_pure rfl rfl rfl (px_load rfl (f20.load1 rfl Tryd.isAgg4)) ?_
    refine sx_pure rfl rfl rfl (px_pick rfl rfl) ?_
    refine sa rfl rfl rfl rfl ?_
    refine wl_nil (q_n (k22 _ _ ?_))
    refine sx_condB rfl (fun h93x1 => ?_) (fun h93x1 => ?_)
    ·
     refine sx_seq fun K23 k23 => sx_region ?_
     refine sa rfl rfl rfl rfl ?_
     refine wl_nil (q_n (k23 _ _ ?_))
     refine sx_retc ?_
     refine q_br (q_r (sx_ret1 Tryd.results87 rfl ?_))
     exact ⟨iEq (cmpI_gt (by simp_all [ng] <;> omega)), (((cb2.t cb4).t c11).t c16)⟩
    ·
     refine sx_seq fun K24 k24 => sx_region ?_
     refine sx_pure rfl rfl rfl (px_field rfl xfld29x0) ?_
     refine sx_pure rfl rfl rfl (px_load rfl (f19.load1 rfl Tryd.isAgg4)) ?_
     refine sa rfl rfl rfl rfl ?_
     refine wl_nil (q_n (k24 _ _ ?_))
     refine sx_sub (Sub.cons (t := 2) rfl (.cons (t := 3) rfl (.cons (t := 4) rfl (.cons (t := 30) rfl (.nil))))) ?_
     refine sx_condB rfl (fun h95 => ?_) (fun h95 => ?_)
     ·
      refine sx_seq fun K25 k25 => sx_region ?_
      refine sx_pure rfl rfl rfl (px_field rfl xfld29x1) ?_
      refine sx_pure rfl rfl rfl (px_load rfl (f20.load1 rfl Tryd.isAgg22)) ?_
      refine sx_pure rfl rfl rfl (px_field rfl xfld29x1) ?_
      refine sx_pure rfl rfl rfl (px_load rfl (f19.load1 rfl Tryd.isAgg22)) ?_
      have f26 := f15.ext c16
      have f27 := f10.ext c11
      have f28 := f27.ext c16
      refine sx_call rfl rfl Tryd.call115 (c_l02Cmp f26 f28 (by omega)) (fun v29 w29 p29 => ?_)
      obtain ⟨rfl, c29⟩ := p29
      have zw29 := c29.size
      refine sa rfl rfl rfl rfl ?_
      refine wl_nil (q_n (k25 _ _ ?_))
      refine sx_retc ?_
      refine q_br (q_r (sx_ret1 Tryd.results87 rfl ?_))
      exact ⟨iEq (cmpI_mm (by simp_all [ng] <;> omega) (by simp_all [ng] <;> omega)), ((((cb2.t cb4).t c11).t c16).t c29)⟩
     ·
      refine sx_skip ?_
      refine q_bn (q_n (k6 _ _ ?_))
      refine sx_seq fun K30 k30 => sx_region ?_
      refine sx_pure rfl rfl rfl (px_field rfl xfld29x1) ?_
      refine sx_pure rfl rfl rfl (px_load rfl (f19.load1 rfl Tryd.isAgg22)) ?_
      refine sx_pure rfl rfl rfl (px_field rfl xfld29x1) ?_
      refine sx_pure rfl rfl rfl (px_load rfl (f20.load1 rfl Tryd.isAgg22)) ?_
      have f31 := f10.ext c11
      have f32 := f31.ext c16
      have f33 := f15.ext c16
      refine sx_call rfl rfl Tryd.call115 (c_l02Cmp f32 f33 (by omega)) (fun v34 w34 p34 => ?_)
      obtain ⟨rfl, c34⟩ := p34
      have zw34 := c34.size
      refine sa rfl rfl rfl rfl ?_
      refine wl_nil (q_n (k30 _ _ ?_))
      refine sx_retc ?_
      refine sx_ret1 Tryd.results87 rfl ?_
      exact ⟨iEq (cmpI_nn (by simp_all [ng] <;> omega) (by simp_all [ng] <;> omega)), ((((cb2.t cb4).t c11).t c16).t c34)⟩
   ·
    refine sx_guardF rfl rfl rfl rfl rfl rfl ?_
    refine sx_guardF rfl rfl rfl rfl rfl rfl ?_
    refine sx_pure rfl rfl rfl (px_pick rfl rfl) ?_
    refine sa rfl rfl rfl rfl ?_
    refine wl_nil (q_n (k22 _ _ ?_))
    refine sx_condF rfl ?_
    refine sx_seq fun K35 k35 => sx_region ?_
    refine sx_pure rfl rfl rfl (px_field rfl xfld29x0) ?_
    refine sx_pure rfl rfl rfl (px_load rfl (f19.load1 rfl Tryd.isAgg4)) ?_
    refine sa rfl rfl rfl rfl ?_
    refine wl_nil (q_n (k35 _ _ ?_))
    refine sx_sub (Sub.cons (t := 2) rfl (.cons (t := 3) rfl (.cons (t := 4) rfl (.cons (t := 30) rfl (.nil))))) ?_
    refine sx_condB rfl (fun h95 => ?_) (fun h95 => ?_)
    ·
     refine sx_seq fun K36 k36 => sx_region ?_
     refine sx_pure rfl rfl rfl (px_field rfl xfld29x1) ?_
     refine sx_pure rfl rfl rfl (px_load rfl (f20.load1 rfl Tryd.isAgg22)) ?_
     refine sx_pure rfl rfl rfl (px_field rfl xfld29x1) ?_
     refine sx_pure rfl rfl rfl (px_load rfl (f19.load1 rfl Tryd.isAgg22)) ?_
     have f37 := f15.ext c16
     have f38 := f10.ext c11
     have f39 := f38.ext c16
     refine sx_call rfl rfl Tryd.call115 (c_l02Cmp f37 f39 (by omega)) (fun v40 w40 p40 => ?_)
     obtain ⟨rfl, c40⟩ := p40
     have zw40 := c40.size
     refine sa rfl rfl rfl rfl ?_
     refine wl_nil (q_n (k36 _ _ ?_))
     refine sx_retc ?_
     refine q_br (q_r (sx_ret1 Tryd.results87 rfl ?_))
     exact ⟨iEq (cmpI_mm (by simp_all [ng] <;> omega) (by simp_all [ng] <;> omega)), ((((cb2.t cb4).t c11).t c16).t c40)⟩
    ·
     refine sx_skip ?_
     refine q_bn (q_n (k6 _ _ ?_))
     refine sx_seq fun K41 k41 => sx_region ?_
     refine sx_pure rfl rfl rfl (px_field rfl xfld29x1) ?_
     refine sx_pure rfl rfl rfl (px_load rfl (f19.load1 rfl Tryd.isAgg22)) ?_
     refine sx_pure rfl rfl rfl (px_field rfl xfld29x1) ?_
     refine sx_pure rfl rfl rfl (px_load rfl (f20.load1 rfl Tryd.isAgg22)) ?_
     have f42 := f10.ext c11
     have f43 := f42.ext c16
     have f44 := f15.ext c16
     refine sx_call rfl rfl Tryd.call115 (c_l02Cmp f43 f44 (by omega)) (fun v45 w45 p45 => ?_)
     obtain ⟨rfl, c45⟩ := p45
     have zw45 := c45.size
     refine sa rfl rfl rfl rfl ?_
     refine wl_nil (q_n (k41 _ _ ?_))
     refine sx_retc ?_
     refine sx_ret1 Tryd.results87 rfl ?_
     exact ⟨iEq (cmpI_nn (by simp_all [ng] <;> omega) (by simp_all [ng] <;> omega)), ((((cb2.t cb4).t c11).t c16).t c45)⟩
 ·
  refine sx_guardF rfl rfl rfl rfl rfl rfl ?_
  refine sx_guardF rfl rfl rfl rfl rfl rfl ?_
  refine sx_guardF rfl rfl rfl rfl rfl rfl ?_
  refine sx_pure rfl rfl rfl (px_pick rfl rfl) ?_
  refine sa rfl rfl rfl rfl ?_
  refine wl_nil (q_n (k17 _ _ ?_))
  refine sx_sub (Sub.cons (t := 2) rfl (.cons (t := 3) rfl (.cons (t := 4) rfl (.cons (t := 14) rfl (.nil))))) ?_
  refine sx_condF rfl ?_
  refine sx_seq fun K46 k46 => sx_region ?_
  refine sx_pure rfl rfl rfl (px_field rfl xfld29x0) ?_
  refine sx_pure rfl rfl rfl (px_load rfl (f19.load1 rfl Tryd.isAgg4)) ?_
  refine sx_pure rfl rfl rfl (px_not rfl) ?_
  refine sm rfl rfl rfl rfl ?_
  refine sx_tmpB (t := 26) rfl (fun h93 => ?_) (fun h93 => ?_)
  ·
   refine sx_guardT rfl rfl rfl ?_
   refine sx_pure rfl rfl rfl (px_field rfl xfld29x0) ?_
   refine sx_guardT rfl rfl rfl ?_
   have f47 := f12.ext c16
   refine sx_pure rfl rfl rfl (px_load rfl (f47.load1 rfl Tryd.isAgg4)) ?_
   refine sx_pure rfl rfl rfl (px_pick rfl rfl) ?_
   refine sa rfl rfl rfl rfl ?_
   refine wl_nil (q_n (k46 _ _ ?_))
   refine sx_condB rfl (fun h93x1 => ?_) (fun h93x1 => ?_)
   ·
    refine sx_seq fun K48 k48 => sx_region ?_
    refine sa rfl rfl rfl rfl ?_
    refine wl_nil (q_n (k48 _ _ ?_))
    refine sx_retc ?_
    refine q_br (q_r (sx_ret1 Tryd.results87 rfl ?_))
    exact ⟨iEq (cmpI_gt (by simp_all [ng] <;> omega)), (((cb2.t cb4).t c11).t c16)⟩
   ·
    refine sx_seq fun K49 k49 => sx_region ?_
    refine sx_pure rfl rfl rfl (px_field rfl xfld29x0) ?_
    refine sx_pure rfl rfl rfl (px_load rfl (f19.load1 rfl Tryd.isAgg4)) ?_
    refine sa rfl rfl rfl rfl ?_
    refine wl_nil (q_n (k49 _ _ ?_))
    refine sx_sub (Sub.cons (t := 2) rfl (.cons (t := 3) rfl (.cons (t := 4) rfl (.cons (t := 30) rfl (.nil))))) ?_
    refine sx_condB rfl (fun h95 => ?_) (fun h95 => ?_)
    ·
     refine sx_seq fun K50 k50 => sx_region ?_
     refine sx_pure rfl rfl rfl (px_field rfl xfld29x1) ?_
     refine sx_pure rfl rfl rfl (px_load rfl (f47.load1 rfl Tryd.isAgg22)) ?_
     refine sx_pure rfl rfl rfl (px_field rfl xfld29x1) ?_
     refine sx_pure rfl rfl rfl (px_load rfl (f19.load1 rfl Tryd.isAgg22)) ?_
     have f51 := f15.ext c16
     have f52 := f10.ext c11
     have f53 := f52.ext c16
     refine sx_call rfl rfl Tryd.call115 (c_l02Cmp f51 f53 (by omega)) (fun v54 w54 p54 => ?_)
     obtain ⟨rfl, c54⟩ := p54
     have zw54 := c54.size
     refine sa rfl rfl rfl rfl ?_
     refine wl_nil (q_n (k50 _ _ ?_))
     refine sx_retc ?_
     refine q_br (q_r (sx_ret1 Tryd.results87 rfl ?_))
     exact ⟨iEq (cmpI_mm (by simp_all [ng] <;> omega) (by simp_all [ng] <;> omega)), ((((cb2.t cb4).t c11).t c16).t c54)⟩
    ·
     refine sx_skip ?_
     refine q_bn (q_n (k6 _ _ ?_))
     refine sx_seq fun K55 k55 => sx_region ?_
     refine sx_pure rfl rfl rfl (px_field rfl xfld29x1) ?_
     refine sx_pure rfl rfl rfl (px_load rfl (f19.load1 rfl Tryd.isAgg22)) ?_
     refine sx_pure rfl rfl rfl (px_field rfl xfld29x1) ?_
     refine sx_pure rfl rfl rfl (px_load rfl (f47.load1 rfl Tryd.isAgg22)) ?_
     have f56 := f10.ext c11
     have f57 := f56.ext c16
     have f58 := f15.ext c16
     refine sx_call rfl rfl Tryd.call115 (c_l02Cmp f57 f58 (by omega)) (fun v59 w59 p59 => ?_)
     obtain ⟨rfl, c59⟩ := p59
     have zw59 := c59.size
     refine sa rfl rfl rfl rfl ?_
     refine wl_nil (q_n (k55 _ _ ?_))
     refine sx_retc ?_
     refine sx_ret1 Tryd.results87 rfl ?_
     exact ⟨iEq (cmpI_nn (by simp_all [ng] <;> omega) (by simp_all [ng] <;> omega)), ((((cb2.t cb4).t c11).t c16).t c59)⟩
  ·
   refine sx_guardF rfl rfl rfl rfl rfl rfl ?_
   refine sx_guardF rfl rfl rfl rfl rfl rfl ?_
   refine sx_pure rfl rfl rfl (px_pick rfl rfl) ?_
   refine sa rfl rfl rfl rfl ?_
   refine wl_nil (q_n (k46 _ _ ?_))
   refine sx_condF rfl ?_
   refine sx_seq fun K60 k60 => sx_region ?_
   refine sx_pure rfl rfl rfl (px_field rfl xfld29x0) ?_
   refine sx_pure rfl rfl rfl (px_load rfl (f19.load1 rfl Tryd.isAgg4)) ?_
   refine sa rfl rfl rfl rfl ?_
   refine wl_nil (q_n (k60 _ _ ?_))
   refine sx_sub (Sub.cons (t := 2) rfl (.cons (t := 3) rfl (.cons (t := 4) rfl (.cons (t := 30) rfl (.nil))))) ?_
   refine sx_condB rfl (fun h95 => ?_) (fun h95 => ?_)
   ·
    refine sx_seq fun K61 k61 => sx_region ?_
    refine sx_pure rfl rfl rfl (px_field rfl xfld29x1) ?_
    have f62 := f12.ext c16
    refine sx_pure rfl rfl rfl (px_load rfl (f62.load1 rfl Tryd.isAgg22)) ?_
    refine sx_pure rfl rfl rfl (px_field rfl xfld29x1) ?_
    refine sx_pure rfl rfl rfl (px_load rfl (f19.load1 rfl Tryd.isAgg22)) ?_
    have f63 := f15.ext c16
    have f64 := f10.ext c11
    have f65 := f64.ext c16
    refine sx_call rfl rfl Tryd.call115 (c_l02Cmp f63 f65 (by omega)) (fun v66 w66 p66 => ?_)
    obtain ⟨rfl, c66⟩ := p66
    have zw66 := c66.size
    refine sa rfl rfl rfl rfl ?_
    refine wl_nil (q_n (k61 _ _ ?_))
    refine sx_retc ?_
    refine q_br (q_r (sx_ret1 Tryd.results87 rfl ?_))
    exact ⟨iEq (cmpI_mm (by simp_all [ng] <;> omega) (by simp_all [ng] <;> omega)), ((((cb2.t cb4).t c11).t c16).t c66)⟩
   ·
    refine sx_skip ?_
    refine q_bn (q_n (k6 _ _ ?_))
    refine sx_seq fun K67 k67 => sx_region ?_
    refine sx_pure rfl rfl rfl (px_field rfl xfld29x1) ?_
    refine sx_pure rfl rfl rfl (px_load rfl (f19.load1 rfl Tryd.isAgg22)) ?_
    refine sx_pure rfl rfl rfl (px_field rfl xfld29x1) ?_
    have f68 := f12.ext c16
    refine sx_pure rfl rfl rfl (px_load rfl (f68.load1 rfl Tryd.isAgg22)) ?_
    have f69 := f10.ext c11
    have f70 := f69.ext c16
    have f71 := f15.ext c16
    refine sx_call rfl rfl Tryd.call115 (c_l02Cmp f70 f71 (by omega)) (fun v72 w72 p72 => ?_)
    obtain ⟨rfl, c72⟩ := p72
    have zw72 := c72.size
    refine sa rfl rfl rfl rfl ?_
    refine wl_nil (q_n (k67 _ _ ?_))
    refine sx_retc ?_
    refine sx_ret1 Tryd.results87 rfl ?_
    exact ⟨iEq (cmpI_nn (by simp_all [ng] <;> omega) (by simp_all [ng] <;> omega)), ((((cb2.t cb4).t c11).t c16).t c72)⟩

theorem c_sMoneyCmp {w : World} {c1 : ByteArray} {n1 : Bool} {v1 : Value} {lv1 uv1 : Nat} {z1 : List Int} {c2 : ByteArray} {n2 : Bool} {v2 : Value} {lv2 uv2 : Nat} {z2 : List Int} (hv1 : Sl w lv1 uv1 v1 (z1)) (hv2 : Sl w lv2 uv2 v2 (z2)) (h63 : z1.length ≤ 4611686018427387904 ∧ z2.length ≤ 4611686018427387904) :
  Ret Tryd.prog 36 [.agg #[.string c1, .bool n1, v1], .agg #[.string c2, .bool n2, v2]] w fun v w' => v = .tuple #[.int .i64 ((mCmp c1 n1 z1 c2 n2 z2).1), .bool ((mCmp c1 n1 z1 c2 n2 z2).2)] ∧ Chg 0 0 w w' := by
 have hv10 := hv1.fit
 have hv20 := hv2.fit
 refine sx_enter Tryd.func36 rfl Tryd.ntmps36 (Nat.le_of_ble_eq_true rfl) ?_
 refine sx_seq fun K1 k1 => sx_region ?_
 refine sx_box [.string c1, .bool n1, v1] rfl rfl rfl (fun b2 w3 eb2 sb2 fb2 cb2 => ?_)
 have zw3 := cb2.size
 refine sx_box [.string c2, .bool n2, v2] rfl rfl rfl (fun b4 w5 eb4 sb4 fb4 cb4 => ?_)
 have zw5 := cb4.size
 refine sa rfl rfl rfl rfl ?_
 refine sa rfl rfl rfl rfl ?_
 refine wl_nil (q_n (k1 _ _ ?_))
 refine sx_seq fun K6 k6 => ?_
 refine sx_seq fun K7 k7 => sx_region ?_
 have f8 := fb2.ext cb4
 refine sx_pure rfl rfl rfl (px_load rfl (f8.loadA (vs := [.string c1, .bool n1, v1]) (look_lit rfl) Tryd.isAgg31 Tryd.sizeOf31)) ?_
 refine sx_pure rfl rfl rfl (px_load rfl (fb4.loadA (vs := [.string c2, .bool n2, v2]) (look_lit rfl) Tryd.isAgg31 Tryd.sizeOf31)) ?_
 have f9 := hv10.ext cb2
 have f10 := f9.ext cb4
 have f11 := hv20.ext cb2
 have f12 := f11.ext cb4
 refine sx_call rfl rfl Tryd.call86 (c_l09Both f10 f12 (by omega)) (fun v13 w13 p13 => ?_)
 obtain ⟨rfl, c13⟩ := p13
 have zw13 := c13.size
 refine sx_pure rfl rfl rfl (px_notP rfl) ?_
 refine wl_nil (q_n (k7 _ _ ?_))
 refine sx_condP rfl (fun h82 => ?_) (fun h82 => ?_)
 ·
  refine sx_seq fun K14 k14 => sx_region ?_
  refine sa rfl rfl rfl rfl ?_
  refine sa rfl rfl rfl rfl ?_
  refine wl_nil (q_n (k14 _ _ ?_))
  refine sx_retc ?_
  refine q_r (sx_ret2 Tryd.results36 rfl rfl ?_)
  rw [mCmp_no (by assumption)]
  exact ⟨rfl, ((cb2.t cb4).t c13)⟩
 ·
  have hA := Decidable.not_not.1 h82
  obtain ⟨x1, rfl, rfl, hx1⟩ := hA.1.int
  obtain ⟨x2, rfl, rfl, hx2⟩ := hA.2.1.int
  have la := len_addI x1 x2
  have lb := len_addI x1 (-x2)
  have lc : (dg (-x2).natAbs).length = (dg x2.natAbs).length := by rw [Int.natAbs_neg]
  refine sx_skip ?_
  refine q_n (k6 _ _ ?_)
  refine sx_seq fun K15 k15 => sx_region ?_
  refine sx_pure rfl rfl rfl (px_field rfl xfld31x1) ?_
  have f16 := f8.ext c13
  refine sx_pure rfl rfl rfl (px_load rfl (f16.loadA (vs := [.bool (ng x1), v1]) (look_lit rfl) Tryd.isAgg29 Tryd.sizeOf29)) ?_
  refine sx_pure rfl rfl rfl (px_field rfl xfld31x1) ?_
  have f17 := fb4.ext c13
  refine sx_pure rfl rfl rfl (px_load rfl (f17.loadA (vs := [.bool (ng x2), v2]) (look_lit rfl) Tryd.isAgg29 Tryd.sizeOf29)) ?_
  have f18 := f10.ext c13
  have f19 := f12.ext c13
  refine sx_call rfl rfl Tryd.call87 (c_IntCmp f18 f19 (by omega) (by omega)) (fun v20 w20 p20 => ?_)
  obtain ⟨rfl, c20⟩ := p20
  have zw20 := c20.size
  refine sa rfl rfl rfl rfl ?_
  refine sa rfl rfl rfl rfl ?_
  refine wl_nil (q_n (k15 _ _ ?_))
  refine sx_sub (Sub.cons (t := 4) rfl (.cons (t := 5) rfl (.nil))) ?_
  refine sx_retc ?_
  refine sx_ret2 Tryd.results36 rfl rfl ?_
  rw [mCmp_ok hA]
  exact ⟨rfl, (((cb2.t cb4).t c13).t c20)⟩

theorem c_intSign {w : World} {va : Value} {lva uva : Nat} {x : Int} (hva : Sl w lva uva va (dg x.natAbs)) (hbx : (dg x.natAbs).length ≤ 1000) :
  Ret Tryd.prog 82 [.agg #[.bool (ng x), va]] w fun v w' => v = .int .i64 ((x).sign) ∧ Chg 0 0 w w' := by
 have hva0 := hva.fit
 refine sx_enter Tryd.func82 rfl Tryd.ntmps82 (Nat.le_of_ble_eq_true rfl) ?_
 refine sx_seq fun K1 k1 => sx_region ?_
 refine sx_box [.bool (ng x), va] rfl rfl rfl (fun b2 w3 eb2 sb2 fb2 cb2 => ?_)
 have zw3 := cb2.size
 refine sa rfl rfl rfl rfl ?_
 refine wl_nil (q_n (k1 _ _ ?_))
 refine sx_seq fun K4 k4 => ?_
 refine sx_block ?_
 refine sx_seq fun K5 k5 => sx_region ?_
 refine sx_pure rfl rfl rfl (px_field rfl xfld29x1) ?_
 refine sx_pure rfl rfl rfl (px_load rfl (fb2.load1 rfl Tryd.isAgg22)) ?_
 have f6 := hva0.ext cb2
 refine sx_pure rfl rfl rfl (px_len rfl Tryd.underlying22 f6) ?_
 refine sx_pure rfl rfl rfl (px_eq rfl rfl) ?_
 refine sa rfl rfl rfl rfl ?_
 refine wl_nil (q_n (k5 _ _ ?_))
 refine sx_condP rfl (fun h101 => ?_) (fun h101 => ?_)
 ·
  refine sx_seq fun K7 k7 => sx_region ?_
  refine sa rfl rfl rfl rfl ?_
  refine wl_nil (q_n (k7 _ _ ?_))
  refine sx_retc ?_
  refine q_br (q_r (sx_ret1 Tryd.results82 rfl ?_))
  exact ⟨(by rw [sign_z (by omega)]), cb2⟩
 ·
  refine sx_seq fun K8 k8 => sx_region ?_
  refine sx_pure rfl rfl rfl (px_field rfl xfld29x0) ?_
  refine sx_pure rfl rfl rfl (px_load rfl (fb2.load1 rfl Tryd.isAgg4)) ?_
  refine sa rfl rfl rfl rfl ?_
  refine wl_nil (q_n (k8 _ _ ?_))
  refine sx_condB rfl (fun h103 => ?_) (fun h103 => ?_)
  ·
   refine sx_seq fun K9 k9 => sx_region ?_
   refine sa rfl rfl rfl rfl ?_
   refine wl_nil (q_n (k9 _ _ ?_))
   refine sx_retc ?_
   refine q_br (q_r (sx_ret1 Tryd.results82 rfl ?_))
   exact ⟨(by rw [sign_n h103]), cb2⟩
  ·
   refine sx_skip ?_
   refine q_bn (q_n (k4 _ _ ?_))
   refine sx_seq fun K10 k10 => sx_region ?_
   refine sa rfl rfl rfl rfl ?_
   refine wl_nil (q_n (k10 _ _ ?_))
   refine sx_retc ?_
   refine sx_ret1 Tryd.results82 rfl ?_
   exact ⟨(by rw [sign_p (by omega) h103]), cb2⟩

theorem c_intCmp {w : World} {va : Value} {lva uva : Nat} {x : Int} {vb : Value} {lvb uvb : Nat} {y : Int} (hva : Sl w lva uva va (dg x.natAbs)) (hvb : Sl w lvb uvb vb (dg y.natAbs)) (hbx : (dg x.natAbs).length ≤ 900) (hby : (dg y.natAbs).length ≤ 900) :
  Ret Tryd.prog 89 [.agg #[.bool (ng x), va], .agg #[.bool (ng y), vb]] w fun v w' => v = .int .i64 (cmpI x y) ∧ Chg 0 0 w w' := by
 have hva0 := hva.fit
 have hvb0 := hvb.fit
 refine sx_enter Tryd.func89 rfl Tryd.ntmps89 (Nat.le_of_ble_eq_true rfl) ?_
 refine sx_seq fun K1 k1 => sx_region ?_
 refine sx_box [.bool (ng x), va] rfl rfl rfl (fun b2 w3 eb2 sb2 fb2 cb2 => ?_)
 have zw3 := cb2.size
 refine sx_box [.bool (ng y), vb] rfl rfl rfl (fun b4 w5 eb4 sb4 fb4 cb4 => ?_)
 have zw5 := cb4.size
 refine sa rfl rfl rfl rfl ?_
 refine wl_nil (q_n (k1 _ _ ?_))
 refine sx_seq fun K6 k6 => ?_
 have f7 := fb2.ext cb4
 have f8 := hva0.ext cb2
 have f9 := f8.ext cb4
 have f10 := hvb0.ext cb2
 have f11 := f10.ext cb4
 refine dx_region (fun w' => Chg 0 0 w5 w') (by kernel_rfl) (Chg.zero (Chg.drew _)) ?_
 have d12 := Chg.drew w5
 have s12 : Chg 0 0 w5 (World.drew w5) := Chg.zero (Chg.drew _)
 have y12 : (World.drew w5).heap.size = w5.heap.size := rfl
 generalize World.drew w5 = w12 at *
 have zw12 := d12.size
 refine dx_take 0 rfl rfl rfl rfl (by kernel_rfl) (by kernel_rfl) (by kernel_rfl) s12 (fun _ hS => px_load rfl ((f7.chg hS (by omega)).loadA (vs := [.bool (ng x), va]) (look_lit rfl) Tryd.isAgg29 Tryd.sizeOf29)) ?_
 refine dx_take 1 rfl rfl rfl rfl (by kernel_rfl) (by kernel_rfl) (by kernel_rfl) s12 (fun _ hS => px_load rfl ((fb4.chg hS (by omega)).loadA (vs := [.bool (ng y), vb]) (look_lit rfl) Tryd.isAgg29 Tryd.sizeOf29)) ?_
 refine dx_eff 2 rfl (by kernel_rfl) ?_
 have f13 := f11.ext d12
 refine sx_call rfl rfl Tryd.call85 (c_intNeg f13 (by omega)) (fun v14 w14 p14 => ?_)
 obtain ⟨s14, rfl, os_14, c14⟩ := p14
 have zw14 := c14.size
 have s15 : Chg 0 0 w5 w14 := (d12.t c14)
 refine wl_nil ?_
 refine dx_next s15 ?_
 refine dx_eff 3 rfl (by kernel_rfl) ?_
 have f16 := f9.ext d12
 have f17 := f16.ext c14
 refine sx_call rfl rfl Tryd.call97 (c_intAdd f17 os_14.sv (by omega) (by rw [Int.natAbs_neg]; omega)) (fun v18 w18 p18 => ?_)
 obtain ⟨s18, rfl, os_18, c18⟩ := p18
 have zw18 := c18.size
 have s19 : Chg 0 0 w5 w18 := ((d12.t c14).t c18)
 refine wl_nil ?_
 refine dx_next s19 ?_
 refine dx_eff 4 rfl (by kernel_rfl) ?_
 refine sx_call rfl rfl Tryd.call82 (c_intSign os_18.sv (by have h := len_addI x (-y); rw [Int.natAbs_neg] at h; omega)) (fun v20 w20 p20 => ?_)
 obtain ⟨rfl, c20⟩ := p20
 have zw20 := c20.size
 have s21 : Chg 0 0 w5 w20 := (((d12.t c14).t c18).t c20)
 refine wl_nil ?_
 refine dx_next s21 ?_
 refine dx_take 5 rfl rfl rfl rfl (by kernel_rfl) (by kernel_rfl) (by kernel_rfl) s21 (fun _ hS => px_assign rfl) ?_
 refine dx_done (by kernel_rfl) ?_
 refine q_n (k6 _ _ ?_)
 refine sx_retc ?_
 refine sx_ret1 Tryd.results89 rfl ?_
 exact ⟨(by rw [cmpI_sign]), (((((cb2.t cb4).t d12).t c14).t c18).t c20)⟩

theorem c_iMoneyCmp {w : World} {c1 : ByteArray} {n1 : Bool} {v1 : Value} {lv1 uv1 : Nat} {z1 : List Int} {c2 : ByteArray} {n2 : Bool} {v2 : Value} {lv2 uv2 : Nat} {z2 : List Int} (hG0 : Glob w) (hv1 : Sl w lv1 uv1 v1 (z1)) (hv2 : Sl w lv2 uv2 v2 (z2)) (h63 : z1.length ≤ 4611686018427387904 ∧ z2.length ≤ 4611686018427387904) :
  Ret Tryd.prog 37 [.agg #[.string c1, .bool n1, v1], .agg #[.string c2, .bool n2, v2]] w fun v w' => v = .tuple #[.int .i64 ((mCmp c1 n1 z1 c2 n2 z2).1), .bool ((mCmp c1 n1 z1 c2 n2 z2).2)] ∧ Chg 0 0 w w' := by
 have hv10 := hv1.fit
 have hv20 := hv2.fit
 refine sx_enter Tryd.func37 rfl Tryd.ntmps37 (Nat.le_of_ble_eq_true rfl) ?_
 refine sx_seq fun K1 k1 => sx_region ?_
 refine sx_box [.string c1, .bool n1, v1] rfl rfl rfl (fun b2 w3 eb2 sb2 fb2 cb2 => ?_)
 have zw3 := cb2.size
 refine sx_box [.string c2, .bool n2, v2] rfl rfl rfl (fun b4 w5 eb4 sb4 fb4 cb4 => ?_)
 have zw5 := cb4.size
 refine sa rfl rfl rfl rfl ?_
 refine sa rfl rfl rfl rfl ?_
 refine wl_nil (q_n (k1 _ _ ?_))
 refine sx_seq fun K6 k6 => ?_
 refine sx_seq fun K7 k7 => sx_region ?_
 have f8 := fb2.ext cb4
 refine sx_pure rfl rfl rfl (px_load rfl (f8.loadA (vs := [.string c1, .bool n1, v1]) (look_lit rfl) Tryd.isAgg31 Tryd.sizeOf31)) ?_
 refine sx_pure rfl rfl rfl (px_load rfl (fb4.loadA (vs := [.string c2, .bool n2, v2]) (look_lit rfl) Tryd.isAgg31 Tryd.sizeOf31)) ?_
 have f9 := hG0.ext cb2
 have f10 := f9.ext cb4
 have f11 := hv10.ext cb2
 have f12 := f11.ext cb4
 have f13 := hv20.ext cb2
 have f14 := f13.ext cb4
 refine sx_call rfl rfl Tryd.call88 (c_alike f10 f12 f14 (by omega)) (fun v15 w15 p15 => ?_)
 obtain ⟨rfl, c15⟩ := p15
 have zw15 := c15.size
 refine sx_pure rfl rfl rfl (px_notP rfl) ?_
 refine wl_nil (q_n (k7 _ _ ?_))
 refine sx_condP rfl (fun h87 => ?_) (fun h87 => ?_)
 ·
  refine sx_seq fun K16 k16 => sx_region ?_
  refine sa rfl rfl rfl rfl ?_
  refine sa rfl rfl rfl rfl ?_
  refine wl_nil (q_n (k16 _ _ ?_))
  refine sx_retc ?_
  refine q_r (sx_ret2 Tryd.results37 rfl rfl ?_)
  rw [mCmp_no (by assumption)]
  exact ⟨rfl, ((cb2.t cb4).t c15)⟩
 ·
  have hA := Decidable.not_not.1 h87
  obtain ⟨x1, rfl, rfl, hx1⟩ := hA.1.int
  obtain ⟨x2, rfl, rfl, hx2⟩ := hA.2.1.int
  have la := len_addI x1 x2
  have lb := len_addI x1 (-x2)
  have lc : (dg (-x2).natAbs).length = (dg x2.natAbs).length := by rw [Int.natAbs_neg]
  refine sx_skip ?_
  refine q_n (k6 _ _ ?_)
  refine sx_seq fun K17 k17 => sx_region ?_
  refine sx_pure rfl rfl rfl (px_field rfl xfld31x1) ?_
  have f18 := f8.ext c15
  refine sx_pure rfl rfl rfl (px_load rfl (f18.loadA (vs := [.bool (ng x1), v1]) (look_lit rfl) Tryd.isAgg29 Tryd.sizeOf29)) ?_
  refine sx_pure rfl rfl rfl (px_field rfl xfld31x1) ?_
  have f19 := fb4.ext c15
  refine sx_pure rfl rfl rfl (px_load rfl (f19.loadA (vs := [.bool (ng x2), v2]) (look_lit rfl) Tryd.isAgg29 Tryd.sizeOf29)) ?_
  have f20 := f12.ext c15
  have f21 := f14.ext c15
  refine sx_call rfl rfl Tryd.call89 (c_intCmp f20 f21 (by omega) (by omega)) (fun v22 w22 p22 => ?_)
  obtain ⟨rfl, c22⟩ := p22
  have zw22 := c22.size
  refine sa rfl rfl rfl rfl ?_
  refine sa rfl rfl rfl rfl ?_
  refine wl_nil (q_n (k17 _ _ ?_))
  refine sx_sub (Sub.cons (t := 4) rfl (.cons (t := 5) rfl (.nil))) ?_
  refine sx_retc ?_
  refine sx_ret2 Tryd.results37 rfl rfl ?_
  rw [mCmp_ok hA]
  exact ⟨rfl, (((cb2.t cb4).t c15).t c22)⟩

theorem c_l02Mul {w : World} {va : Value} {lva uva : Nat} {m : Nat} {vb : Value} {lvb uvb : Nat} {n : Nat} (hva : Sl w lva uva va (dg m)) (hvb : Sl w lvb uvb vb (dg n)) (hbm : (dg m).length ≤ 1000) (hbn : (dg n).length ≤ 1000) :
  Ret Tryd.prog 116 [va, vb] w fun v w' => ∃ s, v = s ∧ Sl w' (w.heap.size) (w'.heap.size) s (dg (m * n)) ∧ Chg 0 0 w w' := by
 have hva0 := hva.fit
 have hvb0 := hvb.fit
 refine sx_enter Tryd.func116 rfl Tryd.ntmps116 (Nat.le_of_ble_eq_true rfl) ?_
 refine sx_seq fun K1 k1 => sx_region ?_
 refine sa rfl rfl rfl rfl ?_
 refine wl_nil (q_n (k1 _ _ ?_))
 refine sx_seq fun K2 k2 => ?_
 refine sx_seq fun K3 k3 => sx_region ?_
 refine sm rfl rfl rfl rfl ?_
 refine sx_pure rfl rfl rfl (px_len rfl Tryd.underlying22 hva0) ?_
 refine sx_pure rfl rfl rfl (px_eq rfl rfl) ?_
 refine sm rfl rfl rfl rfl ?_
 refine sx_tmpP (t := 15) rfl (fun h131 => ?_) (fun h131 => ?_)
 ·
  refine sx_guardF rfl rfl rfl rfl rfl rfl ?_
  refine sx_guardF rfl rfl rfl rfl rfl rfl ?_
  refine sx_guardF rfl rfl rfl rfl rfl rfl ?_
  refine sx_pure rfl rfl rfl (px_pick rfl rfl) ?_
  refine wl_nil (q_n (k3 _ _ ?_))
  refine sx_condT rfl ?_
  refine sx_seq fun K4 k4 => sx_region ?_
  refine sa rfl rfl rfl rfl ?_
  refine wl_nil (q_n (k4 _ _ ?_))
  refine sx_retc ?_
  refine q_r (sx_ret1 Tryd.results116 rfl ?_)
  have e0 : m * n = 0 := by first | (rw [dg_nil.1 (List.length_eq_zero_iff.1 (show (dg m).length = 0 by omega)), Nat.zero_mul]) | (rw [dg_nil.1 (List.length_eq_zero_iff.1 (show (dg n).length = 0 by omega)), Nat.mul_zero])
  rw [e0, dg_zero]
  exact ⟨_, rfl, Sv.nil _ _ _ _, (Chg.refl 0 0 _)⟩
 ·
  refine sx_guardT rfl rfl rfl ?_
  refine sm rfl rfl rfl rfl ?_
  refine sx_guardT rfl rfl rfl ?_
  refine sx_pure rfl rfl rfl (px_len rfl Tryd.underlying22 hvb0) ?_
  refine sx_guardT rfl rfl rfl ?_
  refine sx_pure rfl rfl rfl (px_eq rfl rfl) ?_
  refine sx_pure rfl rfl rfl (px_pick rfl rfl) ?_
  refine wl_nil (q_n (k3 _ _ ?_))
  refine sx_condP rfl (fun h131x1 => ?_) (fun h131x1 => ?_)
  ·
   refine sx_seq fun K5 k5 => sx_region ?_
   refine sa rfl rfl rfl rfl ?_
   refine wl_nil (q_n (k5 _ _ ?_))
   refine sx_retc ?_
   refine q_r (sx_ret1 Tryd.results116 rfl ?_)
   have e0 : m * n = 0 := by first | (rw [dg_nil.1 (List.length_eq_zero_iff.1 (show (dg m).length = 0 by omega)), Nat.zero_mul]) | (rw [dg_nil.1 (List.length_eq_zero_iff.1 (show (dg n).length = 0 by omega)), Nat.mul_zero])
   rw [e0, dg_zero]
   exact ⟨_, rfl, Sv.nil _ _ _ _, (Chg.refl 0 0 _)⟩
  ·
   refine sx_skip ?_
   refine q_n (k2 _ _ ?_)
   refine sx_seq fun K6 k6 => sx_region ?_
   refine sm rfl rfl rfl rfl ?_
   refine sx_pure rfl rfl rfl (px_len rfl Tryd.underlying22 hva0) ?_
   refine sm rfl rfl rfl rfl ?_
   refine sx_pure rfl rfl rfl (px_len rfl Tryd.underlying22 hvb0) ?_
   refine sx_pure rfl rfl rfl (px_add rfl rfl (by omega)) ?_
   refine sx_make (c := (dg m).length + (dg n).length) rfl xelt22 (look_int rfl (by omega)) (look_int rfl (by omega)) (by omega) (by unfold maxLen; omega) (fun s7 ws7 fs7 cs7 ls7 => ?_)
   have ns7 := fs7.made
   have zws7 := cs7.size
   refine sa rfl rfl rfl rfl ?_
   refine wl_nil (q_n (k6 _ _ ?_))
   refine sx_sub (Sub.cons (t := 0) rfl (.cons (t := 1) rfl (.cons (t := 4) rfl (.cons (t := 5) rfl (.nil))))) ?_
   refine sx_seq fun K8 k8 => ?_
   refine sx_seq fun K9 k9 => sx_region ?_
   refine sm rfl rfl rfl rfl ?_
   have f10 := hva0.ext cs7
   refine sx_pure rfl rfl rfl (px_len rfl Tryd.underlying22 f10) ?_
   refine sm rfl rfl rfl rfl ?_
   refine wl_nil (q_n (k9 _ _ ?_))
   refine sx_block ?_
   refine sx_loop (fun mm aa w' => ∃ (k : Nat) (os : List Int), Agr 72 [(1, vb), (5, s7), (26, va), (27, .int .i64 (↑(dg m).length)), (28, .int .i64 ↑k)] aa ∧ Chg w.heap.size ws7.heap.size ws7 w' ∧ Own w' w.heap.size ws7.heap.size s7 intT os.length 1 (os.map (Value.int .i64)) ∧ (mm = (dg m).length - k) ∧ (k ≤ (dg m).length) ∧ (os.length = (dg m).length + (dg n).length) ∧ (Lm os) ∧ (∀ i, k + (dg n).length ≤ i → os.getD i 0 = 0) ∧ (vl os = vl ((dg m).take k) * n)) (_) (fun a ha => ⟨0, List.replicate ((dg m).length + (dg n).length) 0, ha.sub (Sub.cons (t := 1) rfl (.cons (t := 5) rfl (.cons (t := 26) rfl (.cons (t := 27) (look_int (t := 27) rfl (by first | omega | simp)) (.cons (t := 28) (look_int (t := 28) rfl (by first | omega | simp)) (.nil)))))), Chg.refl _ _ _, (ns7.mono (by omega) (by omega)), rfl, by omega, by simp, Lm.replicate _, fun i _ => zero_rep _ i (Nat.zero_le _), by rw [vl_replicate, List.take_zero]; simp [vl]⟩) ?_
   rintro mm aa wl11 ⟨k, os, hAwl11, cwl11, hs_s7, hm, hk, hos, hlm, hz, hv⟩
   refine (show cw Tryd.prog 72 _ _ _ wl11 from ?_) aa hAwl11
   clear hAwl11
   have zwl11 := cwl11.size
   have am := (Lm_dg m).getD k
   refine sx_seq fun K12 k12 => sx_region ?_
   refine sx_pure rfl rfl rfl (px_lt rfl rfl) ?_
   refine wl_nil (q_n (k12 _ _ ?_))
   refine sx_seq fun K13 k13 => ?_
   refine sx_condP rfl (fun h135 => ?_) (fun h135 => ?_)
   ·
    refine sx_skip ?_
    refine q_n (k13 _ _ ?_)
    refine sx_seq fun K14 k14 => ?_
    refine sx_block ?_
    refine sx_seq fun K15 k15 => sx_region ?_
    refine sm rfl rfl rfl rfl ?_
    have f16 := f10.chg cwl11 (by omega)
    refine sx_pure rfl rfl rfl (px_index1 (j := k) rfl rfl (by omega) Tryd.underlying22 Tryd.sizeOf3 f16 (by first | omega | (simp only [List.length_set]; omega))) ?_
    refine sx_pure rfl rfl rfl (px_load rfl (f16.load1 (at_int (by omega)) Tryd.isAgg3)) ?_
    refine sa rfl rfl rfl rfl ?_
    refine sa rfl rfl rfl rfl ?_
    refine wl_nil (q_n (k15 _ _ ?_))
    refine sx_seq fun K17 k17 => sx_region ?_
    refine sa rfl rfl rfl rfl ?_
    refine wl_nil (q_n (k17 _ _ ?_))
    refine sx_seq fun K18 k18 => ?_
    refine sx_seq fun K19 k19 => sx_region ?_
    refine sm rfl rfl rfl rfl ?_
    have f20 := hvb0.ext cs7
    have f21 := f20.chg cwl11 (by omega)
    refine sx_pure rfl rfl rfl (px_len rfl Tryd.underlying22 f21) ?_
    refine sm rfl rfl rfl rfl ?_
    refine wl_nil (q_n (k19 _ _ ?_))
    refine sx_sub (Sub.cons (t := 1) rfl (.cons (t := 5) rfl (.cons (t := 6) rfl (.cons (t := 7) rfl (.cons (t := 8) rfl (.cons (t := 26) rfl (.cons (t := 27) rfl (.cons (t := 28) rfl (.cons (t := 33) rfl (.cons (t := 34) rfl (.cons (t := 35) rfl (.nil)))))))))))) ?_
    refine sx_block ?_
    refine sx_loop (fun mm aa w' => ∃ (j : Nat) (o2 : List Int) (c : Int), Agr 72 [(1, vb), (5, s7), (6, .int .i64 ↑k), (7, .int .i64 ((dg m).getD k 0)), (8, .int .i64 c), (26, va), (27, .int .i64 (↑(dg m).length)), (28, .int .i64 ↑k), (33, vb), (34, .int .i64 (↑(dg n).length)), (35, .int .i64 ↑j)] aa ∧ Chg w.heap.size ws7.heap.size wl11 w' ∧ Own w' w.heap.size ws7.heap.size s7 intT o2.length 1 (o2.map (Value.int .i64)) ∧ (mm = (dg n).length - j) ∧ (j ≤ (dg n).length) ∧ (o2.length = (dg m).length + (dg n).length) ∧ (Lm o2) ∧ (∀ i, k + (dg n).length ≤ i → o2.getD i 0 = 0) ∧ (0 ≤ c ∧ c < 1000000000) ∧ (vl o2 + Bs ^ (k + j) * c.toNat = vl os + Bs ^ k * (((dg m).getD k 0).toNat * vl ((dg n).take j)))) (_) (fun a ha => ⟨0, os, 0, ha.sub (Sub.cons (t := 1) rfl (.cons (t := 5) rfl (.cons (t := 6) rfl (.cons (t := 7) rfl (.cons (t := 8) (look_int (t := 8) rfl (by first | omega | simp)) (.cons (t := 26) rfl (.cons (t := 27) rfl (.cons (t := 28) rfl (.cons (t := 33) rfl (.cons (t := 34) (look_int (t := 34) rfl (by first | omega | simp)) (.cons (t := 35) (look_int (t := 35) rfl (by first | omega | simp)) (.nil)))))))))))), Chg.refl _ _ _, hs_s7, rfl, by omega, hos, hlm, hz, by omega, by simp [vl]⟩) ?_
    rintro mm aa wl22 ⟨j, o2, c, hAwl22, cwl22, hs_s7, hm, hj, hos2, hlm2, hz2, hc, hv2⟩
    refine (show cw Tryd.prog 72 _ _ _ wl22 from ?_) aa hAwl22
    clear hAwl22
    have zwl22 := cwl22.size
    have bn := (Lm_dg n).getD j
    have on := hlm2.getD (k + j)
    have hxy := mul_limb am.1 am.2 bn.1 bn.2
    refine sx_seq fun K23 k23 => sx_region ?_
    refine sx_pure rfl rfl rfl (px_lt rfl rfl) ?_
    refine wl_nil (q_n (k23 _ _ ?_))
    refine sx_seq fun K24 k24 => ?_
    refine sx_condP rfl (fun h137 => ?_) (fun h137 => ?_)
    ·
     refine sx_skip ?_
     refine q_n (k24 _ _ ?_)
     refine sx_seq fun K25 k25 => ?_
     refine sx_block ?_
     refine sx_seq fun K26 k26 => sx_region ?_
     refine sm rfl rfl rfl rfl ?_
     have f27 := f21.chg cwl22 (by omega)
     refine sx_pure rfl rfl rfl (px_index1 (j := j) rfl rfl (by omega) Tryd.underlying22 Tryd.sizeOf3 f27 (by first | omega | (simp only [List.length_set]; omega))) ?_
     refine sx_pure rfl rfl rfl (px_load rfl (f27.load1 (at_int (by omega)) Tryd.isAgg3)) ?_
     refine sa rfl rfl rfl rfl ?_
     refine sa rfl rfl rfl rfl ?_
     refine wl_nil (q_n (k26 _ _ ?_))
     refine sx_sub (Sub.cons (t := 1) rfl (.cons (t := 5) rfl (.cons (t := 6) rfl (.cons (t := 7) rfl (.cons (t := 8) rfl (.cons (t := 9) rfl (.cons (t := 10) rfl (.cons (t := 26) rfl (.cons (t := 27) rfl (.cons (t := 28) rfl (.cons (t := 33) rfl (.cons (t := 34) rfl (.cons (t := 35) rfl (.nil)))))))))))))) ?_
     refine sx_seq fun K28 k28 => sx_region ?_
     refine sm rfl rfl rfl rfl ?_
     refine sm rfl rfl rfl rfl ?_
     refine sm rfl rfl rfl rfl ?_
     refine sx_pure rfl rfl rfl (px_add rfl rfl (by omega)) ?_
     refine sx_pure rfl rfl rfl (px_index1 (j := (k + j)) rfl rfl (by omega) Tryd.underlying22 Tryd.sizeOf3 hs_s7.sv (by first | omega | (simp only [List.length_set]; omega))) ?_
     refine sx_pure rfl rfl rfl (px_load rfl (hs_s7.sv.load1 (at_int (by omega)) Tryd.isAgg3)) ?_
     refine sm rfl rfl rfl rfl ?_
     refine sm rfl rfl rfl rfl ?_
     refine sx_pure rfl rfl rfl (px_mul rfl rfl (by omega)) ?_
     refine sx_pure rfl rfl rfl (px_add rfl rfl (by omega)) ?_
     refine sm rfl rfl rfl rfl ?_
     refine sx_pure rfl rfl rfl (px_add rfl rfl (by omega)) ?_
     refine sa rfl rfl rfl rfl ?_
     refine wl_nil (q_n (k28 _ _ ?_))
     refine sx_sub (Sub.cons (t := 1) rfl (.cons (t := 5) rfl (.cons (t := 6) rfl (.cons (t := 7) rfl (.cons (t := 8) rfl (.cons (t := 9) rfl (.cons (t := 11) rfl (.cons (t := 26) rfl (.cons (t := 27) rfl (.cons (t := 28) rfl (.cons (t := 33) rfl (.cons (t := 34) rfl (.cons (t := 35) rfl (.nil)))))))))))))) ?_
     refine sx_seq fun K29 k29 => sx_region ?_
     refine sm rfl rfl rfl rfl ?_
     refine sm rfl rfl rfl rfl ?_
     refine sm rfl rfl rfl rfl ?_
     refine sx_pure rfl rfl rfl (px_add rfl rfl (by omega)) ?_
     refine sm rfl rfl rfl rfl ?_
     refine sx_pure rfl rfl rfl (px_rem rfl rfl (by omega) (by omega)) ?_
     refine sx_pure rfl rfl rfl (px_index1 (j := (k + j)) rfl rfl (by omega) Tryd.underlying22 Tryd.sizeOf3 hs_s7.sv (by first | omega | (simp only [List.length_set]; omega))) ?_
     refine sx_storeO rfl rfl hs_s7 (by first | omega | (simp only [List.length_map]; omega)) Tryd.sizeOf3 rfl (fun w30 sw30 fw30 cw30 => ?_)
     have zw30 := cw30.size
     have nw30 := fw30.set
     refine wl_nil (q_n (k29 _ _ ?_))
     refine sx_sub (Sub.cons (t := 1) rfl (.cons (t := 5) rfl (.cons (t := 6) rfl (.cons (t := 7) rfl (.cons (t := 8) rfl (.cons (t := 11) rfl (.cons (t := 26) rfl (.cons (t := 27) rfl (.cons (t := 28) rfl (.cons (t := 33) rfl (.cons (t := 34) rfl (.cons (t := 35) rfl (.nil))))))))))))) ?_
     refine sx_region ?_
     refine sm rfl rfl rfl rfl ?_
     refine sx_pure rfl rfl rfl (px_quo rfl rfl (by omega) (by omega) (by omega)) ?_
     refine sa rfl rfl rfl rfl ?_
     refine wl_nil ?_
     refine q_bn (q_n (k25 _ _ ?_))
     refine sx_region ?_
     refine sx_pure rfl rfl rfl (px_add rfl rfl (by omega)) ?_
     refine sm rfl rfl rfl rfl ?_
     refine wl_nil ?_
     have q31 := Chg.step (l := w.heap.size) (h := ws7.heap.size) cwl22 cw30 (by omega)
     have hs : ((((o2).getD (k + j) 0) + (((dg m).getD k 0) * ((dg n).getD j 0))) + c) = c + (o2.getD (k + j) 0 + (dg m).getD k 0 * (dg n).getD j 0) := by omega
     have hm2 := mul_step (V := vl os) hc.1 am.1 on.1 bn.1 (by omega) (by omega) hs hv2
     exact fun a ha => ⟨_, by omega, (j + 1), ((o2).set (k + j) (((((o2).getD (k + j) 0) + (((dg m).getD k 0) * ((dg n).getD j 0))) + c) % 1000000000)), (((((o2).getD (k + j) 0) + (((dg m).getD k 0) * ((dg n).getD j 0))) + c) / 1000000000), ha.sub (Sub.cons (t := 1) rfl (.cons (t := 5) rfl (.cons (t := 6) rfl (.cons (t := 7) rfl (.cons (t := 8) (look_int (t := 8) rfl (by first | omega | simp)) (.cons (t := 26) rfl (.cons (t := 27) rfl (.cons (t := 28) rfl (.cons (t := 33) rfl (.cons (t := 34) rfl (.cons (t := 35) (look_int (t := 35) rfl (by first | omega | simp)) (.nil)))))))))))), q31, (nw30.mono (by omega) (by omega)), rfl, by omega, by simpa using hos2, hlm2.set _ (by omega) (by omega), zero_set' hz2 (by omega), by omega, hm2⟩
    ·
     refine sx_exit ?_
     refine q_e (q_e (q_bx (q_n (k18 _ _ ?_))))
     have ej : j = (dg n).length := by omega
     rw [ej, List.take_length, vl_dg] at hv2
     refine sx_region ?_
     refine sm rfl rfl rfl rfl ?_
     refine sm rfl rfl rfl rfl ?_
     refine sm rfl rfl rfl rfl ?_
     have f32 := f21.chg cwl22 (by omega)
     refine sx_pure rfl rfl rfl (px_len rfl Tryd.underlying22 f32) ?_
     refine sx_pure rfl rfl rfl (px_add rfl rfl (by omega)) ?_
     refine sm rfl rfl rfl rfl ?_
     refine sx_pure rfl rfl rfl (px_index1 (j := (k + (dg n).length)) rfl rfl (by omega) Tryd.underlying22 Tryd.sizeOf3 hs_s7.sv (by first | omega | (simp only [List.length_set]; omega))) ?_
     refine sx_storeO rfl rfl hs_s7 (by first | omega | (simp only [List.length_map]; omega)) Tryd.sizeOf3 rfl (fun w33 sw33 fw33 cw33 => ?_)
     have zw33 := cw33.size
     have nw33 := fw33.set
     refine wl_nil ?_
     refine q_bn (q_n (k14 _ _ ?_))
     refine sx_sub (Sub.cons (t := 1) rfl (.cons (t := 5) rfl (.cons (t := 26) rfl (.cons (t := 27) rfl (.cons (t := 28) rfl (.nil)))))) ?_
     have oz := hz2 (k + (dg n).length) (Nat.le_refl _)
     have hosR : (o2.set (k + (dg n).length) c).length = (dg m).length + (dg n).length := by simpa using hos2
     have hlmR := hlm2.set (k + (dg n).length) hc.1 hc.2
     have hzR : ∀ i, k + (dg n).length + 1 ≤ i → (o2.set (k + (dg n).length) c).getD i 0 = 0 := zero_set hz2 (by omega)
     have hvR : vl (o2.set (k + (dg n).length) c) = vl os + Bs ^ k * (((dg m).getD k 0).toNat * n) := (carry_step (by omega) oz).trans hv2
     refine sx_region ?_
     refine sx_pure rfl rfl rfl (px_add rfl rfl (by omega)) ?_
     refine sm rfl rfl rfl rfl ?_
     refine wl_nil ?_
     have q34 := Chg.step (l := w.heap.size) (h := ws7.heap.size) cwl11 cwl22 (by omega)
     have q35 := Chg.step (l := w.heap.size) (h := ws7.heap.size) q34 cw33 (by omega)
     have hrow := mul_row (P := Bs ^ k) (a := ((dg m).getD k 0).toNat) hv
     rw [← vl_take_succ'] at hrow
     exact fun a ha => ⟨_, by omega, (k + 1), ((o2).set (k + (dg n).length) c), ha.sub (Sub.cons (t := 1) rfl (.cons (t := 5) rfl (.cons (t := 26) rfl (.cons (t := 27) rfl (.cons (t := 28) (look_int (t := 28) rfl (by first | omega | simp)) (.nil)))))), q35, (nw33.mono (by omega) (by omega)), rfl, by omega, by simpa using hosR, hlmR, fun i hi => hzR i (by omega), hvR.trans hrow⟩
   ·
    refine sx_exit ?_
    refine q_e (q_e (q_bx (q_n (k8 _ _ ?_))))
    refine sx_seq fun K36 k36 => ?_
    have ek : k = (dg m).length := by omega
    rw [ek, List.take_length, vl_dg] at hv
    have hzz := hlm
    refine sx_region ?_
    refine sm rfl rfl rfl rfl ?_
    refine sx_call rfl rfl Tryd.call125 (c_l02Trim hs_s7 (by assumption) (by first | omega | (simp only [List.length_append, List.length_set, List.length_replicate, List.length_cons, List.length_nil] at *; omega))) (fun v37 w37 p37 => ?_)
    obtain ⟨s37, rfl, os_37, c37⟩ := p37
    have zw37 := c37.size
    refine sa rfl rfl rfl rfl ?_
    refine wl_nil (q_n (k36 _ _ ?_))
    refine sx_retc ?_
    refine sx_ret1 Tryd.results116 rfl ?_
    have hr := Own.sv os_37
    rw [hv] at hr
    have q38 := Chg.step (l := 0) (h := 0) (Chg.zero (l := 0) (h := 0) cs7) cwl11 (by omega)
    have q39 := Chg.step (l := 0) (h := 0) q38 c37 (by omega)
    exact ⟨_, rfl, hr.mono (by omega) (by omega), q39⟩

theorem c_IntMul {w : World} {va : Value} {lva uva : Nat} {x : Int} {vb : Value} {lvb uvb : Nat} {y : Int} (hva : Sl w lva uva va (dg x.natAbs)) (hvb : Sl w lvb uvb vb (dg y.natAbs)) (hbx : (dg x.natAbs).length ≤ 50) (hby : (dg y.natAbs).length ≤ 50) :
  Ret Tryd.prog 90 [.agg #[.bool (ng x), va], .agg #[.bool (ng y), vb]] w fun v w' => ∃ s, v = .agg #[.bool (ng (cap (x * y))), s] ∧ OwnI w' w.heap.size w'.heap.size s intT (dg (cap (x * y)).natAbs) ∧ Chg 0 0 w w' := by
 have hva0 := hva.fit
 have hvb0 := hvb.fit
 have l1 := len_mul x.natAbs y.natAbs
 refine sx_enter Tryd.func90 rfl Tryd.ntmps90 (Nat.le_of_ble_eq_true rfl) ?_
 refine sx_seq fun K1 k1 => sx_region ?_
 refine sx_box [.bool (ng x), va] rfl rfl rfl (fun b2 w3 eb2 sb2 fb2 cb2 => ?_)
 have zw3 := cb2.size
 refine sx_box [.bool (ng y), vb] rfl rfl rfl (fun b4 w5 eb4 sb4 fb4 cb4 => ?_)
 have zw5 := cb4.size
 refine sx_alloc [.bool false, (.slice none 0 0)] rfl Tryd.zeroValue29 rfl (fun b6 w7 eb6 sb6 fb6 cb6 => ?_)
 have zw7 := cb6.size
 refine wl_nil (q_n (k1 _ _ ?_))
 refine sx_seq fun K8 k8 => ?_
 refine sx_seq fun K9 k9 => sx_region ?_
 have f10 := fb2.ext cb4
 have f11 := f10.ext cb6
 refine sx_pure rfl rfl rfl (px_load rfl (f11.loadA (vs := [.bool (ng x), va]) (look_lit rfl) Tryd.isAgg29 Tryd.sizeOf29)) ?_
 have f12 := hva0.ext cb2
 have f13 := f12.ext cb4
 have f14 := f13.ext cb6
 refine sx_call rfl rfl Tryd.call59 (c_sIntOk f14 (by omega)) (fun v15 w15 p15 => ?_)
 obtain ⟨rfl, c15⟩ := p15
 have zw15 := c15.size
 refine sx_pure rfl rfl rfl (px_notP rfl) ?_
 refine sm rfl rfl rfl rfl ?_
 have h80 : ¬ (¬ (IOk (ng x) (dg x.natAbs))) := by first | exact fun h => h (IOk_ng (by omega)) | exact fun h => h (IOk_ng (by assumption))
 refine sx_tmpPF (t := 8) rfl h80 ?_
 refine sx_guardT rfl rfl rfl ?_
 have f16 := fb4.ext cb6
 have f17 := f16.ext c15
 refine sx_pure rfl rfl rfl (px_load rfl (f17.loadA (vs := [.bool (ng y), vb]) (look_lit rfl) Tryd.isAgg29 Tryd.sizeOf29)) ?_
 refine sx_guardT rfl rfl rfl ?_
 have f18 := hvb0.ext cb2
 have f19 := f18.ext cb4
 have f20 := f19.ext cb6
 have f21 := f20.ext c15
 refine sx_call rfl rfl Tryd.call59 (c_sIntOk f21 (by omega)) (fun v22 w22 p22 => ?_)
 obtain ⟨rfl, c22⟩ := p22
 have zw22 := c22.size
 refine sx_guardT rfl rfl rfl ?_
 refine sx_pure rfl rfl rfl (px_notP rfl) ?_
 refine sx_pure rfl rfl rfl (px_pick rfl rfl) ?_
 refine wl_nil (q_n (k9 _ _ ?_))
 have h80x1 : ¬ (¬ (IOk (ng y) (dg y.natAbs))) := by first | exact fun h => h (IOk_ng (by omega)) | exact fun h => h (IOk_ng (by assumption))
 refine sx_condPF rfl h80x1 ?_
 refine sx_skip ?_
 refine q_n (k8 _ _ ?_)
 refine sx_seq fun K23 k23 => ?_
 have f24 := f11.ext c15
 have f25 := f24.ext c22
 have f26 := f17.ext c22
 have f27 := f14.ext c15
 have f28 := f27.ext c22
 have f29 := f21.ext c22
 refine dx_region (fun w' => Chg b6 (b6 + 1) w22 w') (by kernel_rfl) (Chg.zero (Chg.drew _)) ?_
 have d30 := Chg.drew w22
 have s30 : Chg b6 (b6 + 1) w22 (World.drew w22) := Chg.zero (Chg.drew _)
 have y30 : (World.drew w22).heap.size = w22.heap.size := rfl
 generalize World.drew w22 = w30 at *
 have zw30 := d30.size
 refine dx_take 0 rfl rfl rfl rfl (by kernel_rfl) (by kernel_rfl) (by kernel_rfl) s30 (fun _ hS => px_field rfl xfld29x0) ?_
 refine dx_take 1 rfl rfl rfl rfl (by kernel_rfl) (by kernel_rfl) (by kernel_rfl) s30 (fun _ hS => px_load rfl ((f25.chg hS (by omega)).load1 rfl Tryd.isAgg4)) ?_
 refine dx_take 2 rfl rfl rfl rfl (by kernel_rfl) (by kernel_rfl) (by kernel_rfl) s30 (fun _ hS => px_field rfl xfld29x0) ?_
 refine dx_take 3 rfl rfl rfl rfl (by kernel_rfl) (by kernel_rfl) (by kernel_rfl) s30 (fun _ hS => px_load rfl ((f26.chg hS (by omega)).load1 rfl Tryd.isAgg4)) ?_
 refine dx_take 4 rfl rfl rfl rfl (by kernel_rfl) (by kernel_rfl) (by kernel_rfl) s30 (fun _ hS => px_neB Tryd.underlying4 rfl rfl) ?_
 refine dx_take 5 rfl rfl rfl rfl (by kernel_rfl) (by kernel_rfl) (by kernel_rfl) s30 (fun _ hS => px_field rfl xfld29x1) ?_
 refine dx_take 6 rfl rfl rfl rfl (by kernel_rfl) (by kernel_rfl) (by kernel_rfl) s30 (fun _ hS => px_load rfl ((f25.chg hS (by omega)).load1 rfl Tryd.isAgg22)) ?_
 refine dx_take 7 rfl rfl rfl rfl (by kernel_rfl) (by kernel_rfl) (by kernel_rfl) s30 (fun _ hS => px_field rfl xfld29x1) ?_
 refine dx_take 8 rfl rfl rfl rfl (by kernel_rfl) (by kernel_rfl) (by kernel_rfl) s30 (fun _ hS => px_load rfl ((f26.chg hS (by omega)).load1 rfl Tryd.isAgg22)) ?_
 refine dx_eff 9 rfl (by kernel_rfl) ?_
 have f31 := f28.ext d30
 have f32 := f29.ext d30
 refine sx_call rfl rfl Tryd.call116 (c_l02Mul f31 f32 (by omega) (by omega)) (fun v33 w33 p33 => ?_)
 obtain ⟨s33, rfl, os_33, c33⟩ := p33
 have zw33 := c33.size
 have s34 : Chg b6 (b6 + 1) w22 w33 := (Chg.zero (l := b6) (h := (b6 + 1)) (d30.t c33))
 refine wl_nil ?_
 refine dx_next s34 ?_
 refine dx_eff 10 rfl (by kernel_rfl) ?_
 refine sx_call rfl rfl Tryd.call108 (c_l04Make os_33 (by omega)) (fun v35 w35 p35 => ?_)
 obtain ⟨s35, rfl, os_35, c35⟩ := p35
 have zw35 := c35.size
 have s36 : Chg b6 (b6 + 1) w22 w35 := (Chg.zero (l := b6) (h := (b6 + 1)) ((d30.t c33).t c35))
 refine wl_nil ?_
 refine dx_next s36 ?_
 refine dx_eff 11 rfl (by kernel_rfl) ?_
 have f38 := fb6.ext c15
 have f39 := f38.ext c22
 have f40 := f39.ext d30
 have f41 := f40.ext c33
 have f42 := f41.ext c35
 refine sx_store (vs := [.bool (ng (capI ((ng x) != (ng y)) (x.natAbs * y.natAbs))), s35]) rfl rfl f42 rfl Tryd.sizeOf29 (Nat.le_of_ble_eq_true rfl) (one_cons rfl (one_cons os_35.one one_nil)) (fun w37 sw37 fw37 cw37 => ?_)
 have zw37 := cw37.size
 have gw37 : Blk w37 b6 [.bool (ng (capI ((ng x) != (ng y)) (x.natAbs * y.natAbs))), s35] 29 := fw37
 have q44 := Chg.step (l := b6) (h := (b6 + 1)) (Chg.zero (l := b6) (h := (b6 + 1)) ((d30.t c33).t c35)) cw37 (by omega)
 have s43 : Chg b6 (b6 + 1) w22 w37 := q44
 refine wl_nil ?_
 refine dx_next s43 ?_
 refine dx_done (by kernel_rfl) ?_
 refine q_n (k23 _ _ ?_)
 refine sx_sub (Sub.cons (t := 4) rfl (.nil)) ?_
 refine sx_retc ?_
 refine sx_ret1 Tryd.results90 ⟨_, rfl, gw37.loadA (vs := [.bool (ng (capI ((ng x) != (ng y)) (x.natAbs * y.natAbs))), s35]) (look_lit rfl) Tryd.isAgg29 Tryd.sizeOf29⟩ ?_
 have hq := capI_of (mul_sg x y)
 rw [← hq]
 have q45 := Chg.step (l := 0) (h := 0) (Chg.zero (l := 0) (h := 0) (((((((cb2.t cb4).t cb6).t c15).t c22).t d30).t c33).t c35)) cw37 (by omega)
 have f46 := os_35.chg cw37 (by omega)
 exact ⟨_, rfl, (Own.mono f46 (by omega) (by omega)), q45⟩

theorem c_IntMulE {w : World} {va : Value} {lva uva : Nat} {x : Int} {vb : Value} {lvb uvb : Nat} {y : Int} (hva : Sl w lva uva va (dg x.natAbs)) (hvb : Sl w lvb uvb vb (dg y.natAbs)) (hxy : (dg x.natAbs).length + (dg y.natAbs).length ≤ 50) :
  Ret Tryd.prog 90 [.agg #[.bool (ng x), va], .agg #[.bool (ng y), vb]] w fun v w' => ∃ s, v = .agg #[.bool (ng (x * y)), s] ∧ OwnI w' w.heap.size w'.heap.size s intT (dg (x * y).natAbs) ∧ Chg 0 0 w w' := by
 have h := c_IntMul hva hvb (by omega) (by omega); rwa [cap_ok (Nat.le_trans (len_mulI x y) hxy)] at h

theorem c_sMoneyTimes {w : World} {c1 : ByteArray} {n1 : Bool} {v1 : Value} {lv1 uv1 : Nat} {z1 : List Int} {k : Int} (hv1 : Sl w lv1 uv1 v1 (z1)) (h63 : z1.length ≤ 4611686018427387904) (bik : -9223372036854775808 ≤ k ∧ k ≤ 9223372036854775807) :
  Ret Tryd.prog 38 [.agg #[.string c1, .bool n1, v1], .int .i64 k] w fun v w' => ∃ s, v = .tuple #[.agg #[.string ((mUn (uTimes k) c1 n1 z1).1), .bool ((mUn (uTimes k) c1 n1 z1).2.1), s], .bool ((mUn (uTimes k) c1 n1 z1).2.2.2)] ∧ OwnI w' w.heap.size w'.heap.size s intT ((mUn (uTimes k) c1 n1 z1).2.2.1) ∧ ((mUn (uTimes k) c1 n1 z1).2.2.1.length ≤ 4) ∧ Chg 0 0 w w' := by
 have hv10 := hv1.fit
 have lk := len_i64 bik
 refine sx_enter Tryd.func38 rfl Tryd.ntmps38 (Nat.le_of_ble_eq_true rfl) ?_
 refine sx_seq fun K1 k1 => sx_region ?_
 refine sx_box [.string c1, .bool n1, v1] rfl rfl rfl (fun b2 w3 eb2 sb2 fb2 cb2 => ?_)
 have zw3 := cb2.size
 refine sx_alloc [.string (⟨#[]⟩), .bool false, (.slice none 0 0)] rfl Tryd.zeroValue31 rfl (fun b4 w5 eb4 sb4 fb4 cb4 => ?_)
 have zw5 := cb4.size
 refine sa rfl rfl rfl rfl ?_
 refine wl_nil (q_n (k1 _ _ ?_))
 refine sx_seq fun K6 k6 => ?_
 refine sx_seq fun K7 k7 => sx_region ?_
 have f8 := fb2.ext cb4
 refine sx_pure rfl rfl rfl (px_load rfl (f8.loadA (vs := [.string c1, .bool n1, v1]) (look_lit rfl) Tryd.isAgg31 Tryd.sizeOf31)) ?_
 have f9 := hv10.ext cb2
 have f10 := f9.ext cb4
 refine sx_call rfl rfl Tryd.call16 (c_sMoneyOk f10 (by omega)) (fun v11 w11 p11 => ?_)
 obtain ⟨rfl, c11⟩ := p11
 have zw11 := c11.size
 refine sx_pure rfl rfl rfl (px_notP rfl) ?_
 refine wl_nil (q_n (k7 _ _ ?_))
 refine sx_condP rfl (fun h74 => ?_) (fun h74 => ?_)
 ·
  refine sx_seq fun K12 k12 => sx_region ?_
  refine sx_pure rfl rfl rfl (px_build rfl (xbld31x  _)) ?_
  have f14 := fb4.ext c11
  refine sx_store (vs := [.string (⟨#[]⟩), .bool false, (.slice none 0 0)]) rfl rfl f14 rfl Tryd.sizeOf31 (Nat.le_of_ble_eq_true rfl) (one_cons rfl (one_cons rfl (one_cons rfl one_nil))) (fun w13 sw13 fw13 cw13 => ?_)
  have zw13 := cw13.size
  have gw13 : Blk w13 b4 [.string (⟨#[]⟩), .bool false, (.slice none 0 0)] 31 := fw13
  refine sa rfl rfl rfl rfl ?_
  refine wl_nil (q_n (k12 _ _ ?_))
  refine sx_retc ?_
  refine q_r (sx_ret2 Tryd.results38 ⟨_, rfl, gw13.loadA (vs := [.string (⟨#[]⟩), .bool false, (.slice none 0 0)]) (look_lit rfl) Tryd.isAgg31 Tryd.sizeOf31⟩ rfl ?_)
  rw [mUn_no (by assumption)]
  have q15 := Chg.step (l := 0) (h := 0) (Chg.zero (l := 0) (h := 0) ((cb2.t cb4).t c11)) cw13 (by omega)
  exact ⟨_, rfl, Own.nil _ _ _ _ _, by simp [noM], q15⟩
 ·
  have hA := Decidable.not_not.1 h74
  obtain ⟨x1, rfl, rfl, hx1⟩ := hA.int
  have lc : (dg (-x1).natAbs).length = (dg x1.natAbs).length := by rw [Int.natAbs_neg]
  have lm := len_mulI x1 k
  refine sx_skip ?_
  refine q_n (k6 _ _ ?_)
  refine sx_seq fun K16 k16 => ?_
  have f17 := f8.ext c11
  have f18 := f10.ext c11
  refine dx_region (fun w' => Chg b4 (b4 + 1) w11 w') (by kernel_rfl) (Chg.zero (Chg.drew _)) ?_
  have d19 := Chg.drew w11
  have s19 : Chg b4 (b4 + 1) w11 (World.drew w11) := Chg.zero (Chg.drew _)
  have y19 : (World.drew w11).heap.size = w11.heap.size := rfl
  generalize World.drew w11 = w19 at *
  have zw19 := d19.size
  refine dx_take 0 rfl rfl rfl rfl (by kernel_rfl) (by kernel_rfl) (by kernel_rfl) s19 (fun _ hS => px_field rfl xfld31x0) ?_
  refine dx_take 1 rfl rfl rfl rfl (by kernel_rfl) (by kernel_rfl) (by kernel_rfl) s19 (fun _ hS => px_load rfl ((f17.chg hS (by omega)).load1 rfl Tryd.isAgg9)) ?_
  refine dx_take 2 rfl rfl rfl rfl (by kernel_rfl) (by kernel_rfl) (by kernel_rfl) s19 (fun _ hS => px_field rfl xfld31x1) ?_
  refine dx_take 3 rfl rfl rfl rfl (by kernel_rfl) (by kernel_rfl) (by kernel_rfl) s19 (fun _ hS => px_load rfl ((f17.chg hS (by omega)).loadA (vs := [.bool (ng x1), v1]) (look_lit rfl) Tryd.isAgg29 Tryd.sizeOf29)) ?_
  refine dx_take 4 rfl rfl rfl rfl (by kernel_rfl) (by kernel_rfl) (by kernel_rfl) s19 (fun _ hS => px_move rfl) ?_
  refine dx_eff 5 rfl (by kernel_rfl) ?_
  refine sx_call rfl rfl Tryd.call74 (c_sIntOf (by omega)) (fun v20 w20 p20 => ?_)
  obtain ⟨s20, rfl, os_20, c20⟩ := p20
  have zw20 := c20.size
  have s21 : Chg b4 (b4 + 1) w11 w20 := (Chg.zero (l := b4) (h := (b4 + 1)) (d19.t c20))
  refine wl_nil ?_
  refine dx_next s21 ?_
  refine dx_eff 6 rfl (by kernel_rfl) ?_
  have f22 := f18.ext d19
  have f23 := f22.ext c20
  refine sx_call rfl rfl Tryd.call90 (c_IntMulE f23 os_20.sv (by omega)) (fun v24 w24 p24 => ?_)
  obtain ⟨s24, rfl, os_24, c24⟩ := p24
  have zw24 := c24.size
  have s25 : Chg b4 (b4 + 1) w11 w24 := (Chg.zero (l := b4) (h := (b4 + 1)) ((d19.t c20).t c24))
  refine wl_nil ?_
  refine dx_next s25 ?_
  refine dx_eff 7 rfl (by kernel_rfl) ?_
  refine sx_call rfl rfl Tryd.call73 (c_l09Make os_24 (by omega) (by omega)) (fun v26 w26 p26 => ?_)
  obtain ⟨s26, rfl, os_26, c26⟩ := p26
  have zw26 := c26.size
  have s27 : Chg b4 (b4 + 1) w11 w26 := (Chg.zero (l := b4) (h := (b4 + 1)) (((d19.t c20).t c24).t c26))
  refine wl_nil ?_
  refine dx_next s27 ?_
  refine dx_take 8 rfl rfl rfl rfl (by kernel_rfl) (by kernel_rfl) (by kernel_rfl) s27 (fun _ hS => px_extract (vs := [.agg #[.string ((mR c1 (x1 * (k))).1), .bool ((mR c1 (x1 * (k))).2.1), s26], .bool ((mR c1 (x1 * (k))).2.2.2)]) rfl rfl) ?_
  refine dx_take 9 rfl rfl rfl rfl (by kernel_rfl) (by kernel_rfl) (by kernel_rfl) s27 (fun _ hS => px_extract (vs := [.agg #[.string ((mR c1 (x1 * (k))).1), .bool ((mR c1 (x1 * (k))).2.1), s26], .bool ((mR c1 (x1 * (k))).2.2.2)]) rfl rfl) ?_
  refine dx_eff 10 rfl (by kernel_rfl) ?_
  have f29 := fb4.ext c11
  have f30 := f29.ext d19
  have f31 := f30.ext c20
  have f32 := f31.ext c24
  have f33 := f32.ext c26
  refine sx_store (vs := [.string ((mR c1 (x1 * (k))).1), .bool ((mR c1 (x1 * (k))).2.1), s26]) rfl rfl f33 rfl Tryd.sizeOf31 (Nat.le_of_ble_eq_true rfl) (one_cons rfl (one_cons rfl (one_cons os_26.one one_nil))) (fun w28 sw28 fw28 cw28 => ?_)
  have zw28 := cw28.size
  have gw28 : Blk w28 b4 [.string ((mR c1 (x1 * (k))).1), .bool ((mR c1 (x1 * (k))).2.1), s26] 31 := fw28
  have q35 := Chg.step (l := b4) (h := (b4 + 1)) (Chg.zero (l := b4) (h := (b4 + 1)) (((d19.t c20).t c24).t c26)) cw28 (by omega)
  have s34 : Chg b4 (b4 + 1) w11 w28 := q35
  refine wl_nil ?_
  refine dx_next s34 ?_
  refine dx_take 11 rfl rfl rfl rfl (by kernel_rfl) (by kernel_rfl) (by kernel_rfl) s34 (fun _ hS => px_assign rfl) ?_
  refine dx_done (by kernel_rfl) ?_
  refine q_n (k16 _ _ ?_)
  refine sx_sub (Sub.cons (t := 4) rfl (.cons (t := 5) rfl (.nil))) ?_
  refine sx_retc ?_
  refine sx_ret2 Tryd.results38 ⟨_, rfl, gw28.loadA (vs := [.string ((mR c1 (x1 * (k))).1), .bool ((mR c1 (x1 * (k))).2.1), s26]) (look_lit rfl) Tryd.isAgg31 Tryd.sizeOf31⟩ rfl ?_
  rw [mUn_ok hA]
  have q36 := Chg.step (l := 0) (h := 0) (Chg.zero (l := 0) (h := 0) ((((((cb2.t cb4).t c11).t d19).t c20).t c24).t c26)) cw28 (by omega)
  have f37 := os_26.chg cw28 (by omega)
  exact ⟨_, rfl, (Own.mono f37 (by omega) (by omega)), mR_len, q36⟩

theorem c_natMul {w : World} {va : Value} {lva uva : Nat} {m : Nat} {vb : Value} {lvb uvb : Nat} {n : Nat} (hva : Sl w lva uva va (dg m)) (hvb : Sl w lvb uvb vb (dg n)) (hbm : (dg m).length ≤ 1000) (hbn : (dg n).length ≤ 1000) :
  Ret Tryd.prog 117 [va, vb] w fun v w' => ∃ s, v = s ∧ OwnI w' w.heap.size w'.heap.size s intT (dg (m * n)) ∧ Chg 0 0 w w' := by
 have hva0 := hva.fit
 have hvb0 := hvb.fit
 refine sx_enter Tryd.func117 rfl Tryd.ntmps117 (Nat.le_of_ble_eq_true rfl) ?_
 refine sx_seq fun K1 k1 => sx_region ?_
 refine sa rfl rfl rfl rfl ?_
 refine wl_nil (q_n (k1 _ _ ?_))
 refine sx_seq fun K2 k2 => sx_region ?_
 refine sm rfl rfl rfl rfl ?_
 refine sx_pure rfl rfl rfl (px_len rfl Tryd.underlying22 hva0) ?_
 refine sm rfl rfl rfl rfl ?_
 refine sx_pure rfl rfl rfl (px_len rfl Tryd.underlying22 hvb0) ?_
 refine sx_pure rfl rfl rfl (px_add rfl rfl (by omega)) ?_
 refine sx_pure rfl rfl rfl (px_add rfl rfl (by omega)) ?_
 refine sx_make (c := (dg m).length + (dg n).length + 1) rfl xelt22 (look_int rfl (by omega)) (look_int rfl (by omega)) (by omega) (by unfold maxLen; omega) (fun s3 ws3 fs3 cs3 ls3 => ?_)
 have ns3 := fs3.made
 have zws3 := cs3.size
 refine sa rfl rfl rfl rfl ?_
 refine wl_nil (q_n (k2 _ _ ?_))
 refine sx_seq fun K4 k4 => ?_
 refine sx_seq fun K5 k5 => sx_region ?_
 refine sm rfl rfl rfl rfl ?_
 have f6 := hva0.ext cs3
 refine sx_pure rfl rfl rfl (px_len rfl Tryd.underlying22 f6) ?_
 refine sm rfl rfl rfl rfl ?_
 refine wl_nil (q_n (k5 _ _ ?_))
 refine sx_block ?_
 refine sx_loop (fun mm aa w' => ∃ (k : Nat) (os : List Int), Agr 79 [(1, vb), (5, s3), (19, va), (20, .int .i64 (↑(dg m).length)), (21, .int .i64 ↑k)] aa ∧ Chg w.heap.size ws3.heap.size ws3 w' ∧ Own w' w.heap.size ws3.heap.size s3 intT os.length 1 (os.map (Value.int .i64)) ∧ (mm = (dg m).length - k) ∧ (k ≤ (dg m).length) ∧ (os.length = (dg m).length + (dg n).length + 1) ∧ (Lm os) ∧ (∀ i, k + (dg n).length ≤ i → os.getD i 0 = 0) ∧ (vl os = vl ((dg m).take k) * n)) (_) (fun a ha => ⟨0, List.replicate ((dg m).length + (dg n).length + 1) 0, ha.sub (Sub.cons (t := 1) rfl (.cons (t := 5) rfl (.cons (t := 19) rfl (.cons (t := 20) (look_int (t := 20) rfl (by first | omega | simp)) (.cons (t := 21) (look_int (t := 21) rfl (by first | omega | simp)) (.nil)))))), Chg.refl _ _ _, (ns3.mono (by omega) (by omega)), rfl, by omega, by simp, Lm.replicate _, fun i _ => zero_rep _ i (Nat.zero_le _), by rw [vl_replicate, List.take_zero]; simp [vl]⟩) ?_
 rintro mm aa wl7 ⟨k, os, hAwl7, cwl7, hs_s3, hm, hk, hos, hlm, hz, hv⟩
 refine (show cw Tryd.prog 79 _ _ _ wl7 from ?_) aa hAwl7
 clear hAwl7
 have zwl7 := cwl7.size
 have am := (Lm_dg m).getD k
 refine sx_seq fun K8 k8 => sx_region ?_
 refine sx_pure rfl rfl rfl (px_lt rfl rfl) ?_
 refine wl_nil (q_n (k8 _ _ ?_))
 refine sx_seq fun K9 k9 => ?_
 refine sx_condP rfl (fun h140 => ?_) (fun h140 => ?_)
 ·
  refine sx_skip ?_
  refine q_n (k9 _ _ ?_)
  refine sx_seq fun K10 k10 => ?_
  refine sx_block ?_
  refine sx_seq fun K11 k11 => sx_region ?_
  refine sm rfl rfl rfl rfl ?_
  have f12 := f6.chg cwl7 (by omega)
  refine sx_pure rfl rfl rfl (px_index1 (j := k) rfl rfl (by omega) Tryd.underlying22 Tryd.sizeOf3 f12 (by first | omega | (simp only [List.length_set]; omega))) ?_
  refine sx_pure rfl rfl rfl (px_load rfl (f12.load1 (at_int (by omega)) Tryd.isAgg3)) ?_
  refine sa rfl rfl rfl rfl ?_
  refine sa rfl rfl rfl rfl ?_
  refine wl_nil (q_n (k11 _ _ ?_))
  refine sx_seq fun K13 k13 => sx_region ?_
  refine sa rfl rfl rfl rfl ?_
  refine wl_nil (q_n (k13 _ _ ?_))
  refine sx_seq fun K14 k14 => ?_
  refine sx_seq fun K15 k15 => sx_region ?_
  refine sm rfl rfl rfl rfl ?_
  have f16 := hvb0.ext cs3
  have f17 := f16.chg cwl7 (by omega)
  refine sx_pure rfl rfl rfl (px_len rfl Tryd.underlying22 f17) ?_
  refine sm rfl rfl rfl rfl ?_
  refine wl_nil (q_n (k15 _ _ ?_))
  refine sx_sub (Sub.cons (t := 1) rfl (.cons (t := 5) rfl (.cons (t := 6) rfl (.cons (t := 7) rfl (.cons (t := 8) rfl (.cons (t := 19) rfl (.cons (t := 20) rfl (.cons (t := 21) rfl (.cons (t := 26) rfl (.cons (t := 27) rfl (.cons (t := 28) rfl (.nil)))))))))))) ?_
  refine sx_block ?_
  refine sx_loop (fun mm aa w' => ∃ (j : Nat) (o2 : List Int) (c : Int), Agr 79 [(1, vb), (5, s3), (6, .int .i64 ↑k), (7, .int .i64 ((dg m).getD k 0)), (8, .int .i64 c), (19, va), (20, .int .i64 (↑(dg m).length)), (21, .int .i64 ↑k), (26, vb), (27, .int .i64 (↑(dg n).length)), (28, .int .i64 ↑j)] aa ∧ Chg w.heap.size ws3.heap.size wl7 w' ∧ Own w' w.heap.size ws3.heap.size s3 intT o2.length 1 (o2.map (Value.int .i64)) ∧ (mm = (dg n).length - j) ∧ (j ≤ (dg n).length) ∧ (o2.length = (dg m).length + (dg n).length + 1) ∧ (Lm o2) ∧ (∀ i, k + (dg n).length ≤ i → o2.getD i 0 = 0) ∧ (0 ≤ c ∧ c < 1000000000) ∧ (vl o2 + Bs ^ (k + j) * c.toNat = vl os + Bs ^ k * (((dg m).getD k 0).toNat * vl ((dg n).take j)))) (_) (fun a ha => ⟨0, os, 0, ha.sub (Sub.cons (t := 1) rfl (.cons (t := 5) rfl (.cons (t := 6) rfl (.cons (t := 7) rfl (.cons (t := 8) (look_int (t := 8) rfl (by first | omega | simp)) (.cons (t := 19) rfl (.cons (t := 20) rfl (.cons (t := 21) rfl (.cons (t := 26) rfl (.cons (t := 27) (look_int (t := 27) rfl (by first | omega | simp)) (.cons (t := 28) (look_int (t := 28) rfl (by first | omega | simp)) (.nil)))))))))))), Chg.refl _ _ _, hs_s3, rfl, by omega, hos, hlm, hz, by omega, by simp [vl]⟩) ?_
  rintro mm aa wl18 ⟨j, o2, c, hAwl18, cwl18, hs_s3, hm, hj, hos2, hlm2, hz2, hc, hv2⟩
  refine (show cw Tryd.prog 79 _ _ _ wl18 from ?_) aa hAwl18
  clear hAwl18
  have zwl18 := cwl18.size
  have bn := (Lm_dg n).getD j
  have on := hlm2.getD (k + j)
  have hxy := mul_limb am.1 am.2 bn.1 bn.2
  refine sx_seq fun K19 k19 => sx_region ?_
  refine sx_pure rfl rfl rfl (px_lt rfl rfl) ?_
  refine wl_nil (q_n (k19 _ _ ?_))
  refine sx_seq fun K20 k20 => ?_
  refine sx_condP rfl (fun h142 => ?_) (fun h142 => ?_)
  ·
   refine sx_skip ?_
   refine q_n (k20 _ _ ?_)
   refine sx_seq fun K21 k21 => ?_
   refine sx_block ?_
   refine sx_seq fun K22 k22 => sx_region ?_
   refine sm rfl rfl rfl rfl ?_
   have f23 := f17.chg cwl18 (by omega)
   refine sx_pure rfl rfl rfl (px_index1 (j := j) rfl rfl (by omega) Tryd.underlying22 Tryd.sizeOf3 f23 (by first | omega | (simp only [List.length_set]; omega))) ?_
   refine sx_pure rfl rfl rfl (px_load rfl (f23.load1 (at_int (by omega)) Tryd.isAgg3)) ?_
   refine sa rfl rfl rfl rfl ?_
   refine sa rfl rfl rfl rfl ?_
   refine wl_nil (q_n (k22 _ _ ?_))
   refine sx_sub (Sub.cons (t := 1) rfl (.cons (t := 5) rfl (.cons (t := 6) rfl (.cons (t := 7) rfl (.cons (t := 8) rfl (.cons (t := 9) rfl (.cons (t := 10) rfl (.cons (t := 19) rfl (.cons (t := 20) rfl (.cons (t := 21) rfl (.cons (t := 26) rfl (.cons (t := 27) rfl (.cons (t := 28) rfl (.nil)))))))))))))) ?_
   refine sx_seq fun K24 k24 => sx_region ?_
   refine sm rfl rfl rfl rfl ?_
   refine sm rfl rfl rfl rfl ?_
   refine sm rfl rfl rfl rfl ?_
   refine sm rfl rfl rfl rfl ?_
   refine sx_pure rfl rfl rfl (px_add rfl rfl (by omega)) ?_
   refine sx_pure rfl rfl rfl (px_index1 (j := (k + j)) rfl rfl (by omega) Tryd.underlying22 Tryd.sizeOf3 hs_s3.sv (by first | omega | (simp only [List.length_set]; omega))) ?_
   refine sx_pure rfl rfl rfl (px_load rfl (hs_s3.sv.load1 (at_int (by omega)) Tryd.isAgg3)) ?_
   refine sm rfl rfl rfl rfl ?_
   refine sm rfl rfl rfl rfl ?_
   refine sx_pure rfl rfl rfl (px_mul rfl rfl (by omega)) ?_
   refine sx_pure rfl rfl rfl (px_add rfl rfl (by omega)) ?_
   refine sx_pure rfl rfl rfl (px_add rfl rfl (by omega)) ?_
   refine sa rfl rfl rfl rfl ?_
   refine wl_nil (q_n (k24 _ _ ?_))
   refine sx_sub (Sub.cons (t := 1) rfl (.cons (t := 5) rfl (.cons (t := 6) rfl (.cons (t := 7) rfl (.cons (t := 8) rfl (.cons (t := 9) rfl (.cons (t := 19) rfl (.cons (t := 20) rfl (.cons (t := 21) rfl (.cons (t := 26) rfl (.cons (t := 27) rfl (.cons (t := 28) rfl (.nil))))))))))))) ?_
   refine sx_seq fun K25 k25 => sx_region ?_
   refine sm rfl rfl rfl rfl ?_
   refine sm rfl rfl rfl rfl ?_
   refine sm rfl rfl rfl rfl ?_
   refine sx_pure rfl rfl rfl (px_add rfl rfl (by omega)) ?_
   refine sm rfl rfl rfl rfl ?_
   refine sx_pure rfl rfl rfl (px_rem rfl rfl (by omega) (by omega)) ?_
   refine sx_pure rfl rfl rfl (px_index1 (j := (k + j)) rfl rfl (by omega) Tryd.underlying22 Tryd.sizeOf3 hs_s3.sv (by first | omega | (simp only [List.length_set]; omega))) ?_
   refine sx_storeO rfl rfl hs_s3 (by first | omega | (simp only [List.length_map]; omega)) Tryd.sizeOf3 rfl (fun w26 sw26 fw26 cw26 => ?_)
   have zw26 := cw26.size
   have nw26 := fw26.set
   refine wl_nil (q_n (k25 _ _ ?_))
   refine sx_sub (Sub.cons (t := 1) rfl (.cons (t := 5) rfl (.cons (t := 6) rfl (.cons (t := 7) rfl (.cons (t := 8) rfl (.cons (t := 19) rfl (.cons (t := 20) rfl (.cons (t := 21) rfl (.cons (t := 26) rfl (.cons (t := 27) rfl (.cons (t := 28) rfl (.nil)))))))))))) ?_
   refine sx_region ?_
   refine sm rfl rfl rfl rfl ?_
   refine sx_pure rfl rfl rfl (px_quo rfl rfl (by omega) (by omega) (by omega)) ?_
   refine sa rfl rfl rfl rfl ?_
   refine wl_nil ?_
   refine q_bn (q_n (k21 _ _ ?_))
   refine sx_region ?_
   refine sx_pure rfl rfl rfl (px_add rfl rfl (by omega)) ?_
   refine sm rfl rfl rfl rfl ?_
   refine wl_nil ?_
   have q27 := Chg.step (l := w.heap.size) (h := ws3.heap.size) cwl18 cw26 (by omega)
   have hs : (c + (((o2).getD (k + j) 0) + (((dg m).getD k 0) * ((dg n).getD j 0)))) = c + (o2.getD (k + j) 0 + (dg m).getD k 0 * (dg n).getD j 0) := by omega
   have hm2 := mul_step (V := vl os) hc.1 am.1 on.1 bn.1 (by omega) (by omega) hs hv2
   exact fun a ha => ⟨_, by omega, (j + 1), ((o2).set (k + j) ((c + (((o2).getD (k + j) 0) + (((dg m).getD k 0) * ((dg n).getD j 0)))) % 1000000000)), ((c + (((o2).getD (k + j) 0) + (((dg m).getD k 0) * ((dg n).getD j 0)))) / 1000000000), ha.sub (Sub.cons (t := 1) rfl (.cons (t := 5) rfl (.cons (t := 6) rfl (.cons (t := 7) rfl (.cons (t := 8) (look_int (t := 8) rfl (by first | omega | simp)) (.cons (t := 19) rfl (.cons (t := 20) rfl (.cons (t := 21) rfl (.cons (t := 26) rfl (.cons (t := 27) rfl (.cons (t := 28) (look_int (t := 28) rfl (by first | omega | simp)) (.nil)))))))))))), q27, (nw26.mono (by omega) (by omega)), rfl, by omega, by simpa using hos2, hlm2.set _ (by omega) (by omega), zero_set' hz2 (by omega), by omega, hm2⟩
  ·
   refine sx_exit ?_
   refine q_e (q_e (q_bx (q_n (k14 _ _ ?_))))
   refine sx_seq fun K28 k28 => sx_region ?_
   refine sm rfl rfl rfl rfl ?_
   refine sm rfl rfl rfl rfl ?_
   have f29 := f17.chg cwl18 (by omega)
   refine sx_pure rfl rfl rfl (px_len rfl Tryd.underlying22 f29) ?_
   refine sx_pure rfl rfl rfl (px_add rfl rfl (by omega)) ?_
   refine sa rfl rfl rfl rfl ?_
   refine wl_nil (q_n (k28 _ _ ?_))
   refine sx_sub (Sub.cons (t := 1) rfl (.cons (t := 5) rfl (.cons (t := 8) rfl (.cons (t := 11) rfl (.cons (t := 19) rfl (.cons (t := 20) rfl (.cons (t := 21) rfl (.nil)))))))) ?_
   refine sx_block ?_
   have ej : j = (dg n).length := by omega
   rw [ej, List.take_length, vl_dg] at hv2
   refine sx_loop (fun mm aa w' => ∃ (q : Nat) (o3 : List Int) (e : Int), Agr 79 [(1, vb), (5, s3), (8, .int .i64 e), (11, .int .i64 ↑q), (19, va), (20, .int .i64 (↑(dg m).length)), (21, .int .i64 ↑k)] aa ∧ Chg w.heap.size ws3.heap.size wl18 w' ∧ Own w' w.heap.size ws3.heap.size s3 intT o3.length 1 (o3.map (Value.int .i64)) ∧ (mm = k + (dg n).length + 1 - q) ∧ (o3.length = (dg m).length + (dg n).length + 1) ∧ (Lm o3) ∧ (∀ i, q ≤ i → o3.getD i 0 = 0) ∧ (0 ≤ e ∧ e < 1000000000) ∧ (q = k + (dg n).length ∨ (q = k + (dg n).length + 1 ∧ e = 0)) ∧ (vl o3 + Bs ^ q * e.toNat = vl os + Bs ^ k * (((dg m).getD k 0).toNat * n))) (_) (fun a ha => ⟨(k + (dg n).length), o2, c, ha.sub (Sub.cons (t := 1) rfl (.cons (t := 5) rfl (.cons (t := 8) (look_int (t := 8) rfl (by first | omega | simp)) (.cons (t := 11) (look_int (t := 11) rfl (by first | omega | simp)) (.cons (t := 19) rfl (.cons (t := 20) rfl (.cons (t := 21) rfl (.nil)))))))), Chg.refl _ _ _, hs_s3, rfl, hos2, hlm2, hz2, by omega, .inl rfl, hv2⟩) ?_
   rintro mm aa wl30 ⟨q, o3, e, hAwl30, cwl30, hs_s3, hm, hos3, hlm3, hz3, he, hq, hv3⟩
   refine (show cw Tryd.prog 79 _ _ _ wl30 from ?_) aa hAwl30
   clear hAwl30
   have zwl30 := cwl30.size
   have on := hlm3.getD q
   have oz := hz3 q (Nat.le_refl _)
   refine sx_seq fun K31 k31 => ?_
   refine sx_seq fun K32 k32 => sx_region ?_
   refine sm rfl rfl rfl rfl ?_
   refine sx_pure rfl rfl rfl (px_gt rfl rfl) ?_
   refine wl_nil (q_n (k32 _ _ ?_))
   refine sx_condP rfl (fun h147 => ?_) (fun h147 => ?_)
   ·
    refine sx_skip ?_
    refine q_n (k31 _ _ ?_)
    refine sx_seq fun K33 k33 => ?_
    refine sx_block ?_
    refine sx_seq fun K34 k34 => sx_region ?_
    refine sm rfl rfl rfl rfl ?_
    refine sm rfl rfl rfl rfl ?_
    refine sm rfl rfl rfl rfl ?_
    refine sx_pure rfl rfl rfl (px_index1 (j := q) rfl rfl (by omega) Tryd.underlying22 Tryd.sizeOf3 hs_s3.sv (by first | omega | (simp only [List.length_set]; omega))) ?_
    refine sx_pure rfl rfl rfl (px_load rfl (hs_s3.sv.load1 (at_int (by omega)) Tryd.isAgg3)) ?_
    refine sx_pure rfl rfl rfl (px_add rfl rfl (by omega)) ?_
    refine sa rfl rfl rfl rfl ?_
    refine wl_nil (q_n (k34 _ _ ?_))
    refine sx_sub (Sub.cons (t := 1) rfl (.cons (t := 5) rfl (.cons (t := 8) rfl (.cons (t := 11) rfl (.cons (t := 19) rfl (.cons (t := 20) rfl (.cons (t := 21) rfl (.nil)))))))) ?_
    refine sx_seq fun K35 k35 => sx_region ?_
    refine sm rfl rfl rfl rfl ?_
    refine sm rfl rfl rfl rfl ?_
    refine sm rfl rfl rfl rfl ?_
    refine sx_pure rfl rfl rfl (px_rem rfl rfl (by omega) (by omega)) ?_
    refine sx_pure rfl rfl rfl (px_index1 (j := q) rfl rfl (by omega) Tryd.underlying22 Tryd.sizeOf3 hs_s3.sv (by first | omega | (simp only [List.length_set]; omega))) ?_
    refine sx_storeO rfl rfl hs_s3 (by first | omega | (simp only [List.length_map]; omega)) Tryd.sizeOf3 rfl (fun w36 sw36 fw36 cw36 => ?_)
    have zw36 := cw36.size
    have nw36 := fw36.set
    refine wl_nil (q_n (k35 _ _ ?_))
    refine sx_region ?_
    refine sm rfl rfl rfl rfl ?_
    refine sx_pure rfl rfl rfl (px_quo rfl rfl (by omega) (by omega) (by omega)) ?_
    refine sa rfl rfl rfl rfl ?_
    refine wl_nil ?_
    refine q_bn (q_n (k33 _ _ ?_))
    refine sx_region ?_
    refine sm rfl rfl rfl rfl ?_
    refine sx_pure rfl rfl rfl (px_add rfl rfl (by omega)) ?_
    refine sa rfl rfl rfl rfl ?_
    refine wl_nil ?_
    have q37 := Chg.step (l := w.heap.size) (h := ws3.heap.size) cwl30 cw36 (by omega)
    have hs : (e + ((o3).getD q 0)) = e + o3.getD q 0 := by omega
    have hm3 := carry_gen (by omega) he.1 on.1 hs hv3
    exact fun a ha => ⟨_, by omega, (q + 1), ((o3).set q ((e + ((o3).getD q 0)) % 1000000000)), ((e + ((o3).getD q 0)) / 1000000000), ha.sub (Sub.cons (t := 1) rfl (.cons (t := 5) rfl (.cons (t := 8) (look_int (t := 8) rfl (by first | omega | simp)) (.cons (t := 11) (look_int (t := 11) rfl (by first | omega | simp)) (.cons (t := 19) rfl (.cons (t := 20) rfl (.cons (t := 21) rfl (.nil)))))))), q37, (nw36.mono (by omega) (by omega)), rfl, by simpa using hos3, hlm3.set _ (by omega) (by omega), zero_set hz3 (by omega), by omega, .inr (by omega), hm3⟩
   ·
    refine sx_exit ?_
    refine q_e (q_e (q_bx (q_bn (q_n (k10 _ _ ?_)))))
    have e0 : e = 0 := by omega
    subst e0
    have hosR := hos3
    have hlmR := hlm3
    have hzR : ∀ i, k + (dg n).length + 1 ≤ i → o3.getD i 0 = 0 := fun i hi => hz3 i (by omega)
    have hvR : vl o3 = vl os + Bs ^ k * (((dg m).getD k 0).toNat * n) := by simpa using hv3
    refine sx_region ?_
    refine sx_pure rfl rfl rfl (px_add rfl rfl (by omega)) ?_
    refine sm rfl rfl rfl rfl ?_
    refine wl_nil ?_
    have q38 := Chg.step (l := w.heap.size) (h := ws3.heap.size) cwl7 cwl18 (by omega)
    have q39 := Chg.step (l := w.heap.size) (h := ws3.heap.size) q38 cwl30 (by omega)
    have hrow := mul_row (P := Bs ^ k) (a := ((dg m).getD k 0).toNat) hv
    rw [← vl_take_succ'] at hrow
    exact fun a ha => ⟨_, by omega, (k + 1), o3, ha.sub (Sub.cons (t := 1) rfl (.cons (t := 5) rfl (.cons (t := 19) rfl (.cons (t := 20) rfl (.cons (t := 21) (look_int (t := 21) rfl (by first | omega | simp)) (.nil)))))), q39, (hs_s3.mono (by omega) (by omega)), rfl, by omega, by simpa using hosR, hlmR, fun i hi => hzR i (by omega), hvR.trans hrow⟩
 ·
  refine sx_exit ?_
  refine q_e (q_e (q_bx (q_n (k4 _ _ ?_))))
  refine sx_seq fun K40 k40 => ?_
  have ek : k = (dg m).length := by omega
  rw [ek, List.take_length, vl_dg] at hv
  have hzz := hlm
  refine sx_region ?_
  refine sm rfl rfl rfl rfl ?_
  refine sx_call rfl rfl Tryd.call126 (c_trim hs_s3 (by assumption) (by first | omega | (simp only [List.length_append, List.length_set, List.length_replicate, List.length_cons, List.length_nil] at *; omega))) (fun v41 w41 p41 => ?_)
  obtain ⟨s41, rfl, os_41, c41⟩ := p41
  have zw41 := c41.size
  refine sa rfl rfl rfl rfl ?_
  refine wl_nil (q_n (k40 _ _ ?_))
  refine sx_retc ?_
  refine sx_ret1 Tryd.results117 rfl ?_
  have hr := os_41
  rw [hv] at hr
  have q42 := Chg.step (l := 0) (h := 0) (Chg.zero (l := 0) (h := 0) cs3) cwl7 (by omega)
  have q43 := Chg.step (l := 0) (h := 0) q42 c41 (by omega)
  exact ⟨_, rfl, hr.mono (by omega) (by omega), q43⟩

theorem c_intMul {w : World} {va : Value} {lva uva : Nat} {x : Int} {vb : Value} {lvb uvb : Nat} {y : Int} (hva : Sl w lva uva va (dg x.natAbs)) (hvb : Sl w lvb uvb vb (dg y.natAbs)) (hbx : (dg x.natAbs).length ≤ 1000) (hby : (dg y.natAbs).length ≤ 1000) :
  Ret Tryd.prog 91 [.agg #[.bool (ng x), va], .agg #[.bool (ng y), vb]] w fun v w' => ∃ s, v = .agg #[.bool (ng (x * y)), s] ∧ OwnI w' w.heap.size w'.heap.size s intT (dg (x * y).natAbs) ∧ Chg 0 0 w w' := by
 have hva0 := hva.fit
 have hvb0 := hvb.fit
 have l1 := len_mul x.natAbs y.natAbs
 refine sx_enter Tryd.func91 rfl Tryd.ntmps91 (Nat.le_of_ble_eq_true rfl) ?_
 refine sx_seq fun K1 k1 => sx_region ?_
 refine sx_box [.bool (ng x), va] rfl rfl rfl (fun b2 w3 eb2 sb2 fb2 cb2 => ?_)
 have zw3 := cb2.size
 refine sx_box [.bool (ng y), vb] rfl rfl rfl (fun b4 w5 eb4 sb4 fb4 cb4 => ?_)
 have zw5 := cb4.size
 refine sx_alloc [.bool false, (.slice none 0 0)] rfl Tryd.zeroValue29 rfl (fun b6 w7 eb6 sb6 fb6 cb6 => ?_)
 have zw7 := cb6.size
 refine wl_nil (q_n (k1 _ _ ?_))
 refine sx_seq fun K8 k8 => ?_
 have f9 := fb2.ext cb4
 have f10 := f9.ext cb6
 have f11 := fb4.ext cb6
 have f12 := hva0.ext cb2
 have f13 := f12.ext cb4
 have f14 := f13.ext cb6
 have f15 := hvb0.ext cb2
 have f16 := f15.ext cb4
 have f17 := f16.ext cb6
 refine dx_region (fun w' => Chg b6 (b6 + 1) w7 w') (by kernel_rfl) (Chg.zero (Chg.drew _)) ?_
 have d18 := Chg.drew w7
 have s18 : Chg b6 (b6 + 1) w7 (World.drew w7) := Chg.zero (Chg.drew _)
 have y18 : (World.drew w7).heap.size = w7.heap.size := rfl
 generalize World.drew w7 = w18 at *
 have zw18 := d18.size
 refine dx_take 0 rfl rfl rfl rfl (by kernel_rfl) (by kernel_rfl) (by kernel_rfl) s18 (fun _ hS => px_field rfl xfld29x0) ?_
 refine dx_take 1 rfl rfl rfl rfl (by kernel_rfl) (by kernel_rfl) (by kernel_rfl) s18 (fun _ hS => px_load rfl ((f10.chg hS (by omega)).load1 rfl Tryd.isAgg4)) ?_
 refine dx_take 2 rfl rfl rfl rfl (by kernel_rfl) (by kernel_rfl) (by kernel_rfl) s18 (fun _ hS => px_field rfl xfld29x0) ?_
 refine dx_take 3 rfl rfl rfl rfl (by kernel_rfl) (by kernel_rfl) (by kernel_rfl) s18 (fun _ hS => px_load rfl ((f11.chg hS (by omega)).load1 rfl Tryd.isAgg4)) ?_
 refine dx_take 4 rfl rfl rfl rfl (by kernel_rfl) (by kernel_rfl) (by kernel_rfl) s18 (fun _ hS => px_neB Tryd.underlying4 rfl rfl) ?_
 refine dx_take 5 rfl rfl rfl rfl (by kernel_rfl) (by kernel_rfl) (by kernel_rfl) s18 (fun _ hS => px_field rfl xfld29x1) ?_
 refine dx_take 6 rfl rfl rfl rfl (by kernel_rfl) (by kernel_rfl) (by kernel_rfl) s18 (fun _ hS => px_load rfl ((f10.chg hS (by omega)).load1 rfl Tryd.isAgg22)) ?_
 refine dx_take 7 rfl rfl rfl rfl (by kernel_rfl) (by kernel_rfl) (by kernel_rfl) s18 (fun _ hS => px_field rfl xfld29x1) ?_
 refine dx_take 8 rfl rfl rfl rfl (by kernel_rfl) (by kernel_rfl) (by kernel_rfl) s18 (fun _ hS => px_load rfl ((f11.chg hS (by omega)).load1 rfl Tryd.isAgg22)) ?_
 refine dx_eff 9 rfl (by kernel_rfl) ?_
 have f19 := f14.ext d18
 have f20 := f17.ext d18
 refine sx_call rfl rfl Tryd.call117 (c_natMul f19 f20 (by omega) (by omega)) (fun v21 w21 p21 => ?_)
 obtain ⟨s21, rfl, os_21, c21⟩ := p21
 have zw21 := c21.size
 have s22 : Chg b6 (b6 + 1) w7 w21 := (Chg.zero (l := b6) (h := (b6 + 1)) (d18.t c21))
 refine wl_nil ?_
 refine dx_next s22 ?_
 refine dx_eff 10 rfl (by kernel_rfl) ?_
 refine sx_call rfl rfl Tryd.call113 (c_signed os_21.sv (by omega)) (fun v23 w23 p23 => ?_)
 obtain ⟨rfl, c23⟩ := p23
 have zw23 := c23.size
 have s24 : Chg b6 (b6 + 1) w7 w23 := (Chg.zero (l := b6) (h := (b6 + 1)) ((d18.t c21).t c23))
 refine wl_nil ?_
 refine dx_next s24 ?_
 refine dx_eff 11 rfl (by kernel_rfl) ?_
 have f26 := fb6.ext d18
 have f27 := f26.ext c21
 have f28 := f27.ext c23
 have f29 := os_21.ext c23
 refine sx_store (vs := [.bool (nz ((ng x) != (ng y)) (dg (x.natAbs * y.natAbs))), v21]) rfl rfl f28 rfl Tryd.sizeOf29 (Nat.le_of_ble_eq_true rfl) (one_cons rfl (one_cons f29.one one_nil)) (fun w25 sw25 fw25 cw25 => ?_)
 have zw25 := cw25.size
 have gw25 : Blk w25 b6 [.bool (nz ((ng x) != (ng y)) (dg (x.natAbs * y.natAbs))), v21] 29 := fw25
 have q31 := Chg.step (l := b6) (h := (b6 + 1)) (Chg.zero (l := b6) (h := (b6 + 1)) ((d18.t c21).t c23)) cw25 (by omega)
 have s30 : Chg b6 (b6 + 1) w7 w25 := q31
 refine wl_nil ?_
 refine dx_next s30 ?_
 refine dx_done (by kernel_rfl) ?_
 refine q_n (k8 _ _ ?_)
 refine sx_sub (Sub.cons (t := 4) rfl (.nil)) ?_
 refine sx_retc ?_
 refine sx_ret1 Tryd.results91 ⟨_, rfl, gw25.loadA (vs := [.bool (nz ((ng x) != (ng y)) (dg (x.natAbs * y.natAbs))), v21]) (look_lit rfl) Tryd.isAgg29 Tryd.sizeOf29⟩ ?_
 have hh := mul_sg x y
 rw [← hh.1, ← hh.2]
 have q32 := Chg.step (l := 0) (h := 0) (Chg.zero (l := 0) (h := 0) (((((cb2.t cb4).t cb6).t d18).t c21).t c23)) cw25 (by omega)
 have f33 := f29.chg cw25 (by omega)
 exact ⟨_, rfl, (Own.mono f33 (by omega) (by omega)), q32⟩

theorem c_iMoneyTimes {w : World} {c1 : ByteArray} {n1 : Bool} {v1 : Value} {lv1 uv1 : Nat} {z1 : List Int} {k : Int} (hG0 : Glob w) (hv1 : Sl w lv1 uv1 v1 (z1)) (h63 : z1.length ≤ 4611686018427387904) (bik : -9223372036854775808 ≤ k ∧ k ≤ 9223372036854775807) :
  Ret Tryd.prog 39 [.agg #[.string c1, .bool n1, v1], .int .i64 k] w fun v w' => ∃ s, v = .tuple #[.agg #[.string ((mUn (uTimes k) c1 n1 z1).1), .bool ((mUn (uTimes k) c1 n1 z1).2.1), s], .bool ((mUn (uTimes k) c1 n1 z1).2.2.2)] ∧ OwnI w' w.heap.size w'.heap.size s intT ((mUn (uTimes k) c1 n1 z1).2.2.1) ∧ ((mUn (uTimes k) c1 n1 z1).2.2.1.length ≤ 4) ∧ Chg 0 0 w w' := by
 have hv10 := hv1.fit
 have lk := len_i64 bik
 refine sx_enter Tryd.func39 rfl Tryd.ntmps39 (Nat.le_of_ble_eq_true rfl) ?_
 refine sx_seq fun K1 k1 => sx_region ?_
 refine sx_box [.string c1, .bool n1, v1] rfl rfl rfl (fun b2 w3 eb2 sb2 fb2 cb2 => ?_)
 have zw3 := cb2.size
 refine sx_alloc [.string (⟨#[]⟩), .bool false, (.slice none 0 0)] rfl Tryd.zeroValue31 rfl (fun b4 w5 eb4 sb4 fb4 cb4 => ?_)
 have zw5 := cb4.size
 refine sa rfl rfl rfl rfl ?_
 refine wl_nil (q_n (k1 _ _ ?_))
 refine sx_seq fun K6 k6 => ?_
 refine sx_seq fun K7 k7 => sx_region ?_
 have f8 := fb2.ext cb4
 refine sx_pure rfl rfl rfl (px_load rfl (f8.loadA (vs := [.string c1, .bool n1, v1]) (look_lit rfl) Tryd.isAgg31 Tryd.sizeOf31)) ?_
 have f9 := hG0.ext cb2
 have f10 := f9.ext cb4
 have f11 := hv10.ext cb2
 have f12 := f11.ext cb4
 refine sx_call rfl rfl Tryd.call18 (c_iMoneyOk f10 f12 (by omega)) (fun v13 w13 p13 => ?_)
 obtain ⟨rfl, c13⟩ := p13
 have zw13 := c13.size
 refine sx_pure rfl rfl rfl (px_notP rfl) ?_
 refine wl_nil (q_n (k7 _ _ ?_))
 refine sx_condP rfl (fun h79 => ?_) (fun h79 => ?_)
 ·
  refine sx_seq fun K14 k14 => sx_region ?_
  refine sx_pure rfl rfl rfl (px_build rfl (xbld31x  _)) ?_
  have f16 := fb4.ext c13
  refine sx_store (vs := [.string (⟨#[]⟩), .bool false, (.slice none 0 0)]) rfl rfl f16 rfl Tryd.sizeOf31 (Nat.le_of_ble_eq_true rfl) (one_cons rfl (one_cons rfl (one_cons rfl one_nil))) (fun w15 sw15 fw15 cw15 => ?_)
  have zw15 := cw15.size
  have gw15 : Blk w15 b4 [.string (⟨#[]⟩), .bool false, (.slice none 0 0)] 31 := fw15
  refine sa rfl rfl rfl rfl ?_
  refine wl_nil (q_n (k14 _ _ ?_))
  refine sx_retc ?_
  refine q_r (sx_ret2 Tryd.results39 ⟨_, rfl, gw15.loadA (vs := [.string (⟨#[]⟩), .bool false, (.slice none 0 0)]) (look_lit rfl) Tryd.isAgg31 Tryd.sizeOf31⟩ rfl ?_)
  rw [mUn_no (by assumption)]
  have q17 := Chg.step (l := 0) (h := 0) (Chg.zero (l := 0) (h := 0) ((cb2.t cb4).t c13)) cw15 (by omega)
  exact ⟨_, rfl, Own.nil _ _ _ _ _, by simp [noM], q17⟩
 ·
  have hA := Decidable.not_not.1 h79
  obtain ⟨x1, rfl, rfl, hx1⟩ := hA.int
  have lc : (dg (-x1).natAbs).length = (dg x1.natAbs).length := by rw [Int.natAbs_neg]
  have lm := len_mulI x1 k
  refine sx_skip ?_
  refine q_n (k6 _ _ ?_)
  refine sx_seq fun K18 k18 => ?_
  have f19 := f10.ext c13
  have f20 := f8.ext c13
  have f21 := f12.ext c13
  refine dx_region (fun w' => Chg b4 (b4 + 1) w13 w') (by kernel_rfl) (Chg.zero (Chg.drew _)) ?_
  have d22 := Chg.drew w13
  have s22 : Chg b4 (b4 + 1) w13 (World.drew w13) := Chg.zero (Chg.drew _)
  have y22 : (World.drew w13).heap.size = w13.heap.size := rfl
  generalize World.drew w13 = w22 at *
  have zw22 := d22.size
  refine dx_take 0 rfl rfl rfl rfl (by kernel_rfl) (by kernel_rfl) (by kernel_rfl) s22 (fun _ hS => px_field rfl xfld31x0) ?_
  refine dx_take 1 rfl rfl rfl rfl (by kernel_rfl) (by kernel_rfl) (by kernel_rfl) s22 (fun _ hS => px_load rfl ((f20.chg hS (by omega)).load1 rfl Tryd.isAgg9)) ?_
  refine dx_take 2 rfl rfl rfl rfl (by kernel_rfl) (by kernel_rfl) (by kernel_rfl) s22 (fun _ hS => px_field rfl xfld31x1) ?_
  refine dx_take 3 rfl rfl rfl rfl (by kernel_rfl) (by kernel_rfl) (by kernel_rfl) s22 (fun _ hS => px_load rfl ((f20.chg hS (by omega)).loadA (vs := [.bool (ng x1), v1]) (look_lit rfl) Tryd.isAgg29 Tryd.sizeOf29)) ?_
  refine dx_take 4 rfl rfl rfl rfl (by kernel_rfl) (by kernel_rfl) (by kernel_rfl) s22 (fun _ hS => px_move rfl) ?_
  refine dx_eff 5 rfl (by kernel_rfl) ?_
  refine sx_call rfl rfl Tryd.call76 (c_iIntOf (by omega)) (fun v23 w23 p23 => ?_)
  obtain ⟨s23, rfl, os_23, c23⟩ := p23
  have zw23 := c23.size
  have s24 : Chg b4 (b4 + 1) w13 w23 := (Chg.zero (l := b4) (h := (b4 + 1)) (d22.t c23))
  refine wl_nil ?_
  refine dx_next s24 ?_
  refine dx_eff 6 rfl (by kernel_rfl) ?_
  have f25 := f21.ext d22
  have f26 := f25.ext c23
  refine sx_call rfl rfl Tryd.call91 (c_intMul f26 os_23.sv (by omega) (by omega)) (fun v27 w27 p27 => ?_)
  obtain ⟨s27, rfl, os_27, c27⟩ := p27
  have zw27 := c27.size
  have s28 : Chg b4 (b4 + 1) w13 w27 := (Chg.zero (l := b4) (h := (b4 + 1)) ((d22.t c23).t c27))
  refine wl_nil ?_
  refine dx_next s28 ?_
  refine dx_eff 7 rfl (by kernel_rfl) ?_
  have f29 := f19.ext d22
  have f30 := f29.ext c23
  have f31 := f30.ext c27
  refine sx_call rfl rfl Tryd.call75 (c_moneyOf f31 os_27 (by omega) (by omega)) (fun v32 w32 p32 => ?_)
  obtain ⟨s32, rfl, os_32, c32⟩ := p32
  have zw32 := c32.size
  have s33 : Chg b4 (b4 + 1) w13 w32 := (Chg.zero (l := b4) (h := (b4 + 1)) (((d22.t c23).t c27).t c32))
  refine wl_nil ?_
  refine dx_next s33 ?_
  refine dx_take 8 rfl rfl rfl rfl (by kernel_rfl) (by kernel_rfl) (by kernel_rfl) s33 (fun _ hS => px_extract (vs := [.agg #[.string ((mR c1 (x1 * (k))).1), .bool ((mR c1 (x1 * (k))).2.1), s32], .bool ((mR c1 (x1 * (k))).2.2.2)]) rfl rfl) ?_
  refine dx_take 9 rfl rfl rfl rfl (by kernel_rfl) (by kernel_rfl) (by kernel_rfl) s33 (fun _ hS => px_extract (vs := [.agg #[.string ((mR c1 (x1 * (k))).1), .bool ((mR c1 (x1 * (k))).2.1), s32], .bool ((mR c1 (x1 * (k))).2.2.2)]) rfl rfl) ?_
  refine dx_eff 10 rfl (by kernel_rfl) ?_
  have f35 := fb4.ext c13
  have f36 := f35.ext d22
  have f37 := f36.ext c23
  have f38 := f37.ext c27
  have f39 := f38.ext c32
  refine sx_store (vs := [.string ((mR c1 (x1 * (k))).1), .bool ((mR c1 (x1 * (k))).2.1), s32]) rfl rfl f39 rfl Tryd.sizeOf31 (Nat.le_of_ble_eq_true rfl) (one_cons rfl (one_cons rfl (one_cons os_32.one one_nil))) (fun w34 sw34 fw34 cw34 => ?_)
  have zw34 := cw34.size
  have gw34 : Blk w34 b4 [.string ((mR c1 (x1 * (k))).1), .bool ((mR c1 (x1 * (k))).2.1), s32] 31 := fw34
  have q41 := Chg.step (l := b4) (h := (b4 + 1)) (Chg.zero (l := b4) (h := (b4 + 1)) (((d22.t c23).t c27).t c32)) cw34 (by omega)
  have s40 : Chg b4 (b4 + 1) w13 w34 := q41
  refine wl_nil ?_
  refine dx_next s40 ?_
  refine dx_take 11 rfl rfl rfl rfl (by kernel_rfl) (by kernel_rfl) (by kernel_rfl) s40 (fun _ hS => px_assign rfl) ?_
  refine dx_done (by kernel_rfl) ?_
  refine q_n (k18 _ _ ?_)
  refine sx_sub (Sub.cons (t := 4) rfl (.cons (t := 5) rfl (.nil))) ?_
  refine sx_retc ?_
  refine sx_ret2 Tryd.results39 ⟨_, rfl, gw34.loadA (vs := [.string ((mR c1 (x1 * (k))).1), .bool ((mR c1 (x1 * (k))).2.1), s32]) (look_lit rfl) Tryd.isAgg31 Tryd.sizeOf31⟩ rfl ?_
  rw [mUn_ok hA]
  have q42 := Chg.step (l := 0) (h := 0) (Chg.zero (l := 0) (h := 0) ((((((cb2.t cb4).t c13).t d22).t c23).t c27).t c32)) cw34 (by omega)
  have f43 := os_32.chg cw34 (by omega)
  exact ⟨_, rfl, (Own.mono f43 (by omega) (by omega)), mR_len, q42⟩

end Go.Proofs.YtomfgkfpihemlaaDoor
