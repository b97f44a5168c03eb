/- Contracts of functions of the program: what each call returns, and that it changes nothing that was. Conditions: as each says. -/
import Derived.Test.YteiifmkclokgnaaTy
import Derived.Test.YteiifmkclokgnaaNatH
import Derived.Test.YteiifmkclokgnaaSxB
import Derived.Test.YteiifmkclokgnaaRm
import Derived.Test.YteiifmkclokgnaaK0
set_option linter.unusedVariables false
set_option linter.unusedSimpArgs false
namespace Go.Proofs.Yteiifmkclokgnaa
open Go Go.RowKit
set_option maxRecDepth 100000
theorem c_sDecAdd {w : World} {n1 : Bool} {v1 : Value} {lv1 uv1 : Nat} {z1 : List Int} {p1 : Int} {n2 : Bool} {v2 : Value} {lv2 uv2 : Nat} {z2 : List Int} {p2 : Int} (hv1 : Sl w lv1 uv1 v1 (z1)) (hv2 : Sl w lv2 uv2 v2 (z2)) (h63 : z1.length ≤ 4611686018427387904 ∧ z2.length ≤ 4611686018427387904) :
  Ret Try.prog 36 [.agg #[.bool n1, v1, .int .i64 p1], .agg #[.bool n2, v2, .int .i64 p2]] w fun v w' => ∃ s, v = .tuple #[.agg #[.bool ((dBin fAdd n1 z1 p1 n2 z2 p2).1), s, .int .i64 ((dBin fAdd n1 z1 p1 n2 z2 p2).2.2.1)], .bool ((dBin fAdd n1 z1 p1 n2 z2 p2).2.2.2)] ∧ OwnI w' w.heap.size w'.heap.size s intT ((dBin fAdd n1 z1 p1 n2 z2 p2).2.1) ∧ ((dBin fAdd n1 z1 p1 n2 z2 p2).2.1.length ≤ 6) ∧ Chg 0 0 w w' := by
 have hv10 := hv1.fit
 have hv20 := hv2.fit
 refine sx_enter Try.func36 rfl Try.ntmps36 (Nat.le_of_ble_eq_true rfl) ?_
 refine sx_seq fun K1 k1 => sx_region ?_
 refine sx_box [.bool n1, v1, .int .i64 p1] rfl rfl rfl (fun b2 w3 eb2 sb2 fb2 cb2 => ?_)
 have zw3 := cb2.size
 refine sx_box [.bool n2, v2, .int .i64 p2] rfl rfl rfl (fun b4 w5 eb4 sb4 fb4 cb4 => ?_)
 have zw5 := cb4.size
 refine sx_alloc [.bool false, (.slice none 0 0), .int .i64 0] rfl Try.zeroValue31 rfl (fun b6 w7 eb6 sb6 fb6 cb6 => ?_)
 have zw7 := cb6.size
 refine sa rfl rfl rfl rfl ?_
 refine wl_nil (q_n (k1 _ _ ?_))
 refine sx_seq fun K8 k8 => ?_
 refine sx_seq fun K9 k9 => sx_region ?_
 have f10 := fb2.ext cb4
 have f11 := f10.ext cb6
 refine sx_pure rfl rfl rfl (px_load rfl (f11.loadA (vs := [.bool n1, v1, .int .i64 p1]) (look_lit rfl) Try.isAgg31 Try.sizeOf31)) ?_
 have f12 := hv10.ext cb2
 have f13 := f12.ext cb4
 have f14 := f13.ext cb6
 refine sx_call rfl rfl Try.call16 (c_sDecOk f14 (by omega)) (fun v15 w15 p15 => ?_)
 obtain ⟨rfl, c15⟩ := p15
 have zw15 := c15.size
 refine sx_pure rfl rfl rfl (px_notP rfl) ?_
 refine sm rfl rfl rfl rfl ?_
 refine sx_tmpP (t := 12) rfl (fun h105 => ?_) (fun h105 => ?_)
 ·
  refine sx_guardF rfl rfl rfl rfl rfl rfl ?_
  refine sx_guardF rfl rfl rfl rfl rfl rfl ?_
  refine sx_guardF rfl rfl rfl rfl rfl rfl ?_
  refine sx_pure rfl rfl rfl (px_pick rfl rfl) ?_
  refine wl_nil (q_n (k9 _ _ ?_))
  refine sx_condT rfl ?_
  refine sx_seq fun K16 k16 => sx_region ?_
  refine sx_pure rfl rfl rfl (px_build rfl (xbld31x  _)) ?_
  have f18 := fb6.ext c15
  refine sx_store (vs := [.bool false, (.slice none 0 0), .int .i64 0]) rfl rfl f18 rfl Try.sizeOf31 (Nat.le_of_ble_eq_true rfl) (one_cons rfl (one_cons rfl (one_cons rfl one_nil))) (fun w17 sw17 fw17 cw17 => ?_)
  have zw17 := cw17.size
  have gw17 : Blk w17 b6 [.bool false, (.slice none 0 0), .int .i64 0] 31 := fw17
  refine sa rfl rfl rfl rfl ?_
  refine wl_nil (q_n (k16 _ _ ?_))
  refine sx_sub (Sub.cons (t := 2) rfl (.cons (t := 3) rfl (.cons (t := 4) rfl (.cons (t := 5) rfl (.nil))))) ?_
  refine sx_retc ?_
  refine q_r (sx_ret2 Try.results36 ⟨_, rfl, gw17.loadA (vs := [.bool false, (.slice none 0 0), .int .i64 0]) (look_lit rfl) Try.isAgg31 Try.sizeOf31⟩ rfl ?_)
  rw [dBin_no (by grind)]
  have q19 := Chg.step (l := 0) (h := 0) (Chg.zero (l := 0) (h := 0) (((cb2.t cb4).t cb6).t c15)) cw17 (by omega)
  exact ⟨_, rfl, Own.nil _ _ _ _ _, by simp, q19⟩
 ·
  refine sx_guardT rfl rfl rfl ?_
  have f20 := fb4.ext cb6
  have f21 := f20.ext c15
  refine sx_pure rfl rfl rfl (px_load rfl (f21.loadA (vs := [.bool n2, v2, .int .i64 p2]) (look_lit rfl) Try.isAgg31 Try.sizeOf31)) ?_
  refine sx_guardT rfl rfl rfl ?_
  have f22 := hv20.ext cb2
  have f23 := f22.ext cb4
  have f24 := f23.ext cb6
  have f25 := f24.ext c15
  refine sx_call rfl rfl Try.call16 (c_sDecOk f25 (by omega)) (fun v26 w26 p26 => ?_)
  obtain ⟨rfl, c26⟩ := p26
  have zw26 := c26.size
  refine sx_guardT rfl rfl rfl ?_
  refine sx_pure rfl rfl rfl (px_notP rfl) ?_
  refine sx_pure rfl rfl rfl (px_pick rfl rfl) ?_
  refine wl_nil (q_n (k9 _ _ ?_))
  refine sx_condP rfl (fun h105x1 => ?_) (fun h105x1 => ?_)
  ·
   refine sx_seq fun K27 k27 => sx_region ?_
   refine sx_pure rfl rfl rfl (px_build rfl (xbld31x  _)) ?_
   have f29 := fb6.ext c15
   have f30 := f29.ext c26
   refine sx_store (vs := [.bool false, (.slice none 0 0), .int .i64 0]) rfl rfl f30 rfl Try.sizeOf31 (Nat.le_of_ble_eq_true rfl) (one_cons rfl (one_cons rfl (one_cons rfl one_nil))) (fun w28 sw28 fw28 cw28 => ?_)
   have zw28 := cw28.size
   have gw28 : Blk w28 b6 [.bool false, (.slice none 0 0), .int .i64 0] 31 := fw28
   refine sa rfl rfl rfl rfl ?_
   refine wl_nil (q_n (k27 _ _ ?_))
   refine sx_sub (Sub.cons (t := 2) rfl (.cons (t := 3) rfl (.cons (t := 4) rfl (.cons (t := 5) rfl (.nil))))) ?_
   refine sx_retc ?_
   refine q_r (sx_ret2 Try.results36 ⟨_, rfl, gw28.loadA (vs := [.bool false, (.slice none 0 0), .int .i64 0]) (look_lit rfl) Try.isAgg31 Try.sizeOf31⟩ rfl ?_)
   rw [dBin_no (by grind)]
   have q31 := Chg.step (l := 0) (h := 0) (Chg.zero (l := 0) (h := 0) ((((cb2.t cb4).t cb6).t c15).t c26)) cw28 (by omega)
   exact ⟨_, rfl, Own.nil _ _ _ _ _, by simp, q31⟩
  ·
   have hD1 := Decidable.not_not.1 h105
   have hD2 := Decidable.not_not.1 h105x1
   obtain ⟨x1, rfl, rfl, hx1⟩ := hD1.int
   obtain ⟨x2, rfl, rfl, hx2⟩ := hD2.int
   refine sx_skip ?_
   refine q_n (k8 _ _ ?_)
   refine sx_seq fun K32 k32 => sx_region ?_
   have f33 := f11.ext c15
   have f34 := f33.ext c26
   refine sx_pure rfl rfl rfl (px_load rfl (f34.loadA (vs := [.bool (ng x1), v1, .int .i64 p1]) (look_lit rfl) Try.isAgg31 Try.sizeOf31)) ?_
   have f35 := f21.ext c26
   refine sx_pure rfl rfl rfl (px_load rfl (f35.loadA (vs := [.bool (ng x2), v2, .int .i64 p2]) (look_lit rfl) Try.isAgg31 Try.sizeOf31)) ?_
   have f36 := f14.ext c15
   have f37 := f36.ext c26
   have f38 := f25.ext c26
   refine sx_call rfl rfl Try.call70 (c_l07Both f37 f38 (by omega) (by omega)) (fun v39 w39 p39 => ?_)
   obtain ⟨s39, t39, rfl, os_39, ot_39, c39⟩ := p39
   have zw39 := c39.size
   refine sm rfl rfl rfl rfl ?_
   refine sx_pure rfl rfl rfl (px_extract (vs := [.agg #[.bool (ng (x1 * tenI (max p1 p2 - p1))), s39], .agg #[.bool (ng (x2 * tenI (max p1 p2 - p2))), t39], .int .i64 (max p1 p2)]) rfl rfl) ?_
   refine sx_pure rfl rfl rfl (px_extract (vs := [.agg #[.bool (ng (x1 * tenI (max p1 p2 - p1))), s39], .agg #[.bool (ng (x2 * tenI (max p1 p2 - p2))), t39], .int .i64 (max p1 p2)]) rfl rfl) ?_
   refine sx_pure rfl rfl rfl (px_extract (vs := [.agg #[.bool (ng (x1 * tenI (max p1 p2 - p1))), s39], .agg #[.bool (ng (x2 * tenI (max p1 p2 - p2))), t39], .int .i64 (max p1 p2)]) rfl rfl) ?_
   refine sx_alloc [.bool false, (.slice none 0 0)] rfl Try.zeroValue29 rfl (fun b40 w41 eb40 sb40 fb40 cb40 => ?_)
   have zw41 := cb40.size
   refine sx_alloc [.bool false, (.slice none 0 0)] rfl Try.zeroValue29 rfl (fun b42 w43 eb42 sb42 fb42 cb42 => ?_)
   have zw43 := cb42.size
   have f45 := fb40.ext cb42
   have f46 := os_39.ext cb40
   have f47 := f46.ext cb42
   refine sx_store (vs := [.bool (ng (x1 * tenI (max p1 p2 - p1))), s39]) rfl rfl f45 rfl Try.sizeOf29 (Nat.le_of_ble_eq_true rfl) (one_cons rfl (one_cons f47.one one_nil)) (fun w44 sw44 fw44 cw44 => ?_)
   have zw44 := cw44.size
   have gw44 : Blk w44 b40 [.bool (ng (x1 * tenI (max p1 p2 - p1))), s39] 29 := fw44
   have f49 := fb42.chg cw44 (by omega)
   have f50 := ot_39.ext cb40
   have f51 := f50.ext cb42
   have f52 := f51.chg cw44 (by omega)
   refine sx_store (vs := [.bool (ng (x2 * tenI (max p1 p2 - p2))), t39]) rfl rfl f49 rfl Try.sizeOf29 (Nat.le_of_ble_eq_true rfl) (one_cons rfl (one_cons f52.one one_nil)) (fun w48 sw48 fw48 cw48 => ?_)
   have zw48 := cw48.size
   have gw48 : Blk w48 b42 [.bool (ng (x2 * tenI (max p1 p2 - p2))), t39] 29 := fw48
   refine sa rfl rfl rfl rfl ?_
   refine wl_nil (q_n (k32 _ _ ?_))
   refine sx_sub (Sub.cons (t := 4) rfl (.cons (t := 5) rfl (.cons (t := 6) rfl (.cons (t := 7) rfl (.cons (t := 8) rfl (.nil)))))) ?_
   refine sx_seq fun K53 k53 => sx_region ?_
   have f54 := gw44.chg cw48 (by omega)
   refine sx_pure rfl rfl rfl (px_load rfl (f54.loadA (vs := [.bool (ng (x1 * tenI (max p1 p2 - p1))), s39]) (look_lit rfl) Try.isAgg29 Try.sizeOf29)) ?_
   refine sx_pure rfl rfl rfl (px_load rfl (gw48.loadA (vs := [.bool (ng (x2 * tenI (max p1 p2 - p2))), t39]) (look_lit rfl) Try.isAgg29 Try.sizeOf29)) ?_
   have f55 := f47.chg cw44 (by omega)
   have f56 := f55.chg cw48 (by omega)
   have f57 := f52.chg cw48 (by omega)
   refine sx_call rfl rfl Try.call79 (c_IntAddE f56.sv f57.sv (by have h1 := len_ten (k := max p1 p2 - p1) (by omega); have h2 := len_ten (k := max p1 p2 - p2) (by omega); have h3 := len_mulI x1 (tenI (max p1 p2 - p1)); have h4 := len_mulI x2 (tenI (max p1 p2 - p2)); first | omega | (have h5 := len_addI (x1 * tenI (max p1 p2 - p1)) (x2 * tenI (max p1 p2 - p2)); omega)) (by have h1 := len_ten (k := max p1 p2 - p1) (by omega); have h2 := len_ten (k := max p1 p2 - p2) (by omega); have h3 := len_mulI x1 (tenI (max p1 p2 - p1)); have h4 := len_mulI x2 (tenI (max p1 p2 - p2)); first | omega | (have h5 := len_addI (x1 * tenI (max p1 p2 - p1)) (x2 * tenI (max p1 p2 - p2)); omega))) (fun v58 w58 p58 => ?_)
   obtain ⟨s58, rfl, os_58, c58⟩ := p58
   have zw58 := c58.size
   refine sm rfl rfl rfl rfl ?_
   refine sx_call rfl rfl Try.call66 (c_l07Dec os_58 (by have h1 := len_ten (k := max p1 p2 - p1) (by omega); have h2 := len_ten (k := max p1 p2 - p2) (by omega); have h3 := len_mulI x1 (tenI (max p1 p2 - p1)); have h4 := len_mulI x2 (tenI (max p1 p2 - p2)); first | omega | (have h5 := len_addI (x1 * tenI (max p1 p2 - p1)) (x2 * tenI (max p1 p2 - p2)); omega)) (by omega)) (fun v59 w59 p59 => ?_)
   obtain ⟨s59, rfl, os_59, c59⟩ := p59
   have zw59 := c59.size
   refine sx_pure rfl rfl rfl (px_extract (vs := [.agg #[.bool ((decR ((x1 * tenI (max p1 p2 - p1)) + (x2 * tenI (max p1 p2 - p2))) (max p1 p2)).1), s59, .int .i64 ((decR ((x1 * tenI (max p1 p2 - p1)) + (x2 * tenI (max p1 p2 - p2))) (max p1 p2)).2.2.1)], .bool ((decR ((x1 * tenI (max p1 p2 - p1)) + (x2 * tenI (max p1 p2 - p2))) (max p1 p2)).2.2.2)]) rfl rfl) ?_
   refine sx_pure rfl rfl rfl (px_extract (vs := [.agg #[.bool ((decR ((x1 * tenI (max p1 p2 - p1)) + (x2 * tenI (max p1 p2 - p2))) (max p1 p2)).1), s59, .int .i64 ((decR ((x1 * tenI (max p1 p2 - p1)) + (x2 * tenI (max p1 p2 - p2))) (max p1 p2)).2.2.1)], .bool ((decR ((x1 * tenI (max p1 p2 - p1)) + (x2 * tenI (max p1 p2 - p2))) (max p1 p2)).2.2.2)]) rfl rfl) ?_
   have f61 := fb6.ext c15
   have f62 := f61.ext c26
   have f63 := f62.ext c39
   have f64 := f63.ext cb40
   have f65 := f64.ext cb42
   have f66 := f65.chg cw44 (by omega)
   have f67 := f66.chg cw48 (by omega)
   have f68 := f67.ext c58
   have f69 := f68.ext c59
   refine sx_store (vs := [.bool ((decR ((x1 * tenI (max p1 p2 - p1)) + (x2 * tenI (max p1 p2 - p2))) (max p1 p2)).1), s59, .int .i64 ((decR ((x1 * tenI (max p1 p2 - p1)) + (x2 * tenI (max p1 p2 - p2))) (max p1 p2)).2.2.1)]) rfl rfl f69 rfl Try.sizeOf31 (Nat.le_of_ble_eq_true rfl) (one_cons rfl (one_cons os_59.one (one_cons rfl one_nil))) (fun w60 sw60 fw60 cw60 => ?_)
   have zw60 := cw60.size
   have gw60 : Blk w60 b6 [.bool ((decR ((x1 * tenI (max p1 p2 - p1)) + (x2 * tenI (max p1 p2 - p2))) (max p1 p2)).1), s59, .int .i64 ((decR ((x1 * tenI (max p1 p2 - p1)) + (x2 * tenI (max p1 p2 - p2))) (max p1 p2)).2.2.1)] 31 := fw60
   refine sa rfl rfl rfl rfl ?_
   refine wl_nil (q_n (k53 _ _ ?_))
   refine sx_retc ?_
   refine sx_ret2 Try.results36 ⟨_, rfl, gw60.loadA (vs := [.bool ((decR ((x1 * tenI (max p1 p2 - p1)) + (x2 * tenI (max p1 p2 - p2))) (max p1 p2)).1), s59, .int .i64 ((decR ((x1 * tenI (max p1 p2 - p1)) + (x2 * tenI (max p1 p2 - p2))) (max p1 p2)).2.2.1)]) (look_lit rfl) Try.isAgg31 Try.sizeOf31⟩ rfl ?_
   rw [dBin_ok hD1 hD2]
   have q70 := Chg.step (l := 0) (h := 0) (Chg.zero (l := 0) (h := 0) (((((((cb2.t cb4).t cb6).t c15).t c26).t c39).t cb40).t cb42)) cw44 (by omega)
   have q71 := Chg.step (l := 0) (h := 0) q70 cw48 (by omega)
   have q72 := Chg.step (l := 0) (h := 0) q71 (c58.t c59) (by omega)
   have q73 := Chg.step (l := 0) (h := 0) q72 cw60 (by omega)
   have f74 := os_59.chg cw60 (by omega)
   exact ⟨_, rfl, (Own.mono f74 (by omega) (by omega)), decR_len _ _, q73⟩

theorem c_iNatOk {w : World} {va : Value} {lva uva : Nat} {zs : List Int} (hva : Sl w lva uva va (zs)) (h63 : zs.length ≤ 4611686018427387904) :
  Ret Try.prog 104 [va] w fun v w' => v = .bool (decide (NOk zs)) ∧ Chg 0 0 w w' := by
 have hva0 := hva.fit
 refine sx_enter Try.func104 rfl Try.ntmps104 (Nat.le_of_ble_eq_true rfl) ?_
 refine sx_seq fun K1 k1 => sx_region ?_
 refine sa rfl rfl rfl rfl ?_
 refine wl_nil (q_n (k1 _ _ ?_))
 refine sx_seq fun K2 k2 => ?_
 refine sx_seq fun K3 k3 => sx_region ?_
 refine sm rfl rfl rfl rfl ?_
 refine sx_pure rfl rfl rfl (px_len rfl Try.underlying22 hva0) ?_
 refine sx_pure rfl rfl rfl (px_gt rfl rfl) ?_
 refine sm rfl rfl rfl rfl ?_
 refine sx_tmpP (t := 8) rfl (fun h13 => ?_) (fun h13 => ?_)
 ·
  refine sx_guardF rfl rfl rfl rfl rfl rfl ?_
  refine sx_guardF rfl rfl rfl rfl rfl rfl ?_
  refine sx_guardF rfl rfl rfl rfl rfl rfl ?_
  refine sx_guardF rfl rfl rfl rfl rfl rfl ?_
  refine sx_guardFU rfl rfl rfl rfl rfl ?_
  refine sx_guardFU rfl rfl rfl rfl rfl ?_
  refine sx_guardFU rfl rfl rfl rfl rfl ?_
  refine sx_guardFU rfl rfl rfl rfl rfl ?_
  refine sx_guardFU rfl rfl rfl rfl rfl ?_
  refine sx_guardFU rfl rfl rfl rfl rfl ?_
  refine sx_guardFU rfl rfl rfl rfl rfl ?_
  refine sx_guardF rfl rfl rfl rfl rfl rfl ?_
  refine sx_pure rfl rfl rfl (px_pick rfl rfl) ?_
  refine wl_nil (q_n (k3 _ _ ?_))
  refine sx_sub (Sub.cons (t := 0) rfl (.cons (t := 2) rfl (.cons (t := 21) rfl (.nil)))) ?_
  refine sx_condT rfl ?_
  refine sx_seq fun K4 k4 => sx_region ?_
  refine sa rfl rfl rfl rfl ?_
  refine wl_nil (q_n (k4 _ _ ?_))
  refine sx_retc ?_
  refine q_r (sx_ret1 Try.results104 rfl ?_)
  exact ⟨bFalse (fun h => by first | (have h1 := h.2.1; omega) | exact h.2.2 ((last_getD (by omega)).2 (by assumption))), (Chg.refl 0 0 _)⟩
 ·
  refine sx_guardT rfl rfl rfl ?_
  refine sm rfl rfl rfl rfl ?_
  refine sx_guardT rfl rfl rfl ?_
  refine sx_pure rfl rfl rfl (px_len rfl Try.underlying22 hva0) ?_
  refine sx_guardT rfl rfl rfl ?_
  refine sx_pure rfl rfl rfl (px_gt rfl rfl) ?_
  refine sx_guardT rfl rfl rfl ?_
  refine sm rfl rfl rfl rfl ?_
  refine sx_tmpP (t := 12) rfl (fun h13x1 => ?_) (fun h13x1 => ?_)
  ·
   refine sx_guardT rfl rfl rfl ?_
   refine sm rfl rfl rfl rfl ?_
   refine sx_guardT rfl rfl rfl ?_
   refine sm rfl rfl rfl rfl ?_
   refine sx_guardT rfl rfl rfl ?_
   refine sx_pure rfl rfl rfl (px_len rfl Try.underlying22 hva0) ?_
   refine sx_guardT rfl rfl rfl ?_
   refine sx_pure rfl rfl rfl (px_sub rfl rfl (by omega)) ?_
   refine sx_guardT rfl rfl rfl ?_
   refine sx_pure rfl rfl rfl (px_index1 (j := (zs.length - 1)) rfl rfl (by omega) Try.underlying22 Try.sizeOf3 hva0 (by omega)) ?_
   refine sx_guardT rfl rfl rfl ?_
   refine sx_pure rfl rfl rfl (px_load rfl (hva0.load1 (at_int (by omega)) Try.isAgg3)) ?_
   refine sx_guardT rfl rfl rfl ?_
   refine sx_pure rfl rfl rfl (px_eq rfl rfl) ?_
   refine sx_guardT rfl rfl rfl ?_
   refine sx_pure rfl rfl rfl (px_pick rfl rfl) ?_
   refine sx_pure rfl rfl rfl (px_pick rfl rfl) ?_
   refine wl_nil (q_n (k3 _ _ ?_))
   refine sx_sub (Sub.cons (t := 0) rfl (.cons (t := 2) rfl (.cons (t := 21) rfl (.nil)))) ?_
   refine sx_condP rfl (fun h13x2 => ?_) (fun h13x2 => ?_)
   ·
    refine sx_seq fun K5 k5 => sx_region ?_
    refine sa rfl rfl rfl rfl ?_
    refine wl_nil (q_n (k5 _ _ ?_))
    refine sx_retc ?_
    refine q_r (sx_ret1 Try.results104 rfl ?_)
    exact ⟨bFalse (fun h => by first | (have h1 := h.2.1; omega) | exact h.2.2 ((last_getD (by omega)).2 (by assumption))), (Chg.refl 0 0 _)⟩
   ·
    refine sx_skip ?_
    refine q_n (k2 _ _ ?_)
    refine sx_seq fun K6 k6 => ?_
    refine sx_seq fun K7 k7 => sx_region ?_
    refine sm rfl rfl rfl rfl ?_
    refine sx_pure rfl rfl rfl (px_len rfl Try.underlying22 hva0) ?_
    refine sm rfl rfl rfl rfl ?_
    refine wl_nil (q_n (k7 _ _ ?_))
    refine sx_block ?_
    refine sx_loop (fun mm aa w' => ∃ (k : Nat), Agr 35 [(22, va), (23, .int .i64 ↑zs.length), (24, .int .i64 ↑k)] aa ∧ Chg 0 0 w w' ∧ (mm = zs.length - k) ∧ (k ≤ zs.length) ∧ (∀ i, i < k → 0 ≤ zs.getD i 0 ∧ zs.getD i 0 < 1000000000)) (_) (fun a ha => ⟨0, ha.sub (Sub.cons (t := 22) rfl (.cons (t := 23) (look_int (t := 23) rfl (by first | omega | simp)) (.cons (t := 24) (look_int (t := 24) rfl (by first | omega | simp)) (.nil)))), Chg.refl _ _ _, rfl, by omega, fun i h => by omega⟩) ?_
    rintro mm aa wl8 ⟨k, hAwl8, cwl8, hm, hk, hall⟩
    refine (show cw Try.prog 35 _ _ _ wl8 from ?_) aa hAwl8
    clear hAwl8
    have zwl8 := cwl8.size
    refine sx_seq fun K9 k9 => sx_region ?_
    refine sx_pure rfl rfl rfl (px_lt rfl rfl) ?_
    refine wl_nil (q_n (k9 _ _ ?_))
    refine sx_seq fun K10 k10 => ?_
    refine sx_condP rfl (fun h16 => ?_) (fun h16 => ?_)
    ·
     refine sx_skip ?_
     refine q_n (k10 _ _ ?_)
     refine sx_seq fun K11 k11 => ?_
     refine sx_block ?_
     refine sx_seq fun K12 k12 => sx_region ?_
     have f13 := hva0.ext cwl8
     refine sx_pure rfl rfl rfl (px_index1 (j := k) rfl rfl (by omega) Try.underlying22 Try.sizeOf3 f13 (by omega)) ?_
     refine sx_pure rfl rfl rfl (px_load rfl (f13.load1 (at_int (by omega)) Try.isAgg3)) ?_
     refine sa rfl rfl rfl rfl ?_
     refine wl_nil (q_n (k12 _ _ ?_))
     refine sx_seq fun K14 k14 => sx_region ?_
     refine sm rfl rfl rfl rfl ?_
     refine sx_pure rfl rfl rfl (px_lt rfl rfl) ?_
     refine sm rfl rfl rfl rfl ?_
     refine sx_tmpP (t := 30) rfl (fun h17 => ?_) (fun h17 => ?_)
     ·
      refine sx_guardF rfl rfl rfl rfl rfl rfl ?_
      refine sx_guardF rfl rfl rfl rfl rfl rfl ?_
      refine sx_pure rfl rfl rfl (px_pick rfl rfl) ?_
      refine wl_nil (q_n (k14 _ _ ?_))
      refine sx_condT rfl ?_
      refine sx_seq fun K15 k15 => sx_region ?_
      refine sa rfl rfl rfl rfl ?_
      refine wl_nil (q_n (k15 _ _ ?_))
      refine sx_retc ?_
      refine q_br (q_r (q_r (q_br (q_r (sx_ret1 Try.results104 rfl ?_)))))
      exact ⟨bFalse (fun h => by have h1 := h.1.getD k; omega), cwl8⟩
     ·
      refine sx_guardT rfl rfl rfl ?_
      refine sm rfl rfl rfl rfl ?_
      refine sx_guardT rfl rfl rfl ?_
      refine sx_pure rfl rfl rfl (px_ge rfl rfl) ?_
      refine sx_pure rfl rfl rfl (px_pick rfl rfl) ?_
      refine wl_nil (q_n (k14 _ _ ?_))
      refine sx_condP rfl (fun h17x1 => ?_) (fun h17x1 => ?_)
      ·
       refine sx_seq fun K16 k16 => sx_region ?_
       refine sa rfl rfl rfl rfl ?_
       refine wl_nil (q_n (k16 _ _ ?_))
       refine sx_retc ?_
       refine q_br (q_r (q_r (q_br (q_r (sx_ret1 Try.results104 rfl ?_)))))
       exact ⟨bFalse (fun h => by have h1 := h.1.getD k; omega), cwl8⟩
      ·
       refine sx_skip ?_
       refine q_bn (q_n (k11 _ _ ?_))
       refine sx_region ?_
       refine sx_pure rfl rfl rfl (px_add rfl rfl (by omega)) ?_
       refine sm rfl rfl rfl rfl ?_
       refine wl_nil ?_
       exact fun a ha => ⟨_, by omega, (k + 1), ha.sub (Sub.cons (t := 22) rfl (.cons (t := 23) rfl (.cons (t := 24) (look_int (t := 24) rfl (by first | omega | simp)) (.nil)))), cwl8, rfl, by omega, lm_succ hall (by omega)⟩
    ·
     refine sx_exit ?_
     refine q_e (q_e (q_bx (q_n (k6 _ _ ?_))))
     refine sx_seq fun K17 k17 => sx_region ?_
     refine sa rfl rfl rfl rfl ?_
     refine wl_nil (q_n (k17 _ _ ?_))
     refine sx_retc ?_
     refine sx_ret1 Try.results104 rfl ?_
     have ek : k = zs.length := by omega
     have hz : Lm zs := lm_mem (by rw [← ek]; exact hall)
     exact ⟨bTrue (NOk_mk hz (by omega) (by first | exact .inl (by omega) | exact .inr (by assumption))), cwl8⟩
  ·
   refine sx_guardF rfl rfl rfl rfl rfl rfl ?_
   refine sx_guardF rfl rfl rfl rfl rfl rfl ?_
   refine sx_guardF rfl rfl rfl rfl rfl rfl ?_
   refine sx_guardF rfl rfl rfl rfl rfl rfl ?_
   refine sx_guardF rfl rfl rfl rfl rfl rfl ?_
   refine sx_guardF rfl rfl rfl rfl rfl rfl ?_
   refine sx_guardF rfl rfl rfl rfl rfl rfl ?_
   refine sx_guardT rfl rfl rfl ?_
   refine sx_pure rfl rfl rfl (px_pick rfl rfl) ?_
   refine sx_pure rfl rfl rfl (px_pick rfl rfl) ?_
   refine wl_nil (q_n (k3 _ _ ?_))
   refine sx_sub (Sub.cons (t := 0) rfl (.cons (t := 2) rfl (.cons (t := 21) rfl (.nil)))) ?_
   refine sx_condF rfl ?_
   refine sx_skip ?_
   refine q_n (k2 _ _ ?_)
   refine sx_seq fun K18 k18 => ?_
   refine sx_seq fun K19 k19 => sx_region ?_
   refine sm rfl rfl rfl rfl ?_
   refine sx_pure rfl rfl rfl (px_len rfl Try.underlying22 hva0) ?_
   refine sm rfl rfl rfl rfl ?_
   refine wl_nil (q_n (k19 _ _ ?_))
   refine sx_block ?_
   refine sx_loop (fun mm aa w' => ∃ (k : Nat), Agr 35 [(22, va), (23, .int .i64 ↑zs.length), (24, .int .i64 ↑k)] aa ∧ Chg 0 0 w w' ∧ (mm = zs.length - k) ∧ (k ≤ zs.length) ∧ (∀ i, i < k → 0 ≤ zs.getD i 0 ∧ zs.getD i 0 < 1000000000)) (_) (fun a ha => ⟨0, ha.sub (Sub.cons (t := 22) rfl (.cons (t := 23) (look_int (t := 23) rfl (by first | omega | simp)) (.cons (t := 24) (look_int (t := 24) rfl (by first | omega | simp)) (.nil)))), Chg.refl _ _ _, rfl, by omega, fun i h => by omega⟩) ?_
   rintro mm aa wl20 ⟨k, hAwl20, cwl20, hm, hk, hall⟩
   refine (show cw Try.prog 35 _ _ _ wl20 from ?_) aa hAwl20
   clear hAwl20
   have zwl20 := cwl20.size
   refine sx_seq fun K21 k21 => sx_region ?_
   refine sx_pure rfl rfl rfl (px_lt rfl rfl) ?_
   refine wl_nil (q_n (k21 _ _ ?_))
   refine sx_seq fun K22 k22 => ?_
   refine sx_condP rfl (fun h16 => ?_) (fun h16 => ?_)
   ·
    refine sx_skip ?_
    refine q_n (k22 _ _ ?_)
    refine sx_seq fun K23 k23 => ?_
    refine sx_block ?_
    refine sx_seq fun K24 k24 => sx_region ?_
    have f25 := hva0.ext cwl20
    refine sx_pure rfl rfl rfl (px_index1 (j := k) rfl rfl (by omega) Try.underlying22 Try.sizeOf3 f25 (by omega)) ?_
    refine sx_pure rfl rfl rfl (px_load rfl (f25.load1 (at_int (by omega)) Try.isAgg3)) ?_
    refine sa rfl rfl rfl rfl ?_
    refine wl_nil (q_n (k24 _ _ ?_))
    refine sx_seq fun K26 k26 => sx_region ?_
    refine sm rfl rfl rfl rfl ?_
    refine sx_pure rfl rfl rfl (px_lt rfl rfl) ?_
    refine sm rfl rfl rfl rfl ?_
    refine sx_tmpP (t := 30) rfl (fun h17 => ?_) (fun h17 => ?_)
    ·
     refine sx_guardF rfl rfl rfl rfl rfl rfl ?_
     refine sx_guardF rfl rfl rfl rfl rfl rfl ?_
     refine sx_pure rfl rfl rfl (px_pick rfl rfl) ?_
     refine wl_nil (q_n (k26 _ _ ?_))
     refine sx_condT rfl ?_
     refine sx_seq fun K27 k27 => sx_region ?_
     refine sa rfl rfl rfl rfl ?_
     refine wl_nil (q_n (k27 _ _ ?_))
     refine sx_retc ?_
     refine q_br (q_r (q_r (q_br (q_r (sx_ret1 Try.results104 rfl ?_)))))
     exact ⟨bFalse (fun h => by have h1 := h.1.getD k; omega), cwl20⟩
    ·
     refine sx_guardT rfl rfl rfl ?_
     refine sm rfl rfl rfl rfl ?_
     refine sx_guardT rfl rfl rfl ?_
     refine sx_pure rfl rfl rfl (px_ge rfl rfl) ?_
     refine sx_pure rfl rfl rfl (px_pick rfl rfl) ?_
     refine wl_nil (q_n (k26 _ _ ?_))
     refine sx_condP rfl (fun h17x1 => ?_) (fun h17x1 => ?_)
     ·
      refine sx_seq fun K28 k28 => sx_region ?_
      refine sa rfl rfl rfl rfl ?_
      refine wl_nil (q_n (k28 _ _ ?_))
      refine sx_retc ?_
      refine q_br (q_r (q_r (q_br (q_r (sx_ret1 Try.results104 rfl ?_)))))
      exact ⟨bFalse (fun h => by have h1 := h.1.getD k; omega), cwl20⟩
     ·
      refine sx_skip ?_
      refine q_bn (q_n (k23 _ _ ?_))
      refine sx_region ?_
      refine sx_pure rfl rfl rfl (px_add rfl rfl (by omega)) ?_
      refine sm rfl rfl rfl rfl ?_
      refine wl_nil ?_
      exact fun a ha => ⟨_, by omega, (k + 1), ha.sub (Sub.cons (t := 22) rfl (.cons (t := 23) rfl (.cons (t := 24) (look_int (t := 24) rfl (by first | omega | simp)) (.nil)))), cwl20, rfl, by omega, lm_succ hall (by omega)⟩
   ·
    refine sx_exit ?_
    refine q_e (q_e (q_bx (q_n (k18 _ _ ?_))))
    refine sx_seq fun K29 k29 => sx_region ?_
    refine sa rfl rfl rfl rfl ?_
    refine wl_nil (q_n (k29 _ _ ?_))
    refine sx_retc ?_
    refine sx_ret1 Try.results104 rfl ?_
    have ek : k = zs.length := by omega
    have hz : Lm zs := lm_mem (by rw [← ek]; exact hall)
    exact ⟨bTrue (NOk_mk hz (by omega) (by first | exact .inl (by omega) | exact .inr (by assumption))), cwl20⟩

theorem c_iIntOk {w : World} {n1 : Bool} {v1 : Value} {lv1 uv1 : Nat} {z1 : List Int} (hv1 : Sl w lv1 uv1 v1 (z1)) (h63 : z1.length ≤ 4611686018427387904) :
  Ret Try.prog 62 [.agg #[.bool n1, v1]] w fun v w' => v = .bool (decide (IOk n1 z1)) ∧ Chg 0 0 w w' := by
 have hv10 := hv1.fit
 refine sx_enter Try.func62 rfl Try.ntmps62 (Nat.le_of_ble_eq_true rfl) ?_
 refine sx_seq fun K1 k1 => sx_region ?_
 refine sx_box [.bool n1, v1] rfl rfl rfl (fun b2 w3 eb2 sb2 fb2 cb2 => ?_)
 have zw3 := cb2.size
 refine sa rfl rfl rfl rfl ?_
 refine wl_nil (q_n (k1 _ _ ?_))
 refine sx_seq fun K4 k4 => sx_region ?_
 refine sx_pure rfl rfl rfl (px_field rfl xfld29x1) ?_
 refine sx_pure rfl rfl rfl (px_load rfl (fb2.load1 rfl Try.isAgg22)) ?_
 have f5 := hv10.ext cb2
 refine sx_call rfl rfl Try.call104 (c_iNatOk f5 (by omega)) (fun v6 w6 p6 => ?_)
 obtain ⟨rfl, c6⟩ := p6
 have zw6 := c6.size
 refine sm rfl rfl rfl rfl ?_
 refine sx_tmpP (t := 6) rfl (fun h10 => ?_) (fun h10 => ?_)
 ·
  refine sx_guardT rfl rfl rfl ?_
  refine sx_pure rfl rfl rfl (px_field rfl xfld29x0) ?_
  refine sx_guardT rfl rfl rfl ?_
  have f7 := fb2.ext c6
  refine sx_pure rfl rfl rfl (px_load rfl (f7.load1 rfl Try.isAgg4)) ?_
  refine sx_guardT rfl rfl rfl ?_
  refine sx_pure rfl rfl rfl (px_not rfl) ?_
  refine sx_guardT rfl rfl rfl ?_
  refine sm rfl rfl rfl rfl ?_
  refine sx_tmpB (t := 10) rfl (fun h10x1 => ?_) (fun h10x1 => ?_)
  ·
   refine sx_guardF rfl rfl rfl rfl rfl rfl ?_
   refine sx_guardF rfl rfl rfl rfl rfl rfl ?_
   refine sx_guardF rfl rfl rfl rfl rfl rfl ?_
   refine sx_guardF rfl rfl rfl rfl rfl rfl ?_
   refine sx_guardT rfl rfl rfl ?_
   refine sx_pure rfl rfl rfl (px_pick rfl rfl) ?_
   refine sx_pure rfl rfl rfl (px_pick rfl rfl) ?_
   refine sa rfl rfl rfl rfl ?_
   refine wl_nil (q_n (k4 _ _ ?_))
   refine sx_sub (Sub.cons (t := 2) rfl (.nil)) ?_
   refine sx_retc ?_
   refine sx_ret1 Try.results62 rfl ?_
   exact ⟨(by first | exact bTrue (by grind [IOk]) | exact bFalse (by grind [IOk]) | exact bIff (by grind [IOk])), (cb2.t c6)⟩
  ·
   refine sx_guardT rfl rfl rfl ?_
   refine sx_pure rfl rfl rfl (px_field rfl xfld29x1) ?_
   refine sx_guardT rfl rfl rfl ?_
   refine sx_pure rfl rfl rfl (px_load rfl (f7.load1 rfl Try.isAgg22)) ?_
   refine sx_guardT rfl rfl rfl ?_
   have f8 := f5.ext c6
   refine sx_pure rfl rfl rfl (px_len rfl Try.underlying22 f8) ?_
   refine sx_guardT rfl rfl rfl ?_
   refine sx_pure rfl rfl rfl (px_gt rfl rfl) ?_
   refine sx_guardT rfl rfl rfl ?_
   refine sx_pure rfl rfl rfl (px_pick rfl rfl) ?_
   refine sx_pure rfl rfl rfl (px_pick rfl rfl) ?_
   refine sa rfl rfl rfl rfl ?_
   refine wl_nil (q_n (k4 _ _ ?_))
   refine sx_sub (Sub.cons (t := 2) rfl (.nil)) ?_
   refine sx_retc ?_
   refine sx_ret1 Try.results62 rfl ?_
   exact ⟨(by first | exact bTrue (by grind [IOk]) | exact bFalse (by grind [IOk]) | exact bIff (by grind [IOk])), (cb2.t c6)⟩
 ·
  refine sx_guardF rfl rfl rfl rfl rfl rfl ?_
  refine sx_guardF rfl rfl rfl rfl rfl rfl ?_
  refine sx_guardF rfl rfl rfl rfl rfl rfl ?_
  refine sx_guardF rfl rfl rfl rfl rfl rfl ?_
  refine sx_guardFU rfl rfl rfl rfl rfl ?_
  refine sx_guardFU rfl rfl rfl rfl rfl ?_
  refine sx_guardFU rfl rfl rfl rfl rfl ?_
  refine sx_guardFU rfl rfl rfl rfl rfl ?_
  refine sx_guardF rfl rfl rfl rfl rfl rfl ?_
  refine sx_pure rfl rfl rfl (px_pick rfl rfl) ?_
  refine sa rfl rfl rfl rfl ?_
  refine wl_nil (q_n (k4 _ _ ?_))
  refine sx_sub (Sub.cons (t := 2) rfl (.nil)) ?_
  refine sx_retc ?_
  refine sx_ret1 Try.results62 rfl ?_
  exact ⟨(by first | exact bTrue (by grind [IOk]) | exact bFalse (by grind [IOk]) | exact bIff (by grind [IOk])), (cb2.t c6)⟩

theorem c_isScale {w : World} {p : Int} :
  Ret Try.prog 63 [.int .i64 p] w fun v w' => v = .bool (decide (0 ≤ p ∧ p ≤ 30)) ∧ Chg 0 0 w w' := by
 refine sx_enter Try.func63 rfl Try.ntmps63 (Nat.le_of_ble_eq_true rfl) ?_
 refine sx_seq fun K1 k1 => sx_region ?_
 refine sa rfl rfl rfl rfl ?_
 refine wl_nil (q_n (k1 _ _ ?_))
 refine sx_seq fun K2 k2 => sx_region ?_
 refine sm rfl rfl rfl rfl ?_
 refine sx_pure rfl rfl rfl (px_ge rfl rfl) ?_
 refine sm rfl rfl rfl rfl ?_
 refine sx_tmpP (t := 5) rfl (fun h15 => ?_) (fun h15 => ?_)
 ·
  refine sx_guardT rfl rfl rfl ?_
  refine sm rfl rfl rfl rfl ?_
  refine sx_guardT rfl rfl rfl ?_
  refine sx_pure rfl rfl rfl (px_le rfl rfl) ?_
  refine sx_pure rfl rfl rfl (px_pick rfl rfl) ?_
  refine sa rfl rfl rfl rfl ?_
  refine wl_nil (q_n (k2 _ _ ?_))
  refine sx_retc ?_
  refine sx_ret1 Try.results63 rfl ?_
  exact ⟨(by first | exact bTrue (by grind) | exact bFalse (by grind) | exact bIff (by grind)), (Chg.refl 0 0 _)⟩
 ·
  refine sx_guardF rfl rfl rfl rfl rfl rfl ?_
  refine sx_guardF rfl rfl rfl rfl rfl rfl ?_
  refine sx_pure rfl rfl rfl (px_pick rfl rfl) ?_
  refine sa rfl rfl rfl rfl ?_
  refine wl_nil (q_n (k2 _ _ ?_))
  refine sx_retc ?_
  refine sx_ret1 Try.results63 rfl ?_
  exact ⟨(by first | exact bTrue (by grind) | exact bFalse (by grind) | exact bIff (by grind)), (Chg.refl 0 0 _)⟩

theorem c_iDecOk {w : World} {n1 : Bool} {v1 : Value} {lv1 uv1 : Nat} {z1 : List Int} {p1 : Int} (hv1 : Sl w lv1 uv1 v1 (z1)) (h63 : z1.length ≤ 4611686018427387904) :
  Ret Try.prog 18 [.agg #[.bool n1, v1, .int .i64 p1]] w fun v w' => v = .bool (decide (DOk n1 z1 p1)) ∧ Chg 0 0 w w' := by
 have hv10 := hv1.fit
 refine sx_enter Try.func18 rfl Try.ntmps18 (Nat.le_of_ble_eq_true rfl) ?_
 refine sx_seq fun K1 k1 => sx_region ?_
 refine sx_box [.bool n1, v1, .int .i64 p1] rfl rfl rfl (fun b2 w3 eb2 sb2 fb2 cb2 => ?_)
 have zw3 := cb2.size
 refine sa rfl rfl rfl rfl ?_
 refine wl_nil (q_n (k1 _ _ ?_))
 refine sx_seq fun K4 k4 => sx_region ?_
 refine sx_pure rfl rfl rfl (px_field rfl xfld31x0) ?_
 refine sx_pure rfl rfl rfl (px_load rfl (fb2.loadA (vs := [.bool n1, v1]) (look_lit rfl) Try.isAgg29 Try.sizeOf29)) ?_
 have f5 := hv10.ext cb2
 refine sx_call rfl rfl Try.call62 (c_iIntOk f5 (by omega)) (fun v6 w6 p6 => ?_)
 obtain ⟨rfl, c6⟩ := p6
 have zw6 := c6.size
 refine sm rfl rfl rfl rfl ?_
 refine sx_tmpP (t := 6) rfl (fun h18 => ?_) (fun h18 => ?_)
 ·
  refine sx_guardT rfl rfl rfl ?_
  refine sx_pure rfl rfl rfl (px_field rfl xfld31x0) ?_
  refine sx_guardT rfl rfl rfl ?_
  refine sx_pure rfl rfl rfl (px_field rfl xfld29x1) ?_
  refine sx_guardT rfl rfl rfl ?_
  have f7 := fb2.ext c6
  refine sx_pure rfl rfl rfl (px_load rfl (f7.load1 rfl Try.isAgg22)) ?_
  refine sx_guardT rfl rfl rfl ?_
  have f8 := f5.ext c6
  refine sx_pure rfl rfl rfl (px_len rfl Try.underlying22 f8) ?_
  refine sx_guardT rfl rfl rfl ?_
  refine sx_pure rfl rfl rfl (px_le rfl rfl) ?_
  refine sx_pure rfl rfl rfl (px_pick rfl rfl) ?_
  refine sm rfl rfl rfl rfl ?_
  refine sx_tmpP (t := 13) rfl (fun h18x1 => ?_) (fun h18x1 => ?_)
  ·
   refine sx_guardT rfl rfl rfl ?_
   refine sx_pure rfl rfl rfl (px_field rfl xfld31x1) ?_
   refine sx_guardT rfl rfl rfl ?_
   refine sx_pure rfl rfl rfl (px_load rfl (f7.load1 rfl Try.isAgg3)) ?_
   refine sx_guardT rfl rfl rfl ?_
   refine sx_call rfl rfl Try.call63 (c_isScale) (fun v9 w9 p9 => ?_)
   obtain ⟨rfl, c9⟩ := p9
   have zw9 := c9.size
   refine sx_pure rfl rfl rfl (px_pick rfl rfl) ?_
   refine sa rfl rfl rfl rfl ?_
   refine wl_nil (q_n (k4 _ _ ?_))
   refine sx_sub (Sub.cons (t := 2) rfl (.nil)) ?_
   refine sx_retc ?_
   refine sx_ret1 Try.results18 rfl ?_
   exact ⟨(by first | exact bTrue (by grind [DOk]) | exact bFalse (by grind [DOk]) | exact bIff (by grind [DOk])), ((cb2.t c6).t c9)⟩
  ·
   refine sx_guardF rfl rfl rfl rfl rfl rfl ?_
   refine sx_guardF rfl rfl rfl rfl rfl rfl ?_
   refine sx_guardF rfl rfl rfl rfl rfl rfl ?_
   refine sx_pure rfl rfl rfl (px_pick rfl rfl) ?_
   refine sa rfl rfl rfl rfl ?_
   refine wl_nil (q_n (k4 _ _ ?_))
   refine sx_sub (Sub.cons (t := 2) rfl (.nil)) ?_
   refine sx_retc ?_
   refine sx_ret1 Try.results18 rfl ?_
   exact ⟨(by first | exact bTrue (by grind [DOk]) | exact bFalse (by grind [DOk]) | exact bIff (by grind [DOk])), (cb2.t c6)⟩
 ·
  refine sx_guardF rfl rfl rfl rfl rfl rfl ?_
  refine sx_guardF rfl rfl rfl rfl rfl rfl ?_
  refine sx_guardF rfl rfl rfl rfl rfl rfl ?_
  refine sx_guardF rfl rfl rfl rfl rfl rfl ?_
  refine sx_guardF rfl rfl rfl rfl rfl rfl ?_
  refine sx_pure rfl rfl rfl (px_pick rfl rfl) ?_
  refine sm rfl rfl rfl rfl ?_
  refine sx_guardF rfl rfl rfl rfl rfl rfl ?_
  refine sx_guardF rfl rfl rfl rfl rfl rfl ?_
  refine sx_guardF rfl rfl rfl rfl rfl rfl ?_
  refine sx_pure rfl rfl rfl (px_pick rfl rfl) ?_
  refine sa rfl rfl rfl rfl ?_
  refine wl_nil (q_n (k4 _ _ ?_))
  refine sx_sub (Sub.cons (t := 2) rfl (.nil)) ?_
  refine sx_retc ?_
  refine sx_ret1 Try.results18 rfl ?_
  exact ⟨(by first | exact bTrue (by grind [DOk]) | exact bFalse (by grind [DOk]) | exact bIff (by grind [DOk])), (cb2.t c6)⟩

theorem c_natTen {w : World} {k : Int} (hk : 0 ≤ k ∧ k ≤ 449) :
  Ret Try.prog 97 [.int .i64 k] w fun v w' => ∃ s, v = s ∧ OwnI w' w.heap.size w'.heap.size s intT (dg (10 ^ (k).toNat)) ∧ Chg 0 0 w w' := by
 refine sx_enter Try.func97 rfl Try.ntmps97 (Nat.le_of_ble_eq_true rfl) ?_
 refine sx_seq fun K1 k1 => sx_region ?_
 refine sa rfl rfl rfl rfl ?_
 refine wl_nil (q_n (k1 _ _ ?_))
 refine sx_seq fun K2 k2 => sx_region ?_
 refine sm rfl rfl rfl rfl ?_
 refine sx_pure rfl rfl rfl (px_quo rfl rfl (by omega) (by omega) (by omega)) ?_
 refine sm rfl rfl rfl rfl ?_
 refine sx_pure rfl rfl rfl (px_quo rfl rfl (by omega) (by omega) (by omega)) ?_
 refine sx_pure rfl rfl rfl (px_add rfl rfl (by omega)) ?_
 refine sx_makeC (l := (k / 9).toNat) (c := (k / 9).toNat + 1) rfl xelt22 (look_int rfl (by omega)) (look_int rfl (by omega)) (by omega) (by omega) (by unfold maxLen; omega) (fun s3 ws3 fs3 cs3 ls3 => ?_)
 have ns3 := fs3.madeC (by omega)
 have zws3 := cs3.size
 refine sa rfl rfl rfl rfl ?_
 refine wl_nil (q_n (k2 _ _ ?_))
 refine sx_seq fun K4 k4 => sx_region ?_
 refine sa rfl rfl rfl rfl ?_
 refine wl_nil (q_n (k4 _ _ ?_))
 refine sx_seq fun K5 k5 => ?_
 refine sx_seq fun K6 k6 => sx_region ?_
 refine sm rfl rfl rfl rfl ?_
 refine sx_pure rfl rfl rfl (px_rem rfl rfl (by omega) (by omega)) ?_
 refine sm rfl rfl rfl rfl ?_
 refine wl_nil (q_n (k6 _ _ ?_))
 refine sx_block ?_
 refine sx_loop (fun mm aa w' => ∃ (j : Nat) (c : Nat), Agr 22 [(3, s3), (4, .int .i64 ((c : Nat) : Int)), (12, .int .i64 (k % 9)), (13, .int .i64 ↑j)] aa ∧ Chg 0 0 ws3 w' ∧ Own w' w.heap.size ws3.heap.size s3 3 ((List.replicate ((k / 9).toNat) 0).length) 1 ((List.replicate ((k / 9).toNat) 0).map (Value.int .i64)) ∧ (mm = (k % 9).toNat - j) ∧ ((j : Int) ≤ k % 9) ∧ (c = 10 ^ j)) (_) (fun a ha => ⟨0, 1, ha.sub (Sub.cons (t := 3) rfl (.cons (t := 4) (look_int (t := 4) rfl (by first | omega | simp)) (.cons (t := 12) rfl (.cons (t := 13) (look_int (t := 13) rfl (by first | omega | simp)) (.nil))))), Chg.refl _ _ _, (ns3.mono (by omega) (by omega)), rfl, by omega, rfl⟩) ?_
 rintro mm aa wl7 ⟨j, c, hAwl7, cwl7, hs_s3, hm, hj, hc⟩
 refine (show cw Try.prog 22 _ _ _ wl7 from ?_) aa hAwl7
 clear hAwl7
 have zwl7 := cwl7.size
 have hb9 := ten_le (j := j) (by omega)
 refine sx_seq fun K8 k8 => sx_region ?_
 refine sx_pure rfl rfl rfl (px_lt rfl rfl) ?_
 refine wl_nil (q_n (k8 _ _ ?_))
 refine sx_seq fun K9 k9 => ?_
 refine sx_condP rfl (fun h110 => ?_) (fun h110 => ?_)
 ·
  refine sx_skip ?_
  refine q_n (k9 _ _ ?_)
  refine sx_seq fun K10 k10 => ?_
  refine sx_block ?_
  refine sx_region ?_
  refine sm rfl rfl rfl rfl ?_
  refine sx_pure rfl rfl rfl (px_mul rfl rfl (by omega)) ?_
  refine sa rfl rfl rfl rfl ?_
  refine wl_nil ?_
  refine q_bn (q_n (k10 _ _ ?_))
  refine sx_region ?_
  refine sx_pure rfl rfl rfl (px_add rfl rfl (by omega)) ?_
  refine sm rfl rfl rfl rfl ?_
  refine wl_nil ?_
  exact fun a ha => ⟨_, by omega, (j + 1), (c * 10), ha.sub (Sub.cons (t := 3) rfl (.cons (t := 4) (look_int (t := 4) rfl (by first | omega | simp)) (.cons (t := 12) rfl (.cons (t := 13) (look_int (t := 13) rfl (by first | omega | simp)) (.nil))))), cwl7, (hs_s3.mono (by omega) (by omega)), rfl, by omega, by rw [hc, Nat.pow_succ]⟩
 ·
  refine sx_exit ?_
  refine q_e (q_e (q_bx (q_n (k5 _ _ ?_))))
  refine sx_seq fun K11 k11 => sx_region ?_
  refine sm rfl rfl rfl rfl ?_
  refine sm rfl rfl rfl rfl ?_
  refine sx_lit1 rfl xelt22 rfl rfl (fun s12 ws12 ss12 fs12 cs12 => ?_)
  have ns12 := Own.norm (f := (Value.int .i64)) (zs := [((c : Nat) : Int)]) fs12
  have zws12 := cs12.size
  have f14 := hs_s3.ext cs12
  refine sx_append rfl xelt22 rfl rfl f14 ns12.sv one_int (by omega) (by simp only [List.length_replicate, List.length_cons, List.length_nil]; omega) (by unfold maxLen; simp only [List.length_replicate, List.length_cons, List.length_nil]; omega) (fun a13 w13 fw13 cw13 => ?_)
  have nw13 := Own.app (f := (Value.int .i64)) (a := List.replicate ((k / 9).toNat) 0) (b := [((c : Nat) : Int)]) fw13
  have zw13 := cw13.size
  refine sa rfl rfl rfl rfl ?_
  refine wl_nil (q_n (k11 _ _ ?_))
  refine sx_retc ?_
  refine sx_ret1 Try.results97 rfl ?_
  have hd := ten_dg hk.1 (j := j) (by omega) hc
  rw [← hd]
  have q15 := Chg.step (l := 0) (h := 0) (Chg.zero (l := 0) (h := 0) ((cs3.t cwl7).t cs12)) cw13 (by omega)
  exact ⟨_, rfl, (Own.mono nw13 (by omega) (by omega)), q15⟩

theorem c_trim {w : World} {va : Value} {lva uva : Nat} {zs : List Int} (hva : OwnI w lva uva va intT (zs)) (hz : Lm zs) (h63 : zs.length ≤ 1000000) :
  Ret Try.prog 121 [va] w fun v w' => ∃ s, v = s ∧ OwnI w' (lva) (uva) s intT (dg (vl zs)) ∧ Chg 0 0 w w' := by
 refine sx_enter Try.func121 rfl Try.ntmps121 (Nat.le_of_ble_eq_true rfl) ?_
 refine sx_seq fun K1 k1 => sx_region ?_
 refine sa rfl rfl rfl rfl ?_
 refine wl_nil (q_n (k1 _ _ ?_))
 refine sx_seq fun K2 k2 => ?_
 refine sx_block ?_
 refine sx_loop (fun mm aa w' => ∃ (k : Nat) (s : Value), Agr 21 [(0, s)] aa ∧ Chg 0 0 w w' ∧ Own w' lva uva s intT ((zs.take k).length) 1 ((zs.take k).map (Value.int .i64)) ∧ (mm = k) ∧ (k ≤ zs.length) ∧ (vl (zs.take k) = vl zs)) (_) (fun a ha => ⟨zs.length, va, ha.sub (Sub.cons (t := 0) rfl (.nil)), Chg.refl _ _ _, (by rw [List.take_length]; exact hva), rfl, by omega, vl_take_all zs⟩) ?_
 rintro mm aa wl3 ⟨k, s, hAwl3, cwl3, hs_s, hm, hk, hv⟩
 refine (show cw Try.prog 21 _ _ _ wl3 from ?_) aa hAwl3
 clear hAwl3
 have zwl3 := cwl3.size
 have hlt : (zs.take k).length = k := by rw [List.length_take]; omega
 refine sx_seq fun K4 k4 => ?_
 refine sx_seq fun K5 k5 => sx_region ?_
 refine sm rfl rfl rfl rfl ?_
 refine sx_pure rfl rfl rfl (px_len rfl Try.underlying22 hs_s.sv) ?_
 refine sx_pure rfl rfl rfl (px_gt rfl rfl) ?_
 refine sm rfl rfl rfl rfl ?_
 refine sx_tmpP (t := 6) rfl (fun h29 => ?_) (fun h29 => ?_)
 ·
  refine sx_guardT rfl rfl rfl ?_
  refine sm rfl rfl rfl rfl ?_
  refine sx_guardT rfl rfl rfl ?_
  refine sm rfl rfl rfl rfl ?_
  refine sx_guardT rfl rfl rfl ?_
  refine sx_pure rfl rfl rfl (px_len rfl Try.underlying22 hs_s.sv) ?_
  refine sx_guardT rfl rfl rfl ?_
  refine sx_pure rfl rfl rfl (px_sub rfl rfl (by omega)) ?_
  refine sx_guardT rfl rfl rfl ?_
  refine sx_pure rfl rfl rfl (px_index1 (j := (k - 1)) rfl rfl (by omega) Try.underlying22 Try.sizeOf3 hs_s.sv (by omega)) ?_
  refine sx_guardT rfl rfl rfl ?_
  refine sx_pure rfl rfl rfl (px_load rfl (hs_s.sv.load1 (at_int (by omega)) Try.isAgg3)) ?_
  refine sx_guardT rfl rfl rfl ?_
  refine sx_pure rfl rfl rfl (px_eq rfl rfl) ?_
  refine sx_pure rfl rfl rfl (px_pick rfl rfl) ?_
  refine wl_nil (q_n (k5 _ _ ?_))
  refine sx_condP rfl (fun h29x1 => ?_) (fun h29x1 => ?_)
  ·
   refine sx_skip ?_
   refine q_n (k4 _ _ ?_)
   refine sx_block ?_
   refine sx_region ?_
   refine sm rfl rfl rfl rfl ?_
   refine sm rfl rfl rfl rfl ?_
   refine sx_pure rfl rfl rfl (px_len rfl Try.underlying22 hs_s.sv) ?_
   refine sx_pure rfl rfl rfl (px_sub rfl rfl (by omega)) ?_
   refine sx_pure rfl rfl rfl (px_sliceTo (h := (k - 1)) rfl rfl (by omega) Try.underlying22 Try.sizeOf3 hs_s.sv (by omega)) ?_
   refine sa rfl rfl rfl rfl ?_
   refine wl_nil ?_
   exact q_bn (fun a ha => ⟨_, by omega, (k - 1), (vtake s (k - 1)), ha.sub (Sub.cons (t := 0) rfl (.nil)), cwl3, (by have hh := (Own.takeI hs_s (h := (k - 1)) (by omega)); rwa [List.take_take, Nat.min_eq_left (by omega)] at hh), rfl, by omega, trim_step (by omega) hk h29x1 hv⟩)
  ·
   refine sx_exit ?_
   refine q_e (q_e (q_bx (q_n (k2 _ _ ?_))))
   refine sx_seq fun K6 k6 => sx_region ?_
   refine sm rfl rfl rfl rfl ?_
   refine sa rfl rfl rfl rfl ?_
   refine wl_nil (q_n (k6 _ _ ?_))
   refine sx_sub (Sub.cons (t := 2) rfl (.nil)) ?_
   refine sx_retc ?_
   refine sx_ret1 Try.results121 rfl ?_
   have hd := trim_done hz hk hv (by first | exact .inl (by omega) | exact .inr (by assumption))
   rw [← hd]
   exact ⟨_, rfl, hs_s, cwl3⟩
 ·
  refine sx_guardF rfl rfl rfl rfl rfl rfl ?_
  refine sx_guardF rfl rfl rfl rfl rfl rfl ?_
  refine sx_guardF rfl rfl rfl rfl rfl rfl ?_
  refine sx_guardF rfl rfl rfl rfl rfl rfl ?_
  refine sx_guardF rfl rfl rfl rfl rfl rfl ?_
  refine sx_guardF rfl rfl rfl rfl rfl rfl ?_
  refine sx_guardF rfl rfl rfl rfl rfl rfl ?_
  refine sx_pure rfl rfl rfl (px_pick rfl rfl) ?_
  refine wl_nil (q_n (k5 _ _ ?_))
  refine sx_condF rfl ?_
  refine sx_exit ?_
  refine q_e (q_e (q_bx (q_n (k2 _ _ ?_))))
  refine sx_seq fun K7 k7 => sx_region ?_
  refine sm rfl rfl rfl rfl ?_
  refine sa rfl rfl rfl rfl ?_
  refine wl_nil (q_n (k7 _ _ ?_))
  refine sx_sub (Sub.cons (t := 2) rfl (.nil)) ?_
  refine sx_retc ?_
  refine sx_ret1 Try.results121 rfl ?_
  have hd := trim_done hz hk hv (by first | exact .inl (by omega) | exact .inr (by assumption))
  rw [← hd]
  exact ⟨_, rfl, hs_s, cwl3⟩

theorem c_natMul {w : World} {va : Value} {lva uva : Nat} {m : Nat} {vb : Value} {lvb uvb : Nat} {n : Nat} (hva : Sl w lva uva va (dg m)) (hvb : Sl w lvb uvb vb (dg n)) (hbm : (dg m).length ≤ 1000) (hbn : (dg n).length ≤ 1000) :
  Ret Try.prog 91 [va, vb] w fun v w' => ∃ s, v = s ∧ OwnI w' w.heap.size w'.heap.size s intT (dg (m * n)) ∧ Chg 0 0 w w' := by
 have hva0 := hva.fit
 have hvb0 := hvb.fit
 refine sx_enter Try.func91 rfl Try.ntmps91 (Nat.le_of_ble_eq_true rfl) ?_
 refine sx_seq fun K1 k1 => sx_region ?_
 refine sa rfl rfl rfl rfl ?_
 refine wl_nil (q_n (k1 _ _ ?_))
 refine sx_seq fun K2 k2 => sx_region ?_
 refine sm rfl rfl rfl rfl ?_
 refine sx_pure rfl rfl rfl (px_len rfl Try.underlying22 hva0) ?_
 refine sm rfl rfl rfl rfl ?_
 refine sx_pure rfl rfl rfl (px_len rfl Try.underlying22 hvb0) ?_
 refine sx_pure rfl rfl rfl (px_add rfl rfl (by omega)) ?_
 refine sx_pure rfl rfl rfl (px_add rfl rfl (by omega)) ?_
 refine sx_make (c := (dg m).length + (dg n).length + 1) rfl xelt22 (look_int rfl (by omega)) (look_int rfl (by omega)) (by omega) (by unfold maxLen; omega) (fun s3 ws3 fs3 cs3 ls3 => ?_)
 have ns3 := fs3.made
 have zws3 := cs3.size
 refine sa rfl rfl rfl rfl ?_
 refine wl_nil (q_n (k2 _ _ ?_))
 refine sx_seq fun K4 k4 => ?_
 refine sx_seq fun K5 k5 => sx_region ?_
 refine sm rfl rfl rfl rfl ?_
 have f6 := hva0.ext cs3
 refine sx_pure rfl rfl rfl (px_len rfl Try.underlying22 f6) ?_
 refine sm rfl rfl rfl rfl ?_
 refine wl_nil (q_n (k5 _ _ ?_))
 refine sx_block ?_
 refine sx_loop (fun mm aa w' => ∃ (k : Nat) (os : List Int), Agr 79 [(1, vb), (5, s3), (19, va), (20, .int .i64 (↑(dg m).length)), (21, .int .i64 ↑k)] aa ∧ Chg w.heap.size ws3.heap.size ws3 w' ∧ Own w' w.heap.size ws3.heap.size s3 intT os.length 1 (os.map (Value.int .i64)) ∧ (mm = (dg m).length - k) ∧ (k ≤ (dg m).length) ∧ (os.length = (dg m).length + (dg n).length + 1) ∧ (Lm os) ∧ (∀ i, k + (dg n).length ≤ i → os.getD i 0 = 0) ∧ (vl os = vl ((dg m).take k) * n)) (_) (fun a ha => ⟨0, List.replicate ((dg m).length + (dg n).length + 1) 0, ha.sub (Sub.cons (t := 1) rfl (.cons (t := 5) rfl (.cons (t := 19) rfl (.cons (t := 20) (look_int (t := 20) rfl (by first | omega | simp)) (.cons (t := 21) (look_int (t := 21) rfl (by first | omega | simp)) (.nil)))))), Chg.refl _ _ _, (ns3.mono (by omega) (by omega)), rfl, by omega, by simp, Lm.replicate _, fun i _ => zero_rep _ i (Nat.zero_le _), by rw [vl_replicate, List.take_zero]; simp [vl]⟩) ?_
 rintro mm aa wl7 ⟨k, os, hAwl7, cwl7, hs_s3, hm, hk, hos, hlm, hz, hv⟩
 refine (show cw Try.prog 79 _ _ _ wl7 from ?_) aa hAwl7
 clear hAwl7
 have zwl7 := cwl7.size
 have am := (Lm_dg m).getD k
 refine sx_seq fun K8 k8 => sx_region ?_
 refine sx_pure rfl rfl rfl (px_lt rfl rfl) ?_
 refine wl_nil (q_n (k8 _ _ ?_))
 refine sx_seq fun K9 k9 => ?_
 refine sx_condP rfl (fun h140 => ?_) (fun h140 => ?_)
 ·
  refine sx_skip ?_
  refine q_n (k9 _ _ ?_)
  refine sx_seq fun K10 k10 => ?_
  refine sx_block ?_
  refine sx_seq fun K11 k11 => sx_region ?_
  refine sm rfl rfl rfl rfl ?_
  have f12 := f6.chg cwl7 (by omega)
  refine sx_pure rfl rfl rfl (px_index1 (j := k) rfl rfl (by omega) Try.underlying22 Try.sizeOf3 f12 (by first | omega | (simp only [List.length_set]; omega))) ?_
  refine sx_pure rfl rfl rfl (px_load rfl (f12.load1 (at_int (by omega)) Try.isAgg3)) ?_
  refine sa rfl rfl rfl rfl ?_
  refine sa rfl rfl rfl rfl ?_
  refine wl_nil (q_n (k11 _ _ ?_))
  refine sx_seq fun K13 k13 => sx_region ?_
  refine sa rfl rfl rfl rfl ?_
  refine wl_nil (q_n (k13 _ _ ?_))
  refine sx_seq fun K14 k14 => ?_
  refine sx_seq fun K15 k15 => sx_region ?_
  refine sm rfl rfl rfl rfl ?_
  have f16 := hvb0.ext cs3
  have f17 := f16.chg cwl7 (by omega)
  refine sx_pure rfl rfl rfl (px_len rfl Try.underlying22 f17) ?_
  refine sm rfl rfl rfl rfl ?_
  refine wl_nil (q_n (k15 _ _ ?_))
  refine sx_sub (Sub.cons (t := 1) rfl (.cons (t := 5) rfl (.cons (t := 6) rfl (.cons (t := 7) rfl (.cons (t := 8) rfl (.cons (t := 19) rfl (.cons (t := 20) rfl (.cons (t := 21) rfl (.cons (t := 26) rfl (.cons (t := 27) rfl (.cons (t := 28) rfl (.nil)))))))))))) ?_
  refine sx_block ?_
  refine sx_loop (fun mm aa w' => ∃ (j : Nat) (o2 : List Int) (c : Int), Agr 79 [(1, vb), (5, s3), (6, .int .i64 ↑k), (7, .int .i64 ((dg m).getD k 0)), (8, .int .i64 c), (19, va), (20, .int .i64 (↑(dg m).length)), (21, .int .i64 ↑k), (26, vb), (27, .int .i64 (↑(dg n).length)), (28, .int .i64 ↑j)] aa ∧ Chg w.heap.size ws3.heap.size wl7 w' ∧ Own w' w.heap.size ws3.heap.size s3 intT o2.length 1 (o2.map (Value.int .i64)) ∧ (mm = (dg n).length - j) ∧ (j ≤ (dg n).length) ∧ (o2.length = (dg m).length + (dg n).length + 1) ∧ (Lm o2) ∧ (∀ i, k + (dg n).length ≤ i → o2.getD i 0 = 0) ∧ (0 ≤ c ∧ c < 1000000000) ∧ (vl o2 + Bs ^ (k + j) * c.toNat = vl os + Bs ^ k * (((dg m).getD k 0).toNat * vl ((dg n).take j)))) (_) (fun a ha => ⟨0, os, 0, ha.sub (Sub.cons (t := 1) rfl (.cons (t := 5) rfl (.cons (t := 6) rfl (.cons (t := 7) rfl (.cons (t := 8) (look_int (t := 8) rfl (by first | omega | simp)) (.cons (t := 19) rfl (.cons (t := 20) rfl (.cons (t := 21) rfl (.cons (t := 26) rfl (.cons (t := 27) (look_int (t := 27) rfl (by first | omega | simp)) (.cons (t := 28) (look_int (t := 28) rfl (by first | omega | simp)) (.nil)))))))))))), Chg.refl _ _ _, hs_s3, rfl, by omega, hos, hlm, hz, by omega, by simp [vl]⟩) ?_
  rintro mm aa wl18 ⟨j, o2, c, hAwl18, cwl18, hs_s3, hm, hj, hos2, hlm2, hz2, hc, hv2⟩
  refine (show cw Try.prog 79 _ _ _ wl18 from ?_) aa hAwl18
  clear hAwl18
  have zwl18 := cwl18.size
  have bn := (Lm_dg n).getD j
  have on := hlm2.getD (k + j)
  have hxy := mul_limb am.1 am.2 bn.1 bn.2
  refine sx_seq fun K19 k19 => sx_region ?_
  refine sx_pure rfl rfl rfl (px_lt rfl rfl) ?_
  refine wl_nil (q_n (k19 _ _ ?_))
  refine sx_seq fun K20 k20 => ?_
  refine sx_condP rfl (fun h142 => ?_) (fun h142 => ?_)
  ·
   refine sx_skip ?_
   refine q_n (k20 _ _ ?_)
   refine sx_seq fun K21 k21 => ?_
   refine sx_block ?_
   refine sx_seq fun K22 k22 => sx_region ?_
   refine sm rfl rfl rfl rfl ?_
   have f23 := f17.chg cwl18 (by omega)
   refine sx_pure rfl rfl rfl (px_index1 (j := j) rfl rfl (by omega) Try.underlying22 Try.sizeOf3 f23 (by first | omega | (simp only [List.length_set]; omega))) ?_
   refine sx_pure rfl rfl rfl (px_load rfl (f23.load1 (at_int (by omega)) Try.isAgg3)) ?_
   refine sa rfl rfl rfl rfl ?_
   refine sa rfl rfl rfl rfl ?_
   refine wl_nil (q_n (k22 _ _ ?_))
   refine sx_sub (Sub.cons (t := 1) rfl (.cons (t := 5) rfl (.cons (t := 6) rfl (.cons (t := 7) rfl (.cons (t := 8) rfl (.cons (t := 9) rfl (.cons (t := 10) rfl (.cons (t := 19) rfl (.cons (t := 20) rfl (.cons (t := 21) rfl (.cons (t := 26) rfl (.cons (t := 27) rfl (.cons (t := 28) rfl (.nil)))))))))))))) ?_
   refine sx_seq fun K24 k24 => sx_region ?_
   refine sm rfl rfl rfl rfl ?_
   refine sm rfl rfl rfl rfl ?_
   refine sm rfl rfl rfl rfl ?_
   refine sm rfl rfl rfl rfl ?_
   refine sx_pure rfl rfl rfl (px_add rfl rfl (by omega)) ?_
   refine sx_pure rfl rfl rfl (px_index1 (j := (k + j)) rfl rfl (by omega) Try.underlying22 Try.sizeOf3 hs_s3.sv (by first | omega | (simp only [List.length_set]; omega))) ?_
   refine sx_pure rfl rfl rfl (px_load rfl (hs_s3.sv.load1 (at_int (by omega)) Try.isAgg3)) ?_
   refine sm rfl rfl rfl rfl ?_
   refine sm rfl rfl rfl rfl ?_
   refine sx_pure rfl rfl rfl (px_mul rfl rfl (by omega)) ?_
   refine sx_pure rfl rfl rfl (px_add rfl rfl (by omega)) ?_
   refine sx_pure rfl rfl rfl (px_add rfl rfl (by omega)) ?_
   refine sa rfl rfl rfl rfl ?_
   refine wl_nil (q_n (k24 _ _ ?_))
   refine sx_sub (Sub.cons (t := 1) rfl (.cons (t := 5) rfl (.cons (t := 6) rfl (.cons (t := 7) rfl (.cons (t := 8) rfl (.cons (t := 9) rfl (.cons (t := 19) rfl (.cons (t := 20) rfl (.cons (t := 21) rfl (.cons (t := 26) rfl (.cons (t := 27) rfl (.cons (t := 28) rfl (.nil))))))))))))) ?_
   refine sx_seq fun K25 k25 => sx_region ?_
   refine sm rfl rfl rfl rfl ?_
   refine sm rfl rfl rfl rfl ?_
   refine sm rfl rfl rfl rfl ?_
   refine sx_pure rfl rfl rfl (px_add rfl rfl (by omega)) ?_
   refine sm rfl rfl rfl rfl ?_
   refine sx_pure rfl rfl rfl (px_rem rfl rfl (by omega) (by omega)) ?_
   refine sx_pure rfl rfl rfl (px_index1 (j := (k + j)) rfl rfl (by omega) Try.underlying22 Try.sizeOf3 hs_s3.sv (by first | omega | (simp only [List.length_set]; omega))) ?_
   refine sx_storeO rfl rfl hs_s3 (by first | omega | (simp only [List.length_map]; omega)) Try.sizeOf3 rfl (fun w26 sw26 fw26 cw26 => ?_)
   have zw26 := cw26.size
   have nw26 := fw26.set
   refine wl_nil (q_n (k25 _ _ ?_))
   refine sx_sub (Sub.cons (t := 1) rfl (.cons (t := 5) rfl (.cons (t := 6) rfl (.cons (t := 7) rfl (.cons (t := 8) rfl (.cons (t := 19) rfl (.cons (t := 20) rfl (.cons (t := 21) rfl (.cons (t := 26) rfl (.cons (t := 27) rfl (.cons (t := 28) rfl (.nil)))))))))))) ?_
   refine sx_region ?_
   refine sm rfl rfl rfl rfl ?_
   refine sx_pure rfl rfl rfl (px_quo rfl rfl (by omega) (by omega) (by omega)) ?_
   refine sa rfl rfl rfl rfl ?_
   refine wl_nil ?_
   refine q_bn (q_n (k21 _ _ ?_))
   refine sx_region ?_
   refine sx_pure rfl rfl rfl (px_add rfl rfl (by omega)) ?_
   refine sm rfl rfl rfl rfl ?_
   refine wl_nil ?_
   have q27 := Chg.step (l := w.heap.size) (h := ws3.heap.size) cwl18 cw26 (by omega)
   have hs : (c + (((o2).getD (k + j) 0) + (((dg m).getD k 0) * ((dg n).getD j 0)))) = c + (o2.getD (k + j) 0 + (dg m).getD k 0 * (dg n).getD j 0) := by omega
   have hm2 := mul_step (V := vl os) hc.1 am.1 on.1 bn.1 (by omega) (by omega) hs hv2
   exact fun a ha => ⟨_, by omega, (j + 1), ((o2).set (k + j) ((c + (((o2).getD (k + j) 0) + (((dg m).getD k 0) * ((dg n).getD j 0)))) % 1000000000)), ((c + (((o2).getD (k + j) 0) + (((dg m).getD k 0) * ((dg n).getD j 0)))) / 1000000000), ha.sub (Sub.cons (t := 1) rfl (.cons (t := 5) rfl (.cons (t := 6) rfl (.cons (t := 7) rfl (.cons (t := 8) (look_int (t := 8) rfl (by first | omega | simp)) (.cons (t := 19) rfl (.cons (t := 20) rfl (.cons (t := 21) rfl (.cons (t := 26) rfl (.cons (t := 27) rfl (.cons (t := 28) (look_int (t := 28) rfl (by first | omega | simp)) (.nil)))))))))))), q27, (nw26.mono (by omega) (by omega)), rfl, by omega, by simpa using hos2, hlm2.set _ (by omega) (by omega), zero_set' hz2 (by omega), by omega, hm2⟩
  ·
   refine sx_exit ?_
   refine q_e (q_e (q_bx (q_n (k14 _ _ ?_))))
   refine sx_seq fun K28 k28 => sx_region ?_
   refine sm rfl rfl rfl rfl ?_
   refine sm rfl rfl rfl rfl ?_
   have f29 := f17.chg cwl18 (by omega)
   refine sx_pure rfl rfl rfl (px_len rfl Try.underlying22 f29) ?_
   refine sx_pure rfl rfl rfl (px_add rfl rfl (by omega)) ?_
   refine sa rfl rfl rfl rfl ?_
   refine wl_nil (q_n (k28 _ _ ?_))
   refine sx_sub (Sub.cons (t := 1) rfl (.cons (t := 5) rfl (.cons (t := 8) rfl (.cons (t := 11) rfl (.cons (t := 19) rfl (.cons (t := 20) rfl (.cons (t := 21) rfl (.nil)))))))) ?_
   refine sx_block ?_
   have ej : j = (dg n).length := by omega
   rw [ej, List.take_length, vl_dg] at hv2
   refine sx_loop (fun mm aa w' => ∃ (q : Nat) (o3 : List Int) (e : Int), Agr 79 [(1, vb), (5, s3), (8, .int .i64 e), (11, .int .i64 ↑q), (19, va), (20, .int .i64 (↑(dg m).length)), (21, .int .i64 ↑k)] aa ∧ Chg w.heap.size ws3.heap.size wl18 w' ∧ Own w' w.heap.size ws3.heap.size s3 intT o3.length 1 (o3.map (Value.int .i64)) ∧ (mm = k + (dg n).length + 1 - q) ∧ (o3.length = (dg m).length + (dg n).length + 1) ∧ (Lm o3) ∧ (∀ i, q ≤ i → o3.getD i 0 = 0) ∧ (0 ≤ e ∧ e < 1000000000) ∧ (q = k + (dg n).length ∨ (q = k + (dg n).length + 1 ∧ e = 0)) ∧ (vl o3 + Bs ^ q * e.toNat = vl os + Bs ^ k * (((dg m).getD k 0).toNat * n))) (_) (fun a ha => ⟨(k + (dg n).length), o2, c, ha.sub (Sub.cons (t := 1) rfl (.cons (t := 5) rfl (.cons (t := 8) (look_int (t := 8) rfl (by first | omega | simp)) (.cons (t := 11) (look_int (t := 11) rfl (by first | omega | simp)) (.cons (t := 19) rfl (.cons (t := 20) rfl (.cons (t := 21) rfl (.nil)))))))), Chg.refl _ _ _, hs_s3, rfl, hos2, hlm2, hz2, by omega, .inl rfl, hv2⟩) ?_
   rintro mm aa wl30 ⟨q, o3, e, hAwl30, cwl30, hs_s3, hm, hos3, hlm3, hz3, he, hq, hv3⟩
   refine (show cw Try.prog 79 _ _ _ wl30 from ?_) aa hAwl30
   clear hAwl30
   have zwl30 := cwl30.size
   have on := hlm3.getD q
   have oz := hz3 q (Nat.le_refl _)
   refine sx_seq fun K31 k31 => ?_
   refine sx_seq fun K32 k32 => sx_region ?_
   refine sm rfl rfl rfl rfl ?_
   refine sx_pure rfl rfl rfl (px_gt rfl rfl) ?_
   refine wl_nil (q_n (k32 _ _ ?_))
   refine sx_condP rfl (fun h147 => ?_) (fun h147 => ?_)
   ·
    refine sx_skip ?_
    refine q_n (k31 _ _ ?_)
    refine sx_seq fun K33 k33 => ?_
    refine sx_block ?_
    refine sx_seq fun K34 k34 => sx_region ?_
    refine sm rfl rfl rfl rfl ?_
    refine sm rfl rfl rfl rfl ?_
    refine sm rfl rfl rfl rfl ?_
    refine sx_pure rfl rfl rfl (px_index1 (j := q) rfl rfl (by omega) Try.underlying22 Try.sizeOf3 hs_s3.sv (by first | omega | (simp only [List.length_set]; omega))) ?_
    refine sx_pure rfl rfl rfl (px_load rfl (hs_s3.sv.load1 (at_int (by omega)) Try.isAgg3)) ?_
    refine sx_pure rfl rfl rfl (px_add rfl rfl (by omega)) ?_
    refine sa rfl rfl rfl rfl ?_
    refine wl_nil (q_n (k34 _ _ ?_))
    refine sx_sub (Sub.cons (t := 1) rfl (.cons (t := 5) rfl (.cons (t := 8) rfl (.cons (t := 11) rfl (.cons (t := 19) rfl (.cons (t := 20) rfl (.cons (t := 21) rfl (.nil)))))))) ?_
    refine sx_seq fun K35 k35 => sx_region ?_
    refine sm rfl rfl rfl rfl ?_
    refine sm rfl rfl rfl rfl ?_
    refine sm rfl rfl rfl rfl ?_
    refine sx_pure rfl rfl rfl (px_rem rfl rfl (by omega) (by omega)) ?_
    refine sx_pure rfl rfl rfl (px_index1 (j := q) rfl rfl (by omega) Try.underlying22 Try.sizeOf3 hs_s3.sv (by first | omega | (simp only [List.length_set]; omega))) ?_
    refine sx_storeO rfl rfl hs_s3 (by first | omega | (simp only [List.length_map]; omega)) Try.sizeOf3 rfl (fun w36 sw36 fw36 cw36 => ?_)
    have zw36 := cw36.size
    have nw36 := fw36.set
    refine wl_nil (q_n (k35 _ _ ?_))
    refine sx_region ?_
    refine sm rfl rfl rfl rfl ?_
    refine sx_pure rfl rfl rfl (px_quo rfl rfl (by omega) (by omega) (by omega)) ?_
    refine sa rfl rfl rfl rfl ?_
    refine wl_nil ?_
    refine q_bn (q_n (k33 _ _ ?_))
    refine sx_region ?_
    refine sm rfl rfl rfl rfl ?_
    refine sx_pure rfl rfl rfl (px_add rfl rfl (by omega)) ?_
    refine sa rfl rfl rfl rfl ?_
    refine wl_nil ?_
    have q37 := Chg.step (l := w.heap.size) (h := ws3.heap.size) cwl30 cw36 (by omega)
    have hs : (e + ((o3).getD q 0)) = e + o3.getD q 0 := by omega
    have hm3 := carry_gen (by omega) he.1 on.1 hs hv3
    exact fun a ha => ⟨_, by omega, (q + 1), ((o3).set q ((e + ((o3).getD q 0)) % 1000000000)), ((e + ((o3).getD q 0)) / 1000000000), ha.sub (Sub.cons (t := 1) rfl (.cons (t := 5) rfl (.cons (t := 8) (look_int (t := 8) rfl (by first | omega | simp)) (.cons (t := 11) (look_int (t := 11) rfl (by first | omega | simp)) (.cons (t := 19) rfl (.cons (t := 20) rfl (.cons (t := 21) rfl (.nil)))))))), q37, (nw36.mono (by omega) (by omega)), rfl, by simpa using hos3, hlm3.set _ (by omega) (by omega), zero_set hz3 (by omega), by omega, .inr (by omega), hm3⟩
   ·
    refine sx_exit ?_
    refine q_e (q_e (q_bx (q_bn (q_n (k10 _ _ ?_)))))
    have e0 : e = 0 := by omega
    subst e0
    have hosR := hos3
    have hlmR := hlm3
    have hzR : ∀ i, k + (dg n).length + 1 ≤ i → o3.getD i 0 = 0 := fun i hi => hz3 i (by omega)
    have hvR : vl o3 = vl os + Bs ^ k * (((dg m).getD k 0).toNat * n) := by simpa using hv3
    refine sx_region ?_
    refine sx_pure rfl rfl rfl (px_add rfl rfl (by omega)) ?_
    refine sm rfl rfl rfl rfl ?_
    refine wl_nil ?_
    have q38 := Chg.step (l := w.heap.size) (h := ws3.heap.size) cwl7 cwl18 (by omega)
    have q39 := Chg.step (l := w.heap.size) (h := ws3.heap.size) q38 cwl30 (by omega)
    have hrow := mul_row (P := Bs ^ k) (a := ((dg m).getD k 0).toNat) hv
    rw [← vl_take_succ'] at hrow
    exact fun a ha => ⟨_, by omega, (k + 1), o3, ha.sub (Sub.cons (t := 1) rfl (.cons (t := 5) rfl (.cons (t := 19) rfl (.cons (t := 20) rfl (.cons (t := 21) (look_int (t := 21) rfl (by first | omega | simp)) (.nil)))))), q39, (hs_s3.mono (by omega) (by omega)), rfl, by omega, by simpa using hosR, hlmR, fun i hi => hzR i (by omega), hvR.trans hrow⟩
 ·
  refine sx_exit ?_
  refine q_e (q_e (q_bx (q_n (k4 _ _ ?_))))
  refine sx_seq fun K40 k40 => ?_
  have ek : k = (dg m).length := by omega
  rw [ek, List.take_length, vl_dg] at hv
  have hzz := hlm
  refine sx_region ?_
  refine sm rfl rfl rfl rfl ?_
  refine sx_call rfl rfl Try.call121 (c_trim hs_s3 (by assumption) (by first | omega | (simp only [List.length_append, List.length_set, List.length_replicate, List.length_cons, List.length_nil] at *; omega))) (fun v41 w41 p41 => ?_)
  obtain ⟨s41, rfl, os_41, c41⟩ := p41
  have zw41 := c41.size
  refine sa rfl rfl rfl rfl ?_
  refine wl_nil (q_n (k40 _ _ ?_))
  refine sx_retc ?_
  refine sx_ret1 Try.results91 rfl ?_
  have hr := os_41
  rw [hv] at hr
  have q42 := Chg.step (l := 0) (h := 0) (Chg.zero (l := 0) (h := 0) cs3) cwl7 (by omega)
  have q43 := Chg.step (l := 0) (h := 0) q42 c41 (by omega)
  exact ⟨_, rfl, hr.mono (by omega) (by omega), q43⟩

theorem c_signed {w : World} {n : Bool} {va : Value} {lva uva : Nat} {zs : List Int} (hva : Sl w lva uva va (zs)) (h63 : zs.length ≤ 4611686018427387904) :
  Ret Try.prog 90 [.bool n, va] w fun v w' => v = .agg #[.bool (nz n zs), va] ∧ Chg 0 0 w w' := by
 have hva0 := hva.fit
 refine sx_enter Try.func90 rfl Try.ntmps90 (Nat.le_of_ble_eq_true rfl) ?_
 refine sx_seq fun K1 k1 => sx_region ?_
 refine sx_alloc [.bool false, (.slice none 0 0)] rfl Try.zeroValue29 rfl (fun b2 w3 eb2 sb2 fb2 cb2 => ?_)
 have zw3 := cb2.size
 refine wl_nil (q_n (k1 _ _ ?_))
 refine sx_seq fun K4 k4 => sx_region ?_
 refine sm rfl rfl rfl rfl ?_
 refine sm rfl rfl rfl rfl ?_
 refine sx_tmpB (t := 6) rfl (fun h16 => ?_) (fun h16 => ?_)
 ·
  refine sx_guardT rfl rfl rfl ?_
  refine sm rfl rfl rfl rfl ?_
  refine sx_guardT rfl rfl rfl ?_
  have f5 := hva0.ext cb2
  refine sx_pure rfl rfl rfl (px_len rfl Try.underlying22 f5) ?_
  refine sx_guardT rfl rfl rfl ?_
  refine sx_pure rfl rfl rfl (px_gt rfl rfl) ?_
  refine sx_pure rfl rfl rfl (px_pick rfl rfl) ?_
  refine sm rfl rfl rfl rfl ?_
  refine sx_pure rfl rfl rfl (px_build rfl (xbld29x0x1 rfl f5.one _)) ?_
  refine sx_store (vs := [.bool (decide ((0 : Int) < ↑((zs).length))), va]) rfl rfl fb2 rfl Try.sizeOf29 (Nat.le_of_ble_eq_true rfl) (one_cons rfl (one_cons f5.one one_nil)) (fun w6 sw6 fw6 cw6 => ?_)
  have zw6 := cw6.size
  have gw6 : Blk w6 b2 [.bool (decide ((0 : Int) < ↑((zs).length))), va] 29 := fw6
  refine wl_nil (q_n (k4 _ _ ?_))
  refine sx_retc ?_
  refine sx_ret1 Try.results90 ⟨_, rfl, gw6.loadA (vs := [.bool (decide ((0 : Int) < ↑((zs).length))), va]) (look_lit rfl) Try.isAgg29 Try.sizeOf29⟩ ?_
  have q7 := Chg.step (l := 0) (h := 0) (Chg.zero (l := 0) (h := 0) cb2) cw6 (by omega)
  exact ⟨(by simp [nz, h16]), q7⟩
 ·
  refine sx_guardF rfl rfl rfl rfl rfl rfl ?_
  refine sx_guardF rfl rfl rfl rfl rfl rfl ?_
  refine sx_guardF rfl rfl rfl rfl rfl rfl ?_
  refine sx_pure rfl rfl rfl (px_pick rfl rfl) ?_
  refine sm rfl rfl rfl rfl ?_
  have f8 := hva0.ext cb2
  refine sx_pure rfl rfl rfl (px_build rfl (xbld29x0x1 rfl f8.one _)) ?_
  refine sx_store (vs := [.bool false, va]) rfl rfl fb2 rfl Try.sizeOf29 (Nat.le_of_ble_eq_true rfl) (one_cons rfl (one_cons f8.one one_nil)) (fun w9 sw9 fw9 cw9 => ?_)
  have zw9 := cw9.size
  have gw9 : Blk w9 b2 [.bool false, va] 29 := fw9
  refine wl_nil (q_n (k4 _ _ ?_))
  refine sx_retc ?_
  refine sx_ret1 Try.results90 ⟨_, rfl, gw9.loadA (vs := [.bool false, va]) (look_lit rfl) Try.isAgg29 Try.sizeOf29⟩ ?_
  have q10 := Chg.step (l := 0) (h := 0) (Chg.zero (l := 0) (h := 0) cb2) cw9 (by omega)
  exact ⟨(by simp [nz, h16]), q10⟩

theorem c_scaled1 {w : World} {va : Value} {lva uva : Nat} {x : Int} {p : Int} {b : Nat} {q : Int} (hva : Sl w lva uva va (dg x.natAbs)) (hb : Blk w b [.int .i64 q] intT) (hbx : (dg x.natAbs).length ≤ 50) (hp : 0 ≤ p ∧ p ≤ q ∧ q ≤ 30) :
  Ret Try.prog 107 [.agg #[.bool (ng x), va, .int .i64 p], .pointer (some ⟨b, 0, none⟩)] w fun v w' => ∃ s, v = .agg #[.bool (ng (x * tenI (q - p))), s] ∧ OwnI w' w.heap.size w'.heap.size s intT (dg (x * tenI (q - p)).natAbs) ∧ Chg 0 0 w w' := by
 have hva0 := hva.fit
 have blt := hb.lt
 have l1 := len_mul x.natAbs (10 ^ (q - p).toNat)
 have l2 := ten_len (k := q - p) (by omega)
 refine sx_enter Try.func107 rfl Try.ntmps107 (Nat.le_of_ble_eq_true rfl) ?_
 refine sx_seq fun K1 k1 => sx_region ?_
 refine sx_box [.bool (ng x), va, .int .i64 p] rfl rfl rfl (fun b2 w3 eb2 sb2 fb2 cb2 => ?_)
 have zw3 := cb2.size
 refine sx_alloc [.bool false, (.slice none 0 0)] rfl Try.zeroValue29 rfl (fun b4 w5 eb4 sb4 fb4 cb4 => ?_)
 have zw5 := cb4.size
 refine wl_nil (q_n (k1 _ _ ?_))
 refine sx_seq fun K6 k6 => ?_
 have f7 := hb.ext cb2
 have f8 := f7.ext cb4
 have f9 := fb2.ext cb4
 have f10 := hva0.ext cb2
 have f11 := f10.ext cb4
 refine dx_region (fun w' => Chg b4 (b4 + 1) w5 w') (by kernel_rfl) (Chg.zero (Chg.drew _)) ?_
 have d12 := Chg.drew w5
 have s12 : Chg b4 (b4 + 1) w5 (World.drew w5) := Chg.zero (Chg.drew _)
 have y12 : (World.drew w5).heap.size = w5.heap.size := rfl
 generalize World.drew w5 = w12 at *
 have zw12 := d12.size
 refine dx_take 0 rfl rfl rfl rfl (by kernel_rfl) (by kernel_rfl) (by kernel_rfl) s12 (fun _ hS => px_field rfl xfld31x0) ?_
 refine dx_take 1 rfl rfl rfl rfl (by kernel_rfl) (by kernel_rfl) (by kernel_rfl) s12 (fun _ hS => px_field rfl xfld29x0) ?_
 refine dx_take 2 rfl rfl rfl rfl (by kernel_rfl) (by kernel_rfl) (by kernel_rfl) s12 (fun _ hS => px_load rfl ((f9.chg hS (by omega)).load1 rfl Try.isAgg4)) ?_
 refine dx_take 3 rfl rfl rfl rfl (by kernel_rfl) (by kernel_rfl) (by kernel_rfl) s12 (fun _ hS => px_field rfl xfld31x0) ?_
 refine dx_take 4 rfl rfl rfl rfl (by kernel_rfl) (by kernel_rfl) (by kernel_rfl) s12 (fun _ hS => px_field rfl xfld29x1) ?_
 refine dx_take 5 rfl rfl rfl rfl (by kernel_rfl) (by kernel_rfl) (by kernel_rfl) s12 (fun _ hS => px_load rfl ((f9.chg hS (by omega)).load1 rfl Try.isAgg22)) ?_
 refine dx_take 6 rfl rfl rfl rfl (by kernel_rfl) (by kernel_rfl) (by kernel_rfl) s12 (fun _ hS => px_load rfl ((f8.chg hS (by omega)).load1 rfl Try.isAgg3)) ?_
 refine dx_take 7 rfl rfl rfl rfl (by kernel_rfl) (by kernel_rfl) (by kernel_rfl) s12 (fun _ hS => px_field rfl xfld31x1) ?_
 refine dx_take 8 rfl rfl rfl rfl (by kernel_rfl) (by kernel_rfl) (by kernel_rfl) s12 (fun _ hS => px_load rfl ((f9.chg hS (by omega)).load1 rfl Try.isAgg3)) ?_
 refine dx_take 9 rfl rfl rfl rfl (by kernel_rfl) (by kernel_rfl) (by kernel_rfl) s12 (fun _ hS => px_sub rfl rfl (by omega)) ?_
 refine dx_eff 10 rfl (by kernel_rfl) ?_
 refine sx_call rfl rfl Try.call97 (c_natTen (by omega)) (fun v13 w13 p13 => ?_)
 obtain ⟨s13, rfl, os_13, c13⟩ := p13
 have zw13 := c13.size
 have s14 : Chg b4 (b4 + 1) w5 w13 := (Chg.zero (l := b4) (h := (b4 + 1)) (d12.t c13))
 refine wl_nil ?_
 refine dx_next s14 ?_
 refine dx_eff 11 rfl (by kernel_rfl) ?_
 have f15 := f11.ext d12
 have f16 := f15.ext c13
 refine sx_call rfl rfl Try.call91 (c_natMul f16 os_13.sv (by omega) (by have h := ten_len (k := q - p) (by omega); omega)) (fun v17 w17 p17 => ?_)
 obtain ⟨s17, rfl, os_17, c17⟩ := p17
 have zw17 := c17.size
 have s18 : Chg b4 (b4 + 1) w5 w17 := (Chg.zero (l := b4) (h := (b4 + 1)) ((d12.t c13).t c17))
 refine wl_nil ?_
 refine dx_next s18 ?_
 refine dx_eff 12 rfl (by kernel_rfl) ?_
 refine sx_call rfl rfl Try.call90 (c_signed os_17.sv (by omega)) (fun v19 w19 p19 => ?_)
 obtain ⟨rfl, c19⟩ := p19
 have zw19 := c19.size
 have s20 : Chg b4 (b4 + 1) w5 w19 := (Chg.zero (l := b4) (h := (b4 + 1)) (((d12.t c13).t c17).t c19))
 refine wl_nil ?_
 refine dx_next s20 ?_
 refine dx_eff 13 rfl (by kernel_rfl) ?_
 have f22 := fb4.ext d12
 have f23 := f22.ext c13
 have f24 := f23.ext c17
 have f25 := f24.ext c19
 have f26 := os_17.ext c19
 refine sx_store (vs := [.bool (nz (ng x) (dg (x.natAbs * (10 ^ ((q - p)).toNat)))), v17]) rfl rfl f25 rfl Try.sizeOf29 (Nat.le_of_ble_eq_true rfl) (one_cons rfl (one_cons f26.one one_nil)) (fun w21 sw21 fw21 cw21 => ?_)
 have zw21 := cw21.size
 have gw21 : Blk w21 b4 [.bool (nz (ng x) (dg (x.natAbs * (10 ^ ((q - p)).toNat)))), v17] 29 := fw21
 have q28 := Chg.step (l := b4) (h := (b4 + 1)) (Chg.zero (l := b4) (h := (b4 + 1)) (((d12.t c13).t c17).t c19)) cw21 (by omega)
 have s27 : Chg b4 (b4 + 1) w5 w21 := q28
 refine wl_nil ?_
 refine dx_next s27 ?_
 refine dx_done (by kernel_rfl) ?_
 refine q_n (k6 _ _ ?_)
 refine sx_sub (Sub.cons (t := 3) rfl (.nil)) ?_
 refine sx_retc ?_
 refine sx_ret1 Try.results107 ⟨_, rfl, gw21.loadA (vs := [.bool (nz (ng x) (dg (x.natAbs * (10 ^ ((q - p)).toNat)))), v17]) (look_lit rfl) Try.isAgg29 Try.sizeOf29⟩ ?_
 have hh := ten_mul_sg x (q - p)
 rw [← hh.1, ← hh.2]
 have q29 := Chg.step (l := 0) (h := 0) (Chg.zero (l := 0) (h := 0) (((((cb2.t cb4).t d12).t c13).t c17).t c19)) cw21 (by omega)
 have f30 := f26.chg cw21 (by omega)
 exact ⟨_, rfl, (Own.mono f30 (by omega) (by omega)), q29⟩

theorem c_scaled {w : World} {q : Int} :
  Ret Try.prog 72 [.int .i64 q] w fun v w' => ∃ b, v = .func (.func 107) #[] #[.pointer (some ⟨b, 0, none⟩)] ∧ Blk w' b [.int .i64 (q)] intT ∧ (w.heap.size ≤ b ∧ b < w'.heap.size) ∧ Chg 0 0 w w' := by
 refine sx_enter Try.func72 rfl Try.ntmps72 (Nat.le_of_ble_eq_true rfl) ?_
 refine sx_seq fun K1 k1 => sx_region ?_
 refine sx_box [.int .i64 q] rfl rfl rfl (fun b2 w3 eb2 sb2 fb2 cb2 => ?_)
 have zw3 := cb2.size
 refine sa rfl rfl rfl rfl ?_
 refine wl_nil (q_n (k1 _ _ ?_))
 refine sx_seq fun K4 k4 => sx_region ?_
 refine sx_pure rfl rfl rfl (px_makeFunc rfl rfl) ?_
 refine sa rfl rfl rfl rfl ?_
 refine wl_nil (q_n (k4 _ _ ?_))
 refine sx_retc ?_
 refine sx_ret1 Try.results72 rfl ?_
 exact ⟨_, rfl, fb2, ⟨by omega, by omega⟩, cb2⟩

theorem c_natAdd {w : World} {va : Value} {lva uva : Nat} {m : Nat} {vb : Value} {lvb uvb : Nat} {n : Nat} (hva : Sl w lva uva va (dg m)) (hvb : Sl w lvb uvb vb (dg n)) (hbm : (dg m).length ≤ 1000) (hbn : (dg n).length ≤ 1000) :
  Ret Try.prog 112 [va, vb] w fun v w' => ∃ s, v = s ∧ OwnI w' w.heap.size w'.heap.size s intT (dg (m + n)) ∧ Chg 0 0 w w' := by
 have hva0 := hva.fit
 have hvb0 := hvb.fit
 refine sx_enter Try.func112 rfl Try.ntmps112 (Nat.le_of_ble_eq_true rfl) ?_
 refine sx_seq fun K1 k1 => sx_region ?_
 refine sa rfl rfl rfl rfl ?_
 refine wl_nil (q_n (k1 _ _ ?_))
 refine sx_seq fun K2 k2 => sx_region ?_
 refine sm rfl rfl rfl rfl ?_
 refine sx_pure rfl rfl rfl (px_len rfl Try.underlying22 hva0) ?_
 refine sm rfl rfl rfl rfl ?_
 refine sx_pure rfl rfl rfl (px_len rfl Try.underlying22 hvb0) ?_
 refine sx_pure rfl rfl rfl (px_max rfl rfl) ?_
 refine sx_pure rfl rfl rfl (px_add rfl rfl (by omega)) ?_
 refine sx_make0 (c := max (dg m).length (dg n).length + 1) rfl xelt22 rfl (look_int rfl (by omega)) (by omega) (by unfold maxLen; omega) (fun s3 ws3 fs3 cs3 ls3 => ?_)
 have zws3 := cs3.size
 refine sa rfl rfl rfl rfl ?_
 refine wl_nil (q_n (k2 _ _ ?_))
 refine sx_seq fun K4 k4 => sx_region ?_
 refine sa rfl rfl rfl rfl ?_
 refine wl_nil (q_n (k4 _ _ ?_))
 refine sx_seq fun K5 k5 => ?_
 refine sx_seq fun K6 k6 => sx_region ?_
 refine sa rfl rfl rfl rfl ?_
 refine wl_nil (q_n (k6 _ _ ?_))
 refine sx_block ?_
 refine sx_loop (fun mm aa w' => ∃ (k : Nat) (s : Value) (os : List Int) (c : Nat), Agr 56 [(0, va), (1, vb), (5, s), (6, .int .i64 ((c : Nat) : Int)), (7, .int .i64 ↑k)] aa ∧ Chg w.heap.size ws3.heap.size ws3 w' ∧ Own w' w.heap.size w'.heap.size s intT os.length 1 (os.map (Value.int .i64)) ∧ (mm = max (dg m).length (dg n).length + 1 - k) ∧ (os.length = k) ∧ (Lm os) ∧ (c ≤ 1) ∧ (k ≤ max (dg m).length (dg n).length) ∧ (vl os + Bs ^ k * c = vl ((dg m).take k) + vl ((dg n).take k))) (_) (fun a ha => ⟨0, s3, [], 0, ha.sub (Sub.cons (t := 0) rfl (.cons (t := 1) rfl (.cons (t := 5) rfl (.cons (t := 6) (look_int (t := 6) rfl (by first | omega | simp)) (.cons (t := 7) (look_int (t := 7) rfl (by first | omega | simp)) (.nil)))))), Chg.refl _ _ _, (fs3.mono (by omega) (by omega)), rfl, rfl, Lm.nil, by omega, by omega, by simp [vl]⟩) ?_
 rintro mm aa wl7 ⟨k, s, os, c, hAwl7, cwl7, hs_s, hm, hos, hlm, hc, hk, hv⟩
 refine (show cw Try.prog 56 _ _ _ wl7 from ?_) aa hAwl7
 clear hAwl7
 have zwl7 := cwl7.size
 have am := (Lm_dg m).getD k
 have bn := (Lm_dg n).getD k
 refine sx_seq fun K8 k8 => ?_
 refine sx_seq fun K9 k9 => sx_region ?_
 refine sm rfl rfl rfl rfl ?_
 refine sm rfl rfl rfl rfl ?_
 have f10 := hva0.ext cs3
 have f11 := f10.chg cwl7 (by omega)
 refine sx_pure rfl rfl rfl (px_len rfl Try.underlying22 f11) ?_
 refine sm rfl rfl rfl rfl ?_
 have f12 := hvb0.ext cs3
 have f13 := f12.chg cwl7 (by omega)
 refine sx_pure rfl rfl rfl (px_len rfl Try.underlying22 f13) ?_
 refine sx_pure rfl rfl rfl (px_max rfl rfl) ?_
 refine sx_pure rfl rfl rfl (px_lt rfl rfl) ?_
 refine wl_nil (q_n (k9 _ _ ?_))
 refine sx_condP rfl (fun h105 => ?_) (fun h105 => ?_)
 ·
  refine sx_skip ?_
  refine q_n (k8 _ _ ?_)
  refine sx_seq fun K14 k14 => ?_
  refine sx_block ?_
  refine sx_seq fun K15 k15 => ?_
  refine sx_seq fun K16 k16 => sx_region ?_
  refine sm rfl rfl rfl rfl ?_
  refine sm rfl rfl rfl rfl ?_
  refine sx_pure rfl rfl rfl (px_len rfl Try.underlying22 f11) ?_
  refine sx_pure rfl rfl rfl (px_lt rfl rfl) ?_
  refine wl_nil (q_n (k16 _ _ ?_))
  refine sx_sub (Sub.cons (t := 0) rfl (.cons (t := 1) rfl (.cons (t := 5) rfl (.cons (t := 6) rfl (.cons (t := 7) rfl (.cons (t := 27) rfl (.nil))))))) ?_
  refine sx_condP rfl (fun h106 => ?_) (fun h106 => ?_)
  ·
   refine sx_region ?_
   refine sm rfl rfl rfl rfl ?_
   refine sm rfl rfl rfl rfl ?_
   refine sm rfl rfl rfl rfl ?_
   refine sx_pure rfl rfl rfl (px_index1 (j := k) rfl rfl (by omega) Try.underlying22 Try.sizeOf3 f11 (by omega)) ?_
   refine sx_pure rfl rfl rfl (px_load rfl (f11.load1 (at_int (by omega)) Try.isAgg3)) ?_
   refine sx_pure rfl rfl rfl (px_add rfl rfl (by omega)) ?_
   refine sa rfl rfl rfl rfl ?_
   refine wl_nil (q_n (k15 _ _ ?_))
   refine sx_seq fun K17 k17 => ?_
   refine sx_seq fun K18 k18 => sx_region ?_
   refine sm rfl rfl rfl rfl ?_
   refine sm rfl rfl rfl rfl ?_
   refine sx_pure rfl rfl rfl (px_len rfl Try.underlying22 f13) ?_
   refine sx_pure rfl rfl rfl (px_lt rfl rfl) ?_
   refine wl_nil (q_n (k18 _ _ ?_))
   refine sx_sub (Sub.cons (t := 0) rfl (.cons (t := 1) rfl (.cons (t := 5) rfl (.cons (t := 6) rfl (.cons (t := 7) rfl (.cons (t := 37) rfl (.nil))))))) ?_
   refine sx_condP rfl (fun h109 => ?_) (fun h109 => ?_)
   ·
    refine sx_region ?_
    refine sm rfl rfl rfl rfl ?_
    refine sm rfl rfl rfl rfl ?_
    refine sm rfl rfl rfl rfl ?_
    refine sx_pure rfl rfl rfl (px_index1 (j := k) rfl rfl (by omega) Try.underlying22 Try.sizeOf3 f13 (by omega)) ?_
    refine sx_pure rfl rfl rfl (px_load rfl (f13.load1 (at_int (by omega)) Try.isAgg3)) ?_
    refine sx_pure rfl rfl rfl (px_add rfl rfl (by omega)) ?_
    refine sa rfl rfl rfl rfl ?_
    refine wl_nil (q_n (k17 _ _ ?_))
    refine sx_seq fun K19 k19 => sx_region ?_
    refine sm rfl rfl rfl rfl ?_
    refine sm rfl rfl rfl rfl ?_
    refine sx_pure rfl rfl rfl (px_rem rfl rfl (by omega) (by omega)) ?_
    refine sx_lit1 rfl xelt22 rfl rfl (fun s20 ws20 ss20 fs20 cs20 => ?_)
    have ns20 := Own.norm (f := (Value.int .i64)) (zs := [((((c : Nat) : Int) + ((dg m).getD k 0)) + ((dg n).getD k 0)) % 1000000000]) fs20
    have zws20 := cs20.size
    have f22 := hs_s.ext cs20
    refine sx_append rfl xelt22 rfl rfl f22 ns20.sv one_int (by omega) (by simp only [List.length_cons, List.length_nil]; omega) (by unfold maxLen; simp only [List.length_cons, List.length_nil]; omega) (fun a21 w21 fw21 cw21 => ?_)
    have nw21 := Own.app (f := (Value.int .i64)) (a := os) (b := [((((c : Nat) : Int) + ((dg m).getD k 0)) + ((dg n).getD k 0)) % 1000000000]) fw21
    have zw21 := cw21.size
    refine sa rfl rfl rfl rfl ?_
    refine wl_nil (q_n (k19 _ _ ?_))
    refine sx_sub (Sub.cons (t := 0) rfl (.cons (t := 1) rfl (.cons (t := 5) rfl (.cons (t := 6) rfl (.cons (t := 7) rfl (.nil)))))) ?_
    refine sx_region ?_
    refine sm rfl rfl rfl rfl ?_
    refine sx_pure rfl rfl rfl (px_quo rfl rfl (by omega) (by omega) (by omega)) ?_
    refine sa rfl rfl rfl rfl ?_
    refine wl_nil ?_
    refine q_bn (q_n (k14 _ _ ?_))
    refine sx_region ?_
    refine sm rfl rfl rfl rfl ?_
    refine sx_pure rfl rfl rfl (px_add rfl rfl (by omega)) ?_
    refine sa rfl rfl rfl rfl ?_
    refine wl_nil ?_
    have q23 := Chg.step (l := w.heap.size) (h := ws3.heap.size) cwl7 cs20 (by omega)
    have q24 := Chg.step (l := w.heap.size) (h := ws3.heap.size) q23 cw21 (by omega)
    have hs : (((((c : Nat) : Int) + ((dg m).getD k 0)) + ((dg n).getD k 0)) : Int) = ((c : Nat) : Int) + (((dg m).getD k 0).toNat : Nat) + (((dg n).getD k 0).toNat : Nat) := by omega
    have hv2 : vl (os ++ [(((((c : Nat) : Int) + ((dg m).getD k 0)) + ((dg n).getD k 0))) % 1000000000]) + Bs ^ (k + 1) * ((((((c : Nat) : Int) + ((dg m).getD k 0)) + ((dg n).getD k 0))) / 1000000000 : Int).toNat = vl ((dg m).take (k + 1)) + vl ((dg n).take (k + 1)) := by
     rw [vl_concat, hos, vl_take_succ', vl_take_succ', Nat.pow_succ]
     exact add_step hs hv
    have hX := mod_bd (s := ((((c : Nat) : Int) + ((dg m).getD k 0)) + ((dg n).getD k 0))) (by omega)
    exact fun a ha => ⟨_, by omega, (k + 1), a21, (os ++ ([((((c : Nat) : Int) + ((dg m).getD k 0)) + ((dg n).getD k 0)) % 1000000000])), ((((((c : Nat) : Int) + ((dg m).getD k 0)) + ((dg n).getD k 0))) / 1000000000 : Int).toNat, ha.sub (Sub.cons (t := 0) rfl (.cons (t := 1) rfl (.cons (t := 5) rfl (.cons (t := 6) (look_int (t := 6) rfl (by first | omega | simp)) (.cons (t := 7) (look_int (t := 7) rfl (by first | omega | simp)) (.nil)))))), q24, (nw21.mono (by omega) (by omega)), rfl, by simp [hos], hlm.append (Lm.single hX.1 hX.2), by omega, by omega, hv2⟩
   ·
    have gn := getD_ge (zs := dg n) (k := k) (by omega)
    refine sx_skip ?_
    refine q_n (k17 _ _ ?_)
    refine sx_seq fun K25 k25 => sx_region ?_
    refine sm rfl rfl rfl rfl ?_
    refine sm rfl rfl rfl rfl ?_
    refine sx_pure rfl rfl rfl (px_rem rfl rfl (by omega) (by omega)) ?_
    refine sx_lit1 rfl xelt22 rfl rfl (fun s26 ws26 ss26 fs26 cs26 => ?_)
    have ns26 := Own.norm (f := (Value.int .i64)) (zs := [(((c : Nat) : Int) + ((dg m).getD k 0)) % 1000000000]) fs26
    have zws26 := cs26.size
    have f28 := hs_s.ext cs26
    refine sx_append rfl xelt22 rfl rfl f28 ns26.sv one_int (by omega) (by simp only [List.length_cons, List.length_nil]; omega) (by unfold maxLen; simp only [List.length_cons, List.length_nil]; omega) (fun a27 w27 fw27 cw27 => ?_)
    have nw27 := Own.app (f := (Value.int .i64)) (a := os) (b := [(((c : Nat) : Int) + ((dg m).getD k 0)) % 1000000000]) fw27
    have zw27 := cw27.size
    refine sa rfl rfl rfl rfl ?_
    refine wl_nil (q_n (k25 _ _ ?_))
    refine sx_region ?_
    refine sm rfl rfl rfl rfl ?_
    refine sx_pure rfl rfl rfl (px_quo rfl rfl (by omega) (by omega) (by omega)) ?_
    refine sa rfl rfl rfl rfl ?_
    refine wl_nil ?_
    refine q_bn (q_n (k14 _ _ ?_))
    refine sx_region ?_
    refine sm rfl rfl rfl rfl ?_
    refine sx_pure rfl rfl rfl (px_add rfl rfl (by omega)) ?_
    refine sa rfl rfl rfl rfl ?_
    refine wl_nil ?_
    have q29 := Chg.step (l := w.heap.size) (h := ws3.heap.size) cwl7 cs26 (by omega)
    have q30 := Chg.step (l := w.heap.size) (h := ws3.heap.size) q29 cw27 (by omega)
    have hs : ((((c : Nat) : Int) + ((dg m).getD k 0)) : Int) = ((c : Nat) : Int) + (((dg m).getD k 0).toNat : Nat) + (((dg n).getD k 0).toNat : Nat) := by omega
    have hv2 : vl (os ++ [((((c : Nat) : Int) + ((dg m).getD k 0))) % 1000000000]) + Bs ^ (k + 1) * (((((c : Nat) : Int) + ((dg m).getD k 0))) / 1000000000 : Int).toNat = vl ((dg m).take (k + 1)) + vl ((dg n).take (k + 1)) := by
     rw [vl_concat, hos, vl_take_succ', vl_take_succ', Nat.pow_succ]
     exact add_step hs hv
    have hX := mod_bd (s := (((c : Nat) : Int) + ((dg m).getD k 0))) (by omega)
    exact fun a ha => ⟨_, by omega, (k + 1), a27, (os ++ ([(((c : Nat) : Int) + ((dg m).getD k 0)) % 1000000000])), (((((c : Nat) : Int) + ((dg m).getD k 0))) / 1000000000 : Int).toNat, ha.sub (Sub.cons (t := 0) rfl (.cons (t := 1) rfl (.cons (t := 5) rfl (.cons (t := 6) (look_int (t := 6) rfl (by first | omega | simp)) (.cons (t := 7) (look_int (t := 7) rfl (by first | omega | simp)) (.nil)))))), q30, (nw27.mono (by omega) (by omega)), rfl, by simp [hos], hlm.append (Lm.single hX.1 hX.2), by omega, by omega, hv2⟩
  ·
   have gm := getD_ge (zs := dg m) (k := k) (by omega)
   refine sx_skip ?_
   refine q_n (k15 _ _ ?_)
   refine sx_seq fun K31 k31 => ?_
   refine sx_seq fun K32 k32 => sx_region ?_
   refine sm rfl rfl rfl rfl ?_
   refine sm rfl rfl rfl rfl ?_
   refine sx_pure rfl rfl rfl (px_len rfl Try.underlying22 f13) ?_
   refine sx_pure rfl rfl rfl (px_lt rfl rfl) ?_
   refine wl_nil (q_n (k32 _ _ ?_))
   refine sx_condP rfl (fun h109 => ?_) (fun h109 => ?_)
   ·
    refine sx_region ?_
    refine sm rfl rfl rfl rfl ?_
    refine sm rfl rfl rfl rfl ?_
    refine sm rfl rfl rfl rfl ?_
    refine sx_pure rfl rfl rfl (px_index1 (j := k) rfl rfl (by omega) Try.underlying22 Try.sizeOf3 f13 (by omega)) ?_
    refine sx_pure rfl rfl rfl (px_load rfl (f13.load1 (at_int (by omega)) Try.isAgg3)) ?_
    refine sx_pure rfl rfl rfl (px_add rfl rfl (by omega)) ?_
    refine sa rfl rfl rfl rfl ?_
    refine wl_nil (q_n (k31 _ _ ?_))
    refine sx_sub (Sub.cons (t := 0) rfl (.cons (t := 1) rfl (.cons (t := 5) rfl (.cons (t := 6) rfl (.cons (t := 7) rfl (.nil)))))) ?_
    refine sx_seq fun K33 k33 => sx_region ?_
    refine sm rfl rfl rfl rfl ?_
    refine sm rfl rfl rfl rfl ?_
    refine sx_pure rfl rfl rfl (px_rem rfl rfl (by omega) (by omega)) ?_
    refine sx_lit1 rfl xelt22 rfl rfl (fun s34 ws34 ss34 fs34 cs34 => ?_)
    have ns34 := Own.norm (f := (Value.int .i64)) (zs := [(((c : Nat) : Int) + ((dg n).getD k 0)) % 1000000000]) fs34
    have zws34 := cs34.size
    have f36 := hs_s.ext cs34
    refine sx_append rfl xelt22 rfl rfl f36 ns34.sv one_int (by omega) (by simp only [List.length_cons, List.length_nil]; omega) (by unfold maxLen; simp only [List.length_cons, List.length_nil]; omega) (fun a35 w35 fw35 cw35 => ?_)
    have nw35 := Own.app (f := (Value.int .i64)) (a := os) (b := [(((c : Nat) : Int) + ((dg n).getD k 0)) % 1000000000]) fw35
    have zw35 := cw35.size
    refine sa rfl rfl rfl rfl ?_
    refine wl_nil (q_n (k33 _ _ ?_))
    refine sx_region ?_
    refine sm rfl rfl rfl rfl ?_
    refine sx_pure rfl rfl rfl (px_quo rfl rfl (by omega) (by omega) (by omega)) ?_
    refine sa rfl rfl rfl rfl ?_
    refine wl_nil ?_
    refine q_bn (q_n (k14 _ _ ?_))
    refine sx_region ?_
    refine sm rfl rfl rfl rfl ?_
    refine sx_pure rfl rfl rfl (px_add rfl rfl (by omega)) ?_
    refine sa rfl rfl rfl rfl ?_
    refine wl_nil ?_
    have q37 := Chg.step (l := w.heap.size) (h := ws3.heap.size) cwl7 cs34 (by omega)
    have q38 := Chg.step (l := w.heap.size) (h := ws3.heap.size) q37 cw35 (by omega)
    have hs : ((((c : Nat) : Int) + ((dg n).getD k 0)) : Int) = ((c : Nat) : Int) + (((dg m).getD k 0).toNat : Nat) + (((dg n).getD k 0).toNat : Nat) := by omega
    have hv2 : vl (os ++ [((((c : Nat) : Int) + ((dg n).getD k 0))) % 1000000000]) + Bs ^ (k + 1) * (((((c : Nat) : Int) + ((dg n).getD k 0))) / 1000000000 : Int).toNat = vl ((dg m).take (k + 1)) + vl ((dg n).take (k + 1)) := by
     rw [vl_concat, hos, vl_take_succ', vl_take_succ', Nat.pow_succ]
     exact add_step hs hv
    have hX := mod_bd (s := (((c : Nat) : Int) + ((dg n).getD k 0))) (by omega)
    exact fun a ha => ⟨_, by omega, (k + 1), a35, (os ++ ([(((c : Nat) : Int) + ((dg n).getD k 0)) % 1000000000])), (((((c : Nat) : Int) + ((dg n).getD k 0))) / 1000000000 : Int).toNat, ha.sub (Sub.cons (t := 0) rfl (.cons (t := 1) rfl (.cons (t := 5) rfl (.cons (t := 6) (look_int (t := 6) rfl (by first | omega | simp)) (.cons (t := 7) (look_int (t := 7) rfl (by first | omega | simp)) (.nil)))))), q38, (nw35.mono (by omega) (by omega)), rfl, by simp [hos], hlm.append (Lm.single hX.1 hX.2), by omega, by omega, hv2⟩
   ·
    have gn := getD_ge (zs := dg n) (k := k) (by omega)
    refine sx_skip ?_
    refine q_n (k31 _ _ ?_)
    refine sx_seq fun K39 k39 => sx_region ?_
    refine sm rfl rfl rfl rfl ?_
    refine sm rfl rfl rfl rfl ?_
    refine sx_pure rfl rfl rfl (px_rem rfl rfl (by omega) (by omega)) ?_
    refine sx_lit1 rfl xelt22 rfl rfl (fun s40 ws40 ss40 fs40 cs40 => ?_)
    have ns40 := Own.norm (f := (Value.int .i64)) (zs := [((c : Nat) : Int) % 1000000000]) fs40
    have zws40 := cs40.size
    have f42 := hs_s.ext cs40
    refine sx_append rfl xelt22 rfl rfl f42 ns40.sv one_int (by omega) (by simp only [List.length_cons, List.length_nil]; omega) (by unfold maxLen; simp only [List.length_cons, List.length_nil]; omega) (fun a41 w41 fw41 cw41 => ?_)
    have nw41 := Own.app (f := (Value.int .i64)) (a := os) (b := [((c : Nat) : Int) % 1000000000]) fw41
    have zw41 := cw41.size
    refine sa rfl rfl rfl rfl ?_
    refine wl_nil (q_n (k39 _ _ ?_))
    refine sx_sub (Sub.cons (t := 0) rfl (.cons (t := 1) rfl (.cons (t := 5) rfl (.cons (t := 6) rfl (.cons (t := 7) rfl (.nil)))))) ?_
    refine sx_region ?_
    refine sm rfl rfl rfl rfl ?_
    refine sx_pure rfl rfl rfl (px_quo rfl rfl (by omega) (by omega) (by omega)) ?_
    refine sa rfl rfl rfl rfl ?_
    refine wl_nil ?_
    refine q_bn (q_n (k14 _ _ ?_))
    refine sx_region ?_
    refine sm rfl rfl rfl rfl ?_
    refine sx_pure rfl rfl rfl (px_add rfl rfl (by omega)) ?_
    refine sa rfl rfl rfl rfl ?_
    refine wl_nil ?_
    have q43 := Chg.step (l := w.heap.size) (h := ws3.heap.size) cwl7 cs40 (by omega)
    have q44 := Chg.step (l := w.heap.size) (h := ws3.heap.size) q43 cw41 (by omega)
    have hs : (((c : Nat) : Int) : Int) = ((c : Nat) : Int) + (((dg m).getD k 0).toNat : Nat) + (((dg n).getD k 0).toNat : Nat) := by omega
    have hv2 : vl (os ++ [(((c : Nat) : Int)) % 1000000000]) + Bs ^ (k + 1) * ((((c : Nat) : Int)) / 1000000000 : Int).toNat = vl ((dg m).take (k + 1)) + vl ((dg n).take (k + 1)) := by
     rw [vl_concat, hos, vl_take_succ', vl_take_succ', Nat.pow_succ]
     exact add_step hs hv
    have hX := mod_bd (s := ((c : Nat) : Int)) (by omega)
    exact fun a ha => ⟨_, by omega, (k + 1), a41, (os ++ ([((c : Nat) : Int) % 1000000000])), ((((c : Nat) : Int)) / 1000000000 : Int).toNat, ha.sub (Sub.cons (t := 0) rfl (.cons (t := 1) rfl (.cons (t := 5) rfl (.cons (t := 6) (look_int (t := 6) rfl (by first | omega | simp)) (.cons (t := 7) (look_int (t := 7) rfl (by first | omega | simp)) (.nil)))))), q44, (nw41.mono (by omega) (by omega)), rfl, by simp [hos], hlm.append (Lm.single hX.1 hX.2), by omega, by omega, hv2⟩
 ·
  refine sx_exit ?_
  refine q_e (q_e (q_bx (q_n (k5 _ _ ?_))))
  refine sx_seq fun K45 k45 => ?_
  have ek : k = max (dg m).length (dg n).length := by omega
  have hz : Lm (os ++ [((c : Nat) : Int)]) := hlm.append (Lm.single (by omega) (by omega))
  have hvv : vl (os ++ [((c : Nat) : Int)]) = m + n := by rw [vl_concat, hos, Int.toNat_natCast, hv, vl_take_ge (by omega), vl_take_ge (by omega), vl_dg, vl_dg]
  refine sx_region ?_
  refine sm rfl rfl rfl rfl ?_
  refine sm rfl rfl rfl rfl ?_
  refine sx_lit1 rfl xelt22 rfl rfl (fun s46 ws46 ss46 fs46 cs46 => ?_)
  have ns46 := Own.norm (f := (Value.int .i64)) (zs := [((c : Nat) : Int)]) fs46
  have zws46 := cs46.size
  have f48 := hs_s.ext cs46
  refine sx_append rfl xelt22 rfl rfl f48 ns46.sv one_int (by omega) (by simp only [List.length_cons, List.length_nil]; omega) (by unfold maxLen; simp only [List.length_cons, List.length_nil]; omega) (fun a47 w47 fw47 cw47 => ?_)
  have nw47 := Own.app (f := (Value.int .i64)) (a := os) (b := [((c : Nat) : Int)]) fw47
  have zw47 := cw47.size
  refine sx_call rfl rfl Try.call121 (c_trim nw47 (by assumption) (by first | omega | (simp only [List.length_append, List.length_set, List.length_replicate, List.length_cons, List.length_nil] at *; omega))) (fun v49 w49 p49 => ?_)
  obtain ⟨s49, rfl, os_49, c49⟩ := p49
  have zw49 := c49.size
  refine sa rfl rfl rfl rfl ?_
  refine wl_nil (q_n (k45 _ _ ?_))
  refine sx_sub (Sub.cons (t := 4) rfl (.nil)) ?_
  refine sx_retc ?_
  refine sx_ret1 Try.results112 rfl ?_
  have hr := os_49
  rw [hvv] at hr
  have q50 := Chg.step (l := 0) (h := 0) (Chg.zero (l := 0) (h := 0) cs3) cwl7 (by omega)
  have q51 := Chg.step (l := 0) (h := 0) q50 cs46 (by omega)
  have q52 := Chg.step (l := 0) (h := 0) q51 cw47 (by omega)
  have q53 := Chg.step (l := 0) (h := 0) q52 c49 (by omega)
  exact ⟨_, rfl, hr.mono (by omega) (by omega), q53⟩

theorem c_natCmp {w : World} {va : Value} {lva uva : Nat} {zs : List Int} {vb : Value} {lvb uvb : Nat} {ys : List Int} (hva : Sl w lva uva va (zs)) (hvb : Sl w lvb uvb vb (ys)) (h63 : zs.length ≤ 4611686018427387904 ∧ ys.length ≤ 4611686018427387904) :
  Ret Try.prog 113 [va, vb] w fun v w' => v = .int .i64 (cmpL zs ys) ∧ Chg 0 0 w w' := by
 have hva0 := hva.fit
 have hvb0 := hvb.fit
 have zs0 : zs.drop zs.length = [] := by simp
 have ys0 : ys.drop ys.length = [] := by simp
 refine sx_enter Try.func113 rfl Try.ntmps113 (Nat.le_of_ble_eq_true rfl) ?_
 refine sx_seq fun K1 k1 => sx_region ?_
 refine sa rfl rfl rfl rfl ?_
 refine wl_nil (q_n (k1 _ _ ?_))
 refine sx_seq fun K2 k2 => ?_
 refine sx_seq fun K3 k3 => sx_region ?_
 refine sm rfl rfl rfl rfl ?_
 refine sx_pure rfl rfl rfl (px_len rfl Try.underlying22 hva0) ?_
 refine sm rfl rfl rfl rfl ?_
 refine sx_pure rfl rfl rfl (px_len rfl Try.underlying22 hvb0) ?_
 refine sx_pure rfl rfl rfl (px_ne rfl rfl) ?_
 refine wl_nil (q_n (k3 _ _ ?_))
 refine sx_condP rfl (fun h76 => ?_) (fun h76 => ?_)
 ·
  refine sx_seq fun K4 k4 => ?_
  refine sx_seq fun K5 k5 => sx_region ?_
  refine sm rfl rfl rfl rfl ?_
  refine sx_pure rfl rfl rfl (px_len rfl Try.underlying22 hva0) ?_
  refine sm rfl rfl rfl rfl ?_
  refine sx_pure rfl rfl rfl (px_len rfl Try.underlying22 hvb0) ?_
  refine sx_pure rfl rfl rfl (px_lt rfl rfl) ?_
  refine wl_nil (q_n (k5 _ _ ?_))
  refine sx_condP rfl (fun h77 => ?_) (fun h77 => ?_)
  ·
   refine sx_seq fun K6 k6 => sx_region ?_
   refine sa rfl rfl rfl rfl ?_
   refine wl_nil (q_n (k6 _ _ ?_))
   refine sx_retc ?_
   refine q_r (q_r (sx_ret1 Try.results113 rfl ?_))
   exact ⟨iEq (cmpL_short (by omega)).symm, (Chg.refl 0 0 _)⟩
  ·
   refine sx_skip ?_
   refine q_n (k4 _ _ ?_)
   refine sx_seq fun K7 k7 => sx_region ?_
   refine sa rfl rfl rfl rfl ?_
   refine wl_nil (q_n (k7 _ _ ?_))
   refine sx_retc ?_
   refine q_r (sx_ret1 Try.results113 rfl ?_)
   exact ⟨iEq (cmpL_long (by omega)).symm, (Chg.refl 0 0 _)⟩
 ·
  refine sx_skip ?_
  refine q_n (k2 _ _ ?_)
  refine sx_seq fun K8 k8 => ?_
  refine sx_seq fun K9 k9 => sx_region ?_
  refine sm rfl rfl rfl rfl ?_
  refine sx_pure rfl rfl rfl (px_len rfl Try.underlying22 hva0) ?_
  refine sx_pure rfl rfl rfl (px_sub rfl rfl (by omega)) ?_
  refine sa rfl rfl rfl rfl ?_
  refine wl_nil (q_n (k9 _ _ ?_))
  refine sx_block ?_
  have e00 : zs.length = ys.length := by omega
  have he0 : zs.drop zs.length = ys.drop zs.length := by rw [zs0, e00, ys0]
  refine sx_loop (fun mm aa w' => ∃ (k : Nat), Agr 41 [(0, va), (1, vb), (5, .int .i64 (↑k - 1))] aa ∧ Chg 0 0 w w' ∧ (mm = k) ∧ (k ≤ zs.length) ∧ (zs.drop k = ys.drop k)) (_) (fun a ha => ⟨zs.length, ha.sub (Sub.cons (t := 0) rfl (.cons (t := 1) rfl (.cons (t := 5) (look_int (t := 5) rfl (by first | omega | simp)) (.nil)))), Chg.refl _ _ _, rfl, by omega, he0⟩) ?_
  rintro mm aa wl10 ⟨k, hAwl10, cwl10, hm, hk, he⟩
  refine (show cw Try.prog 41 _ _ _ wl10 from ?_) aa hAwl10
  clear hAwl10
  have zwl10 := cwl10.size
  have hl : zs.length = ys.length := by omega
  refine sx_seq fun K11 k11 => ?_
  refine sx_seq fun K12 k12 => sx_region ?_
  refine sm rfl rfl rfl rfl ?_
  refine sx_pure rfl rfl rfl (px_ge rfl rfl) ?_
  refine wl_nil (q_n (k12 _ _ ?_))
  refine sx_condP rfl (fun h82 => ?_) (fun h82 => ?_)
  ·
   refine sx_skip ?_
   refine q_n (k11 _ _ ?_)
   refine sx_seq fun K13 k13 => ?_
   refine sx_block ?_
   refine sx_seq fun K14 k14 => ?_
   have f15 := hva0.ext cwl10
   have f16 := hvb0.ext cwl10
   refine dx_region (fun w' => Chg 0 0 wl10 w') (by kernel_rfl) (Chg.zero (Chg.drew _)) ?_
   have d17 := Chg.drew wl10
   have s17 : Chg 0 0 wl10 (World.drew wl10) := Chg.zero (Chg.drew _)
   have y17 : (World.drew wl10).heap.size = wl10.heap.size := rfl
   generalize World.drew wl10 = w17 at *
   have zw17 := d17.size
   refine dx_take 0 rfl rfl rfl rfl (by kernel_rfl) (by kernel_rfl) (by kernel_rfl) s17 (fun _ hS => px_move rfl) ?_
   refine dx_take 1 rfl rfl rfl rfl (by kernel_rfl) (by kernel_rfl) (by kernel_rfl) s17 (fun _ hS => px_move rfl) ?_
   refine dx_take 2 rfl rfl rfl rfl (by kernel_rfl) (by kernel_rfl) (by kernel_rfl) s17 (fun _ hS => px_index1 (j := (k - 1)) rfl rfl (by omega) Try.underlying22 Try.sizeOf3 ((f15).chg hS (by omega)) (by omega)) ?_
   refine dx_take 3 rfl rfl rfl rfl (by kernel_rfl) (by kernel_rfl) (by kernel_rfl) s17 (fun _ hS => px_load rfl (((f15).chg hS (by omega)).load1 (at_int (by omega)) Try.isAgg3)) ?_
   refine dx_take 4 rfl rfl rfl rfl (by kernel_rfl) (by kernel_rfl) (by kernel_rfl) s17 (fun _ hS => px_move rfl) ?_
   refine dx_take 5 rfl rfl rfl rfl (by kernel_rfl) (by kernel_rfl) (by kernel_rfl) s17 (fun _ hS => px_move rfl) ?_
   refine dx_take 6 rfl rfl rfl rfl (by kernel_rfl) (by kernel_rfl) (by kernel_rfl) s17 (fun _ hS => px_index1 (j := (k - 1)) rfl rfl (by omega) Try.underlying22 Try.sizeOf3 ((f16).chg hS (by omega)) (by omega)) ?_
   refine dx_take 7 rfl rfl rfl rfl (by kernel_rfl) (by kernel_rfl) (by kernel_rfl) s17 (fun _ hS => px_load rfl (((f16).chg hS (by omega)).load1 (at_int (by omega)) Try.isAgg3)) ?_
   refine dx_take 8 rfl rfl rfl rfl (by kernel_rfl) (by kernel_rfl) (by kernel_rfl) s17 (fun _ hS => px_ne rfl rfl) ?_
   refine dx_done (by kernel_rfl) ?_
   refine q_n (k14 _ _ ?_)
   refine sx_condP rfl (fun h83 => ?_) (fun h83 => ?_)
   ·
    refine sx_seq fun K18 k18 => ?_
    refine sx_seq fun K19 k19 => ?_
    have f20 := f15.ext d17
    have f21 := f16.ext d17
    refine dx_region (fun w' => Chg 0 0 w17 w') (by kernel_rfl) (Chg.zero (Chg.drew _)) ?_
    have d22 := Chg.drew w17
    have s22 : Chg 0 0 w17 (World.drew w17) := Chg.zero (Chg.drew _)
    have y22 : (World.drew w17).heap.size = w17.heap.size := rfl
    generalize World.drew w17 = w22 at *
    have zw22 := d22.size
    refine dx_take 0 rfl rfl rfl rfl (by kernel_rfl) (by kernel_rfl) (by kernel_rfl) s22 (fun _ hS => px_move rfl) ?_
    refine dx_take 1 rfl rfl rfl rfl (by kernel_rfl) (by kernel_rfl) (by kernel_rfl) s22 (fun _ hS => px_move rfl) ?_
    refine dx_take 2 rfl rfl rfl rfl (by kernel_rfl) (by kernel_rfl) (by kernel_rfl) s22 (fun _ hS => px_index1 (j := (k - 1)) rfl rfl (by omega) Try.underlying22 Try.sizeOf3 ((f20).chg hS (by omega)) (by omega)) ?_
    refine dx_take 3 rfl rfl rfl rfl (by kernel_rfl) (by kernel_rfl) (by kernel_rfl) s22 (fun _ hS => px_load rfl (((f20).chg hS (by omega)).load1 (at_int (by omega)) Try.isAgg3)) ?_
    refine dx_take 4 rfl rfl rfl rfl (by kernel_rfl) (by kernel_rfl) (by kernel_rfl) s22 (fun _ hS => px_move rfl) ?_
    refine dx_take 5 rfl rfl rfl rfl (by kernel_rfl) (by kernel_rfl) (by kernel_rfl) s22 (fun _ hS => px_move rfl) ?_
    refine dx_take 6 rfl rfl rfl rfl (by kernel_rfl) (by kernel_rfl) (by kernel_rfl) s22 (fun _ hS => px_index1 (j := (k - 1)) rfl rfl (by omega) Try.underlying22 Try.sizeOf3 ((f21).chg hS (by omega)) (by omega)) ?_
    refine dx_take 7 rfl rfl rfl rfl (by kernel_rfl) (by kernel_rfl) (by kernel_rfl) s22 (fun _ hS => px_load rfl (((f21).chg hS (by omega)).load1 (at_int (by omega)) Try.isAgg3)) ?_
    refine dx_take 8 rfl rfl rfl rfl (by kernel_rfl) (by kernel_rfl) (by kernel_rfl) s22 (fun _ hS => px_lt rfl rfl) ?_
    refine dx_done (by kernel_rfl) ?_
    refine q_n (k19 _ _ ?_)
    refine sx_sub (Sub.cons (t := 0) rfl (.cons (t := 1) rfl (.cons (t := 5) rfl (.cons (t := 40) rfl (.nil))))) ?_
    refine sx_condP rfl (fun h84 => ?_) (fun h84 => ?_)
    ·
     refine sx_seq fun K23 k23 => sx_region ?_
     refine sa rfl rfl rfl rfl ?_
     refine wl_nil (q_n (k23 _ _ ?_))
     refine sx_retc ?_
     refine q_r (q_br (q_r (q_r (q_br (q_r (sx_ret1 Try.results113 rfl ?_))))))
     have hlt := cmpL_lt hl (k := k - 1) (by omega) (by rw [Nat.sub_add_cancel (by omega)]; exact he) (h84)
     exact ⟨iEq hlt.symm, ((cwl10.t d17).t d22)⟩
    ·
     refine sx_skip ?_
     refine q_n (k18 _ _ ?_)
     refine sx_seq fun K24 k24 => sx_region ?_
     refine sa rfl rfl rfl rfl ?_
     refine wl_nil (q_n (k24 _ _ ?_))
     refine sx_retc ?_
     refine q_br (q_r (q_r (q_br (q_r (sx_ret1 Try.results113 rfl ?_)))))
     have hlt := cmpL_gt hl (k := k - 1) (by omega) (by rw [Nat.sub_add_cancel (by omega)]; exact he) (by omega)
     exact ⟨iEq hlt.symm, ((cwl10.t d17).t d22)⟩
   ·
    refine sx_skip ?_
    refine q_bn (q_n (k13 _ _ ?_))
    refine sx_region ?_
    refine sm rfl rfl rfl rfl ?_
    refine sx_pure rfl rfl rfl (px_sub rfl rfl (by omega)) ?_
    refine sa rfl rfl rfl rfl ?_
    refine wl_nil ?_
    exact fun a ha => ⟨_, by omega, (k - 1), ha.sub (Sub.cons (t := 0) rfl (.cons (t := 1) rfl (.cons (t := 5) (look_int (t := 5) rfl (by first | omega | simp)) (.nil)))), (cwl10.t d17), rfl, by omega, drop_succ_eq (by omega) (by omega) (by rw [Nat.sub_add_cancel (by omega)]; exact he) (by omega)⟩
  ·
   refine sx_exit ?_
   refine q_e (q_e (q_bx (q_n (k8 _ _ ?_))))
   refine sx_seq fun K25 k25 => sx_region ?_
   refine sa rfl rfl rfl rfl ?_
   refine wl_nil (q_n (k25 _ _ ?_))
   refine sx_retc ?_
   refine sx_ret1 Try.results113 rfl ?_
   have e1 : k = 0 := by omega
   subst e1
   have e2 : zs = ys := by simpa using he
   subst e2
   exact ⟨iEq (cmpL_self zs).symm, cwl10⟩

theorem c_natSub {w : World} {va : Value} {lva uva : Nat} {m : Nat} {vb : Value} {lvb uvb : Nat} {n : Nat} (hva : Sl w lva uva va (dg m)) (hvb : Sl w lvb uvb vb (dg n)) (hbm : (dg m).length ≤ 1000) (hbn : (dg n).length ≤ 1000) (hle : n ≤ m) :
  Ret Try.prog 114 [va, vb] w fun v w' => ∃ s, v = s ∧ OwnI w' w.heap.size w'.heap.size s intT (dg (m - n)) ∧ Chg 0 0 w w' := by
 have hva0 := hva.fit
 have hvb0 := hvb.fit
 refine sx_enter Try.func114 rfl Try.ntmps114 (Nat.le_of_ble_eq_true rfl) ?_
 refine sx_seq fun K1 k1 => sx_region ?_
 refine sa rfl rfl rfl rfl ?_
 refine wl_nil (q_n (k1 _ _ ?_))
 refine sx_seq fun K2 k2 => sx_region ?_
 refine sm rfl rfl rfl rfl ?_
 refine sx_pure rfl rfl rfl (px_len rfl Try.underlying22 hva0) ?_
 refine sx_make (c := (dg m).length) rfl xelt22 (rfl) (rfl) (by omega) (by unfold maxLen; omega) (fun s3 ws3 fs3 cs3 ls3 => ?_)
 have ns3 := fs3.made
 have zws3 := cs3.size
 refine sa rfl rfl rfl rfl ?_
 refine wl_nil (q_n (k2 _ _ ?_))
 refine sx_seq fun K4 k4 => sx_region ?_
 refine sa rfl rfl rfl rfl ?_
 refine wl_nil (q_n (k4 _ _ ?_))
 refine sx_seq fun K5 k5 => ?_
 refine sx_seq fun K6 k6 => sx_region ?_
 refine sm rfl rfl rfl rfl ?_
 have f7 := hva0.ext cs3
 refine sx_pure rfl rfl rfl (px_len rfl Try.underlying22 f7) ?_
 refine sm rfl rfl rfl rfl ?_
 refine wl_nil (q_n (k6 _ _ ?_))
 refine sx_block ?_
 refine sx_loop (fun mm aa w' => ∃ (k : Nat) (os : List Int) (c : Nat), Agr 44 [(0, va), (1, vb), (5, s3), (6, .int .i64 ((c : Nat) : Int)), (13, .int .i64 (↑(dg m).length)), (14, .int .i64 ↑k)] aa ∧ Chg w.heap.size ws3.heap.size ws3 w' ∧ Own w' w.heap.size ws3.heap.size s3 intT os.length 1 (os.map (Value.int .i64)) ∧ (mm = (dg m).length - k) ∧ (os.length = (dg m).length) ∧ (Lm os) ∧ (c ≤ 1) ∧ (k ≤ (dg m).length) ∧ (vl ((dg m).take k) + Bs ^ k * c = vl (os.take k) + vl ((dg n).take k))) (_) (fun a ha => ⟨0, List.replicate (dg m).length 0, 0, ha.sub (Sub.cons (t := 0) rfl (.cons (t := 1) rfl (.cons (t := 5) rfl (.cons (t := 6) (look_int (t := 6) rfl (by first | omega | simp)) (.cons (t := 13) (look_int (t := 13) rfl (by first | omega | simp)) (.cons (t := 14) (look_int (t := 14) rfl (by first | omega | simp)) (.nil))))))), Chg.refl _ _ _, (ns3.mono (by omega) (by omega)), rfl, by simp, Lm.replicate _, by omega, by omega, by simp [vl]⟩) ?_
 rintro mm aa wl8 ⟨k, os, c, hAwl8, cwl8, hs_s3, hm, hos, hlm, hc, hk, hv⟩
 refine (show cw Try.prog 44 _ _ _ wl8 from ?_) aa hAwl8
 clear hAwl8
 have zwl8 := cwl8.size
 have am := (Lm_dg m).getD k
 have bn := (Lm_dg n).getD k
 refine sx_seq fun K9 k9 => sx_region ?_
 refine sx_pure rfl rfl rfl (px_lt rfl rfl) ?_
 refine wl_nil (q_n (k9 _ _ ?_))
 refine sx_seq fun K10 k10 => ?_
 refine sx_condP rfl (fun h122 => ?_) (fun h122 => ?_)
 ·
  refine sx_skip ?_
  refine q_n (k10 _ _ ?_)
  refine sx_seq fun K11 k11 => ?_
  refine sx_block ?_
  refine sx_seq fun K12 k12 => sx_region ?_
  refine sm rfl rfl rfl rfl ?_
  refine sa rfl rfl rfl rfl ?_
  refine wl_nil (q_n (k12 _ _ ?_))
  refine sx_seq fun K13 k13 => sx_region ?_
  refine sm rfl rfl rfl rfl ?_
  refine sm rfl rfl rfl rfl ?_
  have f14 := f7.chg cwl8 (by omega)
  refine sx_pure rfl rfl rfl (px_index1 (j := k) rfl rfl (by omega) Try.underlying22 Try.sizeOf3 f14 (by omega)) ?_
  refine sx_pure rfl rfl rfl (px_load rfl (f14.load1 (at_int (by omega)) Try.isAgg3)) ?_
  refine sm rfl rfl rfl rfl ?_
  refine sx_pure rfl rfl rfl (px_sub rfl rfl (by omega)) ?_
  refine sa rfl rfl rfl rfl ?_
  refine wl_nil (q_n (k13 _ _ ?_))
  refine sx_sub (Sub.cons (t := 0) rfl (.cons (t := 1) rfl (.cons (t := 5) rfl (.cons (t := 6) rfl (.cons (t := 7) rfl (.cons (t := 8) rfl (.cons (t := 13) rfl (.cons (t := 14) rfl (.nil))))))))) ?_
  refine sx_seq fun K15 k15 => ?_
  refine sx_seq fun K16 k16 => sx_region ?_
  refine sm rfl rfl rfl rfl ?_
  refine sm rfl rfl rfl rfl ?_
  have f17 := hvb0.ext cs3
  have f18 := f17.chg cwl8 (by omega)
  refine sx_pure rfl rfl rfl (px_len rfl Try.underlying22 f18) ?_
  refine sx_pure rfl rfl rfl (px_lt rfl rfl) ?_
  refine wl_nil (q_n (k16 _ _ ?_))
  refine sx_condP rfl (fun h124 => ?_) (fun h124 => ?_)
  ·
   refine sx_region ?_
   refine sm rfl rfl rfl rfl ?_
   refine sm rfl rfl rfl rfl ?_
   refine sm rfl rfl rfl rfl ?_
   refine sx_pure rfl rfl rfl (px_index1 (j := k) rfl rfl (by omega) Try.underlying22 Try.sizeOf3 f18 (by omega)) ?_
   refine sx_pure rfl rfl rfl (px_load rfl (f18.load1 (at_int (by omega)) Try.isAgg3)) ?_
   refine sx_pure rfl rfl rfl (px_sub rfl rfl (by omega)) ?_
   refine sa rfl rfl rfl rfl ?_
   refine wl_nil (q_n (k15 _ _ ?_))
   refine sx_sub (Sub.cons (t := 0) rfl (.cons (t := 1) rfl (.cons (t := 5) rfl (.cons (t := 6) rfl (.cons (t := 7) rfl (.cons (t := 8) rfl (.cons (t := 13) rfl (.cons (t := 14) rfl (.nil))))))))) ?_
   refine sx_seq fun K19 k19 => sx_region ?_
   refine sa rfl rfl rfl rfl ?_
   refine wl_nil (q_n (k19 _ _ ?_))
   refine sx_seq fun K20 k20 => ?_
   refine sx_seq fun K21 k21 => sx_region ?_
   refine sm rfl rfl rfl rfl ?_
   refine sx_pure rfl rfl rfl (px_lt rfl rfl) ?_
   refine wl_nil (q_n (k21 _ _ ?_))
   refine sx_condP rfl (fun h128 => ?_) (fun h128 => ?_)
   ·
    refine sx_seq fun K22 k22 => sx_region ?_
    refine sm rfl rfl rfl rfl ?_
    refine sx_pure rfl rfl rfl (px_add rfl rfl (by omega)) ?_
    refine sa rfl rfl rfl rfl ?_
    refine wl_nil (q_n (k22 _ _ ?_))
    refine sx_region ?_
    refine sa rfl rfl rfl rfl ?_
    refine wl_nil (q_n (k20 _ _ ?_))
    refine sx_region ?_
    refine sm rfl rfl rfl rfl ?_
    refine sm rfl rfl rfl rfl ?_
    refine sm rfl rfl rfl rfl ?_
    refine sx_pure rfl rfl rfl (px_index1 (j := k) rfl rfl (by omega) Try.underlying22 Try.sizeOf3 hs_s3.sv (by omega)) ?_
    refine sx_storeO rfl rfl hs_s3 (by first | omega | (simp only [List.length_map]; omega)) Try.sizeOf3 rfl (fun w23 sw23 fw23 cw23 => ?_)
    have zw23 := cw23.size
    have nw23 := fw23.set
    refine wl_nil ?_
    refine q_bn (q_n (k11 _ _ ?_))
    refine sx_sub (Sub.cons (t := 0) rfl (.cons (t := 1) rfl (.cons (t := 5) rfl (.cons (t := 6) rfl (.cons (t := 13) rfl (.cons (t := 14) rfl (.nil))))))) ?_
    refine sx_region ?_
    refine sx_pure rfl rfl rfl (px_add rfl rfl (by omega)) ?_
    refine sm rfl rfl rfl rfl ?_
    refine wl_nil ?_
    have q24 := Chg.step (l := w.heap.size) (h := ws3.heap.size) cwl8 cw23 (by omega)
    have hs : ((dg m).getD k 0).toNat + Bs * 1 = ((dg n).getD k 0).toNat + c + ((((((dg m).getD k 0) - ((c : Nat) : Int)) - ((dg n).getD k 0)) + 1000000000) : Int).toNat := by simp only [Bs]; omega
    have hv2 : vl ((dg m).take (k + 1)) + Bs ^ (k + 1) * 1 = vl ((os.set k ((((((dg m).getD k 0) - ((c : Nat) : Int)) - ((dg n).getD k 0)) + 1000000000))).take (k + 1)) + vl ((dg n).take (k + 1)) := by
     rw [vl_take_set (by omega), vl_take_succ', vl_take_succ', Nat.pow_succ]
     exact sub_step hs hv
    exact fun a ha => ⟨_, by omega, (k + 1), ((os).set k (((((dg m).getD k 0) - ((c : Nat) : Int)) - ((dg n).getD k 0)) + 1000000000)), 1, ha.sub (Sub.cons (t := 0) rfl (.cons (t := 1) rfl (.cons (t := 5) rfl (.cons (t := 6) (look_int (t := 6) rfl (by first | omega | simp)) (.cons (t := 13) rfl (.cons (t := 14) (look_int (t := 14) rfl (by first | omega | simp)) (.nil))))))), q24, (nw23.mono (by omega) (by omega)), rfl, by simp [hos], hlm.set k (by omega) (by omega), by omega, by omega, hv2⟩
   ·
    refine sx_skip ?_
    refine q_n (k20 _ _ ?_)
    refine sx_region ?_
    refine sm rfl rfl rfl rfl ?_
    refine sm rfl rfl rfl rfl ?_
    refine sm rfl rfl rfl rfl ?_
    refine sx_pure rfl rfl rfl (px_index1 (j := k) rfl rfl (by omega) Try.underlying22 Try.sizeOf3 hs_s3.sv (by omega)) ?_
    refine sx_storeO rfl rfl hs_s3 (by first | omega | (simp only [List.length_map]; omega)) Try.sizeOf3 rfl (fun w25 sw25 fw25 cw25 => ?_)
    have zw25 := cw25.size
    have nw25 := fw25.set
    refine wl_nil ?_
    refine q_bn (q_n (k11 _ _ ?_))
    refine sx_region ?_
    refine sx_pure rfl rfl rfl (px_add rfl rfl (by omega)) ?_
    refine sm rfl rfl rfl rfl ?_
    refine wl_nil ?_
    have q26 := Chg.step (l := w.heap.size) (h := ws3.heap.size) cwl8 cw25 (by omega)
    have hs : ((dg m).getD k 0).toNat + Bs * 0 = ((dg n).getD k 0).toNat + c + (((((dg m).getD k 0) - ((c : Nat) : Int)) - ((dg n).getD k 0)) : Int).toNat := by simp only [Bs]; omega
    have hv2 : vl ((dg m).take (k + 1)) + Bs ^ (k + 1) * 0 = vl ((os.set k (((((dg m).getD k 0) - ((c : Nat) : Int)) - ((dg n).getD k 0)))).take (k + 1)) + vl ((dg n).take (k + 1)) := by
     rw [vl_take_set (by omega), vl_take_succ', vl_take_succ', Nat.pow_succ]
     exact sub_step hs hv
    exact fun a ha => ⟨_, by omega, (k + 1), ((os).set k ((((dg m).getD k 0) - ((c : Nat) : Int)) - ((dg n).getD k 0))), 0, ha.sub (Sub.cons (t := 0) rfl (.cons (t := 1) rfl (.cons (t := 5) rfl (.cons (t := 6) (look_int (t := 6) rfl (by first | omega | simp)) (.cons (t := 13) rfl (.cons (t := 14) (look_int (t := 14) rfl (by first | omega | simp)) (.nil))))))), q26, (nw25.mono (by omega) (by omega)), rfl, by simp [hos], hlm.set k (by omega) (by omega), by omega, by omega, hv2⟩
  ·
   have gn := getD_ge (zs := dg n) (k := k) (by omega)
   refine sx_skip ?_
   refine q_n (k15 _ _ ?_)
   refine sx_seq fun K27 k27 => sx_region ?_
   refine sa rfl rfl rfl rfl ?_
   refine wl_nil (q_n (k27 _ _ ?_))
   refine sx_seq fun K28 k28 => ?_
   refine sx_seq fun K29 k29 => sx_region ?_
   refine sm rfl rfl rfl rfl ?_
   refine sx_pure rfl rfl rfl (px_lt rfl rfl) ?_
   refine wl_nil (q_n (k29 _ _ ?_))
   refine sx_condP rfl (fun h128 => ?_) (fun h128 => ?_)
   ·
    refine sx_seq fun K30 k30 => sx_region ?_
    refine sm rfl rfl rfl rfl ?_
    refine sx_pure rfl rfl rfl (px_add rfl rfl (by omega)) ?_
    refine sa rfl rfl rfl rfl ?_
    refine wl_nil (q_n (k30 _ _ ?_))
    refine sx_sub (Sub.cons (t := 0) rfl (.cons (t := 1) rfl (.cons (t := 5) rfl (.cons (t := 6) rfl (.cons (t := 7) rfl (.cons (t := 8) rfl (.cons (t := 13) rfl (.cons (t := 14) rfl (.nil))))))))) ?_
    refine sx_region ?_
    refine sa rfl rfl rfl rfl ?_
    refine wl_nil (q_n (k28 _ _ ?_))
    refine sx_region ?_
    refine sm rfl rfl rfl rfl ?_
    refine sm rfl rfl rfl rfl ?_
    refine sm rfl rfl rfl rfl ?_
    refine sx_pure rfl rfl rfl (px_index1 (j := k) rfl rfl (by omega) Try.underlying22 Try.sizeOf3 hs_s3.sv (by omega)) ?_
    refine sx_storeO rfl rfl hs_s3 (by first | omega | (simp only [List.length_map]; omega)) Try.sizeOf3 rfl (fun w31 sw31 fw31 cw31 => ?_)
    have zw31 := cw31.size
    have nw31 := fw31.set
    refine wl_nil ?_
    refine q_bn (q_n (k11 _ _ ?_))
    refine sx_region ?_
    refine sx_pure rfl rfl rfl (px_add rfl rfl (by omega)) ?_
    refine sm rfl rfl rfl rfl ?_
    refine wl_nil ?_
    have q32 := Chg.step (l := w.heap.size) (h := ws3.heap.size) cwl8 cw31 (by omega)
    have hs : ((dg m).getD k 0).toNat + Bs * 1 = ((dg n).getD k 0).toNat + c + (((((dg m).getD k 0) - ((c : Nat) : Int)) + 1000000000) : Int).toNat := by simp only [Bs]; omega
    have hv2 : vl ((dg m).take (k + 1)) + Bs ^ (k + 1) * 1 = vl ((os.set k (((((dg m).getD k 0) - ((c : Nat) : Int)) + 1000000000))).take (k + 1)) + vl ((dg n).take (k + 1)) := by
     rw [vl_take_set (by omega), vl_take_succ', vl_take_succ', Nat.pow_succ]
     exact sub_step hs hv
    exact fun a ha => ⟨_, by omega, (k + 1), ((os).set k ((((dg m).getD k 0) - ((c : Nat) : Int)) + 1000000000)), 1, ha.sub (Sub.cons (t := 0) rfl (.cons (t := 1) rfl (.cons (t := 5) rfl (.cons (t := 6) (look_int (t := 6) rfl (by first | omega | simp)) (.cons (t := 13) rfl (.cons (t := 14) (look_int (t := 14) rfl (by first | omega | simp)) (.nil))))))), q32, (nw31.mono (by omega) (by omega)), rfl, by simp [hos], hlm.set k (by omega) (by omega), by omega, by omega, hv2⟩
   ·
    refine sx_skip ?_
    refine q_n (k28 _ _ ?_)
    refine sx_region ?_
    refine sm rfl rfl rfl rfl ?_
    refine sm rfl rfl rfl rfl ?_
    refine sm rfl rfl rfl rfl ?_
    refine sx_pure rfl rfl rfl (px_index1 (j := k) rfl rfl (by omega) Try.underlying22 Try.sizeOf3 hs_s3.sv (by omega)) ?_
    refine sx_storeO rfl rfl hs_s3 (by first | omega | (simp only [List.length_map]; omega)) Try.sizeOf3 rfl (fun w33 sw33 fw33 cw33 => ?_)
    have zw33 := cw33.size
    have nw33 := fw33.set
    refine wl_nil ?_
    refine q_bn (q_n (k11 _ _ ?_))
    refine sx_sub (Sub.cons (t := 0) rfl (.cons (t := 1) rfl (.cons (t := 5) rfl (.cons (t := 6) rfl (.cons (t := 13) rfl (.cons (t := 14) rfl (.nil))))))) ?_
    refine sx_region ?_
    refine sx_pure rfl rfl rfl (px_add rfl rfl (by omega)) ?_
    refine sm rfl rfl rfl rfl ?_
    refine wl_nil ?_
    have q34 := Chg.step (l := w.heap.size) (h := ws3.heap.size) cwl8 cw33 (by omega)
    have hs : ((dg m).getD k 0).toNat + Bs * 0 = ((dg n).getD k 0).toNat + c + ((((dg m).getD k 0) - ((c : Nat) : Int)) : Int).toNat := by simp only [Bs]; omega
    have hv2 : vl ((dg m).take (k + 1)) + Bs ^ (k + 1) * 0 = vl ((os.set k ((((dg m).getD k 0) - ((c : Nat) : Int)))).take (k + 1)) + vl ((dg n).take (k + 1)) := by
     rw [vl_take_set (by omega), vl_take_succ', vl_take_succ', Nat.pow_succ]
     exact sub_step hs hv
    exact fun a ha => ⟨_, by omega, (k + 1), ((os).set k (((dg m).getD k 0) - ((c : Nat) : Int))), 0, ha.sub (Sub.cons (t := 0) rfl (.cons (t := 1) rfl (.cons (t := 5) rfl (.cons (t := 6) (look_int (t := 6) rfl (by first | omega | simp)) (.cons (t := 13) rfl (.cons (t := 14) (look_int (t := 14) rfl (by first | omega | simp)) (.nil))))))), q34, (nw33.mono (by omega) (by omega)), rfl, by simp [hos], hlm.set k (by omega) (by omega), by omega, by omega, hv2⟩
 ·
  refine sx_exit ?_
  refine q_e (q_e (q_bx (q_n (k5 _ _ ?_))))
  refine sx_seq fun K35 k35 => ?_
  have ek : k = (dg m).length := by omega
  have hnm := len_le hle
  subst ek
  rw [List.take_length, vl_dg, vl_take_ge (show (dg n).length ≤ (dg m).length from hnm), vl_dg, ← hos, List.take_length] at hv
  have hend := sub_end hv hle (vl_lt hlm) hc
  have hvv := hend.2
  have hz := hlm
  refine sx_region ?_
  refine sm rfl rfl rfl rfl ?_
  refine sx_call rfl rfl Try.call121 (c_trim hs_s3 (by assumption) (by first | omega | (simp only [List.length_append, List.length_set, List.length_replicate, List.length_cons, List.length_nil] at *; omega))) (fun v36 w36 p36 => ?_)
  obtain ⟨s36, rfl, os_36, c36⟩ := p36
  have zw36 := c36.size
  refine sa rfl rfl rfl rfl ?_
  refine wl_nil (q_n (k35 _ _ ?_))
  refine sx_retc ?_
  refine sx_ret1 Try.results114 rfl ?_
  have hr := os_36
  rw [hvv] at hr
  have q37 := Chg.step (l := 0) (h := 0) (Chg.zero (l := 0) (h := 0) cs3) cwl8 (by omega)
  have q38 := Chg.step (l := 0) (h := 0) q37 c36 (by omega)
  exact ⟨_, rfl, hr.mono (by omega) (by omega), q38⟩

theorem c_intAdd {w : World} {va : Value} {lva uva : Nat} {x : Int} {vb : Value} {lvb uvb : Nat} {y : Int} (hva : Sl w lva uva va (dg x.natAbs)) (hvb : Sl w lvb uvb vb (dg y.natAbs)) (hbx : (dg x.natAbs).length ≤ 1000) (hby : (dg y.natAbs).length ≤ 1000) :
  Ret Try.prog 80 [.agg #[.bool (ng x), va], .agg #[.bool (ng y), vb]] w fun v w' => ∃ s, v = .agg #[.bool (ng (x + y)), s] ∧ OwnI w' w.heap.size w'.heap.size s intT (dg (x + y).natAbs) ∧ Chg 0 0 w w' := by
 have hva0 := hva.fit
 have hvb0 := hvb.fit
 have l2 := len_add x.natAbs y.natAbs
 have l3 := len_le (Nat.sub_le x.natAbs y.natAbs)
 have l4 := len_le (Nat.sub_le y.natAbs x.natAbs)
 refine sx_enter Try.func80 rfl Try.ntmps80 (Nat.le_of_ble_eq_true rfl) ?_
 refine sx_seq fun K1 k1 => sx_region ?_
 refine sx_box [.bool (ng x), va] rfl rfl rfl (fun b2 w3 eb2 sb2 fb2 cb2 => ?_)
 have zw3 := cb2.size
 refine sx_box [.bool (ng y), vb] rfl rfl rfl (fun b4 w5 eb4 sb4 fb4 cb4 => ?_)
 have zw5 := cb4.size
 refine sx_alloc [.bool false, (.slice none 0 0)] rfl Try.zeroValue29 rfl (fun b6 w7 eb6 sb6 fb6 cb6 => ?_)
 have zw7 := cb6.size
 refine wl_nil (q_n (k1 _ _ ?_))
 refine sx_seq fun K8 k8 => ?_
 refine sx_seq fun K9 k9 => sx_region ?_
 refine sx_pure rfl rfl rfl (px_field rfl xfld29x0) ?_
 have f10 := fb2.ext cb4
 have f11 := f10.ext cb6
 refine sx_pure rfl rfl rfl (px_load rfl (f11.load1 rfl Try.isAgg4)) ?_
 refine sx_pure rfl rfl rfl (px_field rfl xfld29x0) ?_
 have f12 := fb4.ext cb6
 refine sx_pure rfl rfl rfl (px_load rfl (f12.load1 rfl Try.isAgg4)) ?_
 refine sx_pure rfl rfl rfl (px_eqB Try.underlying4 rfl rfl) ?_
 refine wl_nil (q_n (k9 _ _ ?_))
 refine sx_condB rfl (fun h46 => ?_) (fun h46 => ?_)
 ·
  refine sx_seq fun K13 k13 => ?_
  have f14 := hva0.ext cb2
  have f15 := f14.ext cb4
  have f16 := f15.ext cb6
  have f17 := hvb0.ext cb2
  have f18 := f17.ext cb4
  have f19 := f18.ext cb6
  refine dx_region (fun w' => Chg b6 (b6 + 1) w7 w') (by kernel_rfl) (Chg.zero (Chg.drew _)) ?_
  have d20 := Chg.drew w7
  have s20 : Chg b6 (b6 + 1) w7 (World.drew w7) := Chg.zero (Chg.drew _)
  have y20 : (World.drew w7).heap.size = w7.heap.size := rfl
  generalize World.drew w7 = w20 at *
  have zw20 := d20.size
  refine dx_take 0 rfl rfl rfl rfl (by kernel_rfl) (by kernel_rfl) (by kernel_rfl) s20 (fun _ hS => px_field rfl xfld29x0) ?_
  refine dx_take 1 rfl rfl rfl rfl (by kernel_rfl) (by kernel_rfl) (by kernel_rfl) s20 (fun _ hS => px_load rfl ((f11.chg hS (by omega)).load1 rfl Try.isAgg4)) ?_
  refine dx_take 2 rfl rfl rfl rfl (by kernel_rfl) (by kernel_rfl) (by kernel_rfl) s20 (fun _ hS => px_field rfl xfld29x1) ?_
  refine dx_take 3 rfl rfl rfl rfl (by kernel_rfl) (by kernel_rfl) (by kernel_rfl) s20 (fun _ hS => px_load rfl ((f11.chg hS (by omega)).load1 rfl Try.isAgg22)) ?_
  refine dx_take 4 rfl rfl rfl rfl (by kernel_rfl) (by kernel_rfl) (by kernel_rfl) s20 (fun _ hS => px_field rfl xfld29x1) ?_
  refine dx_take 5 rfl rfl rfl rfl (by kernel_rfl) (by kernel_rfl) (by kernel_rfl) s20 (fun _ hS => px_load rfl ((f12.chg hS (by omega)).load1 rfl Try.isAgg22)) ?_
  refine dx_eff 6 rfl (by kernel_rfl) ?_
  have f21 := f16.ext d20
  have f22 := f19.ext d20
  refine sx_call rfl rfl Try.call112 (c_natAdd f21 f22 (by omega) (by omega)) (fun v23 w23 p23 => ?_)
  obtain ⟨s23, rfl, os_23, c23⟩ := p23
  have zw23 := c23.size
  have s24 : Chg b6 (b6 + 1) w7 w23 := (Chg.zero (l := b6) (h := (b6 + 1)) (d20.t c23))
  refine wl_nil ?_
  refine dx_next s24 ?_
  refine dx_eff 7 rfl (by kernel_rfl) ?_
  refine sx_call rfl rfl Try.call90 (c_signed os_23.sv (by omega)) (fun v25 w25 p25 => ?_)
  obtain ⟨rfl, c25⟩ := p25
  have zw25 := c25.size
  have s26 : Chg b6 (b6 + 1) w7 w25 := (Chg.zero (l := b6) (h := (b6 + 1)) ((d20.t c23).t c25))
  refine wl_nil ?_
  refine dx_next s26 ?_
  refine dx_eff 8 rfl (by kernel_rfl) ?_
  have f28 := fb6.ext d20
  have f29 := f28.ext c23
  have f30 := f29.ext c25
  have f31 := os_23.ext c25
  refine sx_store (vs := [.bool (nz (ng x) (dg (x.natAbs + y.natAbs))), v23]) rfl rfl f30 rfl Try.sizeOf29 (Nat.le_of_ble_eq_true rfl) (one_cons rfl (one_cons f31.one one_nil)) (fun w27 sw27 fw27 cw27 => ?_)
  have zw27 := cw27.size
  have gw27 : Blk w27 b6 [.bool (nz (ng x) (dg (x.natAbs + y.natAbs))), v23] 29 := fw27
  have q33 := Chg.step (l := b6) (h := (b6 + 1)) (Chg.zero (l := b6) (h := (b6 + 1)) ((d20.t c23).t c25)) cw27 (by omega)
  have s32 : Chg b6 (b6 + 1) w7 w27 := q33
  refine wl_nil ?_
  refine dx_next s32 ?_
  refine dx_done (by kernel_rfl) ?_
  refine q_n (k13 _ _ ?_)
  refine sx_sub (Sub.cons (t := 2) rfl (.cons (t := 3) rfl (.cons (t := 4) rfl (.nil)))) ?_
  refine sx_retc ?_
  refine q_r (sx_ret1 Try.results80 ⟨_, rfl, gw27.loadA (vs := [.bool (nz (ng x) (dg (x.natAbs + y.natAbs))), v23]) (look_lit rfl) Try.isAgg29 Try.sizeOf29⟩ ?_)
  have hh := add_sg h46
  rw [← hh.1, ← hh.2]
  have f34 := f31.chg cw27 (by omega)
  have q35 := Chg.step (l := 0) (h := 0) (Chg.zero (l := 0) (h := 0) (((((cb2.t cb4).t cb6).t d20).t c23).t c25)) cw27 (by omega)
  exact ⟨_, rfl, (Own.mono f34 (by omega) (by omega)), q35⟩
 ·
  refine sx_skip ?_
  refine q_n (k8 _ _ ?_)
  refine sx_seq fun K36 k36 => ?_
  refine sx_seq fun K37 k37 => sx_region ?_
  refine sx_pure rfl rfl rfl (px_field rfl xfld29x1) ?_
  refine sx_pure rfl rfl rfl (px_load rfl (f11.load1 rfl Try.isAgg22)) ?_
  refine sx_pure rfl rfl rfl (px_field rfl xfld29x1) ?_
  refine sx_pure rfl rfl rfl (px_load rfl (f12.load1 rfl Try.isAgg22)) ?_
  have f38 := hva0.ext cb2
  have f39 := f38.ext cb4
  have f40 := f39.ext cb6
  have f41 := hvb0.ext cb2
  have f42 := f41.ext cb4
  have f43 := f42.ext cb6
  refine sx_call rfl rfl Try.call113 (c_natCmp f40 f43 (by omega)) (fun v44 w44 p44 => ?_)
  obtain ⟨rfl, c44⟩ := p44
  have zw44 := c44.size
  refine sx_pure rfl rfl rfl (px_lt rfl rfl) ?_
  refine wl_nil (q_n (k37 _ _ ?_))
  refine sx_sub (Sub.cons (t := 2) rfl (.cons (t := 3) rfl (.cons (t := 4) rfl (.cons (t := 23) rfl (.nil))))) ?_
  refine sx_condP rfl (fun h49 => ?_) (fun h49 => ?_)
  ·
   rw [cmpL_dg] at h49
   have hlt := cmpN_neg.1 h49
   refine sx_region ?_
   have f45 := f12.ext c44
   refine sx_pure rfl rfl rfl (px_load rfl (f45.loadA (vs := [.bool (ng y), vb]) (look_lit rfl) Try.isAgg29 Try.sizeOf29)) ?_
   have f46 := f11.ext c44
   refine sx_pure rfl rfl rfl (px_load rfl (f46.loadA (vs := [.bool (ng x), va]) (look_lit rfl) Try.isAgg29 Try.sizeOf29)) ?_
   have f48 := f43.ext c44
   refine sx_store (vs := [.bool (ng y), vb]) rfl rfl f46 rfl Try.sizeOf29 (Nat.le_of_ble_eq_true rfl) (one_cons rfl (one_cons f48.one one_nil)) (fun w47 sw47 fw47 cw47 => ?_)
   have zw47 := cw47.size
   have gw47 : Blk w47 b2 [.bool (ng y), vb] 29 := fw47
   have f50 := f45.chg cw47 (by omega)
   have f51 := f40.ext c44
   have f52 := f51.chg cw47 (by omega)
   refine sx_store (vs := [.bool (ng x), va]) rfl rfl f50 rfl Try.sizeOf29 (Nat.le_of_ble_eq_true rfl) (one_cons rfl (one_cons f52.one one_nil)) (fun w49 sw49 fw49 cw49 => ?_)
   have zw49 := cw49.size
   have gw49 : Blk w49 b4 [.bool (ng x), va] 29 := fw49
   refine wl_nil (q_n (k36 _ _ ?_))
   refine sx_seq fun K53 k53 => ?_
   have f54 := gw47.chg cw49 (by omega)
   have f55 := f52.chg cw49 (by omega)
   have f56 := f48.chg cw47 (by omega)
   have f57 := f56.chg cw49 (by omega)
   refine dx_region (fun w' => Chg b6 (b6 + 1) w49 w') (by kernel_rfl) (Chg.zero (Chg.drew _)) ?_
   have d58 := Chg.drew w49
   have s58 : Chg b6 (b6 + 1) w49 (World.drew w49) := Chg.zero (Chg.drew _)
   have y58 : (World.drew w49).heap.size = w49.heap.size := rfl
   generalize World.drew w49 = w58 at *
   have zw58 := d58.size
   refine dx_take 0 rfl rfl rfl rfl (by kernel_rfl) (by kernel_rfl) (by kernel_rfl) s58 (fun _ hS => px_field rfl xfld29x0) ?_
   refine dx_take 1 rfl rfl rfl rfl (by kernel_rfl) (by kernel_rfl) (by kernel_rfl) s58 (fun _ hS => px_load rfl ((f54.chg hS (by omega)).load1 rfl Try.isAgg4)) ?_
   refine dx_take 2 rfl rfl rfl rfl (by kernel_rfl) (by kernel_rfl) (by kernel_rfl) s58 (fun _ hS => px_field rfl xfld29x1) ?_
   refine dx_take 3 rfl rfl rfl rfl (by kernel_rfl) (by kernel_rfl) (by kernel_rfl) s58 (fun _ hS => px_load rfl ((f54.chg hS (by omega)).load1 rfl Try.isAgg22)) ?_
   refine dx_take 4 rfl rfl rfl rfl (by kernel_rfl) (by kernel_rfl) (by kernel_rfl) s58 (fun _ hS => px_field rfl xfld29x1) ?_
   refine dx_take 5 rfl rfl rfl rfl (by kernel_rfl) (by kernel_rfl) (by kernel_rfl) s58 (fun _ hS => px_load rfl ((gw49.chg hS (by omega)).load1 rfl Try.isAgg22)) ?_
   refine dx_eff 6 rfl (by kernel_rfl) ?_
   have f59 := f57.ext d58
   have f60 := f55.ext d58
   refine sx_call rfl rfl Try.call114 (c_natSub f59 f60 (by omega) (by omega) (by omega)) (fun v61 w61 p61 => ?_)
   obtain ⟨s61, rfl, os_61, c61⟩ := p61
   have zw61 := c61.size
   have s62 : Chg b6 (b6 + 1) w49 w61 := (Chg.zero (l := b6) (h := (b6 + 1)) (d58.t c61))
   refine wl_nil ?_
   refine dx_next s62 ?_
   refine dx_eff 7 rfl (by kernel_rfl) ?_
   refine sx_call rfl rfl Try.call90 (c_signed os_61.sv (by omega)) (fun v63 w63 p63 => ?_)
   obtain ⟨rfl, c63⟩ := p63
   have zw63 := c63.size
   have s64 : Chg b6 (b6 + 1) w49 w63 := (Chg.zero (l := b6) (h := (b6 + 1)) ((d58.t c61).t c63))
   refine wl_nil ?_
   refine dx_next s64 ?_
   refine dx_eff 8 rfl (by kernel_rfl) ?_
   have f66 := fb6.ext c44
   have f67 := f66.chg cw47 (by omega)
   have f68 := f67.chg cw49 (by omega)
   have f69 := f68.ext d58
   have f70 := f69.ext c61
   have f71 := f70.ext c63
   have f72 := os_61.ext c63
   refine sx_store (vs := [.bool (nz (ng y) (dg (y.natAbs - x.natAbs))), v61]) rfl rfl f71 rfl Try.sizeOf29 (Nat.le_of_ble_eq_true rfl) (one_cons rfl (one_cons f72.one one_nil)) (fun w65 sw65 fw65 cw65 => ?_)
   have zw65 := cw65.size
   have gw65 : Blk w65 b6 [.bool (nz (ng y) (dg (y.natAbs - x.natAbs))), v61] 29 := fw65
   have q74 := Chg.step (l := b6) (h := (b6 + 1)) (Chg.zero (l := b6) (h := (b6 + 1)) ((d58.t c61).t c63)) cw65 (by omega)
   have s73 : Chg b6 (b6 + 1) w49 w65 := q74
   refine wl_nil ?_
   refine dx_next s73 ?_
   refine dx_done (by kernel_rfl) ?_
   refine q_n (k53 _ _ ?_)
   refine sx_retc ?_
   refine sx_ret1 Try.results80 ⟨_, rfl, gw65.loadA (vs := [.bool (nz (ng y) (dg (y.natAbs - x.natAbs))), v61]) (look_lit rfl) Try.isAgg29 Try.sizeOf29⟩ ?_
   have hh := (sub_sg2 h46 (by omega))
   rw [← hh.1, ← hh.2]
   have f75 := f72.chg cw65 (by omega)
   have q76 := Chg.step (l := 0) (h := 0) (Chg.zero (l := 0) (h := 0) (((cb2.t cb4).t cb6).t c44)) cw47 (by omega)
   have q77 := Chg.step (l := 0) (h := 0) q76 cw49 (by omega)
   have q78 := Chg.step (l := 0) (h := 0) q77 ((d58.t c61).t c63) (by omega)
   have q79 := Chg.step (l := 0) (h := 0) q78 cw65 (by omega)
   exact ⟨_, rfl, (Own.mono f75 (by omega) (by omega)), q79⟩
  ·
   rw [cmpL_dg] at h49
   have hge := cmpN_nonneg.1 (Int.not_lt.1 h49)
   refine sx_skip ?_
   refine q_n (k36 _ _ ?_)
   refine sx_seq fun K80 k80 => ?_
   have f81 := f11.ext c44
   have f82 := f12.ext c44
   have f83 := f40.ext c44
   have f84 := f43.ext c44
   refine dx_region (fun w' => Chg b6 (b6 + 1) w44 w') (by kernel_rfl) (Chg.zero (Chg.drew _)) ?_
   have d85 := Chg.drew w44
   have s85 : Chg b6 (b6 + 1) w44 (World.drew w44) := Chg.zero (Chg.drew _)
   have y85 : (World.drew w44).heap.size = w44.heap.size := rfl
   generalize World.drew w44 = w85 at *
   have zw85 := d85.size
   refine dx_take 0 rfl rfl rfl rfl (by kernel_rfl) (by kernel_rfl) (by kernel_rfl) s85 (fun _ hS => px_field rfl xfld29x0) ?_
   refine dx_take 1 rfl rfl rfl rfl (by kernel_rfl) (by kernel_rfl) (by kernel_rfl) s85 (fun _ hS => px_load rfl ((f81.chg hS (by omega)).load1 rfl Try.isAgg4)) ?_
   refine dx_take 2 rfl rfl rfl rfl (by kernel_rfl) (by kernel_rfl) (by kernel_rfl) s85 (fun _ hS => px_field rfl xfld29x1) ?_
   refine dx_take 3 rfl rfl rfl rfl (by kernel_rfl) (by kernel_rfl) (by kernel_rfl) s85 (fun _ hS => px_load rfl ((f81.chg hS (by omega)).load1 rfl Try.isAgg22)) ?_
   refine dx_take 4 rfl rfl rfl rfl (by kernel_rfl) (by kernel_rfl) (by kernel_rfl) s85 (fun _ hS => px_field rfl xfld29x1) ?_
   refine dx_take 5 rfl rfl rfl rfl (by kernel_rfl) (by kernel_rfl) (by kernel_rfl) s85 (fun _ hS => px_load rfl ((f82.chg hS (by omega)).load1 rfl Try.isAgg22)) ?_
   refine dx_eff 6 rfl (by kernel_rfl) ?_
   have f86 := f83.ext d85
   have f87 := f84.ext d85
   refine sx_call rfl rfl Try.call114 (c_natSub f86 f87 (by omega) (by omega) (by omega)) (fun v88 w88 p88 => ?_)
   obtain ⟨s88, rfl, os_88, c88⟩ := p88
   have zw88 := c88.size
   have s89 : Chg b6 (b6 + 1) w44 w88 := (Chg.zero (l := b6) (h := (b6 + 1)) (d85.t c88))
   refine wl_nil ?_
   refine dx_next s89 ?_
   refine dx_eff 7 rfl (by kernel_rfl) ?_
   refine sx_call rfl rfl Try.call90 (c_signed os_88.sv (by omega)) (fun v90 w90 p90 => ?_)
   obtain ⟨rfl, c90⟩ := p90
   have zw90 := c90.size
   have s91 : Chg b6 (b6 + 1) w44 w90 := (Chg.zero (l := b6) (h := (b6 + 1)) ((d85.t c88).t c90))
   refine wl_nil ?_
   refine dx_next s91 ?_
   refine dx_eff 8 rfl (by kernel_rfl) ?_
   have f93 := fb6.ext c44
   have f94 := f93.ext d85
   have f95 := f94.ext c88
   have f96 := f95.ext c90
   have f97 := os_88.ext c90
   refine sx_store (vs := [.bool (nz (ng x) (dg (x.natAbs - y.natAbs))), v88]) rfl rfl f96 rfl Try.sizeOf29 (Nat.le_of_ble_eq_true rfl) (one_cons rfl (one_cons f97.one one_nil)) (fun w92 sw92 fw92 cw92 => ?_)
   have zw92 := cw92.size
   have gw92 : Blk w92 b6 [.bool (nz (ng x) (dg (x.natAbs - y.natAbs))), v88] 29 := fw92
   have q99 := Chg.step (l := b6) (h := (b6 + 1)) (Chg.zero (l := b6) (h := (b6 + 1)) ((d85.t c88).t c90)) cw92 (by omega)
   have s98 : Chg b6 (b6 + 1) w44 w92 := q99
   refine wl_nil ?_
   refine dx_next s98 ?_
   refine dx_done (by kernel_rfl) ?_
   refine q_n (k80 _ _ ?_)
   refine sx_retc ?_
   refine sx_ret1 Try.results80 ⟨_, rfl, gw92.loadA (vs := [.bool (nz (ng x) (dg (x.natAbs - y.natAbs))), v88]) (look_lit rfl) Try.isAgg29 Try.sizeOf29⟩ ?_
   have hh := sub_sg h46 hge
   rw [← hh.1, ← hh.2]
   have f100 := f97.chg cw92 (by omega)
   have q101 := Chg.step (l := 0) (h := 0) (Chg.zero (l := 0) (h := 0) ((((((cb2.t cb4).t cb6).t c44).t d85).t c88).t c90)) cw92 (by omega)
   exact ⟨_, rfl, (Own.mono f100 (by omega) (by omega)), q101⟩

theorem c_decOf {w : World} {va : Value} {lva uva : Nat} {x : Int} {p : Int} (hva : OwnI w lva uva va intT (dg x.natAbs)) (hbx : (dg x.natAbs).length ≤ 1000) (hu : uva ≤ w.heap.size) :
  Ret Try.prog 68 [.agg #[.bool (ng x), va], .int .i64 p] w fun v w' => ∃ s, v = .tuple #[.agg #[.bool ((decR x p).1), s, .int .i64 ((decR x p).2.2.1)], .bool ((decR x p).2.2.2)] ∧ OwnI w' (lva) (uva) s intT ((decR x p).2.1) ∧ Chg 0 0 w w' := by
 refine sx_enter Try.func68 rfl Try.ntmps68 (Nat.le_of_ble_eq_true rfl) ?_
 refine sx_seq fun K1 k1 => sx_region ?_
 refine sx_box [.bool (ng x), va] rfl rfl rfl (fun b2 w3 eb2 sb2 fb2 cb2 => ?_)
 have zw3 := cb2.size
 refine sx_alloc [.bool false, (.slice none 0 0), .int .i64 0] rfl Try.zeroValue31 rfl (fun b4 w5 eb4 sb4 fb4 cb4 => ?_)
 have zw5 := cb4.size
 refine sa rfl rfl rfl rfl ?_
 refine wl_nil (q_n (k1 _ _ ?_))
 refine sx_seq fun K6 k6 => ?_
 refine sx_seq fun K7 k7 => sx_region ?_
 have f8 := fb2.ext cb4
 refine sx_pure rfl rfl rfl (px_load rfl (f8.loadA (vs := [.bool (ng x), va]) (look_lit rfl) Try.isAgg29 Try.sizeOf29)) ?_
 refine sm rfl rfl rfl rfl ?_
 refine sx_pure rfl rfl rfl (px_build rfl (xbld31x0x1 rfl _)) ?_
 refine sx_alloc [.bool false, (.slice none 0 0), .int .i64 0] rfl Try.zeroValue31 rfl (fun b9 w10 eb9 sb9 fb9 cb9 => ?_)
 have zw10 := cb9.size
 have f12 := hva.ext cb2
 have f13 := f12.ext cb4
 have f14 := f13.ext cb9
 refine sx_store (vs := [.bool (ng x), va, .int .i64 p]) rfl rfl fb9 rfl Try.sizeOf31 (Nat.le_of_ble_eq_true rfl) (one_cons rfl (one_cons f14.one (one_cons rfl one_nil))) (fun w11 sw11 fw11 cw11 => ?_)
 have zw11 := cw11.size
 have gw11 : Blk w11 b9 [.bool (ng x), va, .int .i64 p] 31 := fw11
 refine wl_nil (q_n (k7 _ _ ?_))
 refine sx_seq fun K15 k15 => sx_region ?_
 refine sx_pure rfl rfl rfl (px_load rfl (gw11.loadA (vs := [.bool (ng x), va, .int .i64 p]) (look_lit rfl) Try.isAgg31 Try.sizeOf31)) ?_
 have f16 := f14.chg cw11 (by omega)
 refine sx_call rfl rfl Try.call18 (c_iDecOk f16.sv (by omega)) (fun v17 w17 p17 => ?_)
 obtain ⟨rfl, c17⟩ := p17
 have zw17 := c17.size
 refine wl_nil (q_n (k15 _ _ ?_))
 refine sx_condP rfl (fun h22 => ?_) (fun h22 => ?_)
 ·
  refine sx_seq fun K18 k18 => sx_region ?_
  have f19 := gw11.ext c17
  refine sx_pure rfl rfl rfl (px_load rfl (f19.loadA (vs := [.bool (ng x), va, .int .i64 p]) (look_lit rfl) Try.isAgg31 Try.sizeOf31)) ?_
  have f21 := fb4.ext cb9
  have f22 := f21.chg cw11 (by omega)
  have f23 := f22.ext c17
  have f24 := f16.ext c17
  refine sx_store (vs := [.bool (ng x), va, .int .i64 p]) rfl rfl f23 rfl Try.sizeOf31 (Nat.le_of_ble_eq_true rfl) (one_cons rfl (one_cons f24.one (one_cons rfl one_nil))) (fun w20 sw20 fw20 cw20 => ?_)
  have zw20 := cw20.size
  have gw20 : Blk w20 b4 [.bool (ng x), va, .int .i64 p] 31 := fw20
  refine sa rfl rfl rfl rfl ?_
  refine wl_nil (q_n (k18 _ _ ?_))
  refine sx_retc ?_
  refine q_r (sx_ret2 Try.results68 ⟨_, rfl, gw20.loadA (vs := [.bool (ng x), va, .int .i64 p]) (look_lit rfl) Try.isAgg31 Try.sizeOf31⟩ rfl ?_)
  rw [decR_ok (by first | exact h22 | exact Decidable.not_not.1 h22)]
  have q25 := Chg.step (l := 0) (h := 0) (Chg.zero (l := 0) (h := 0) ((cb2.t cb4).t cb9)) cw11 (by omega)
  have q26 := Chg.step (l := 0) (h := 0) q25 c17 (by omega)
  have q27 := Chg.step (l := 0) (h := 0) q26 cw20 (by omega)
  have f28 := f24.chg cw20 (by omega)
  exact ⟨_, rfl, (Own.mono f28 (by omega) (by omega)), q27⟩
 ·
  refine sx_skip ?_
  refine q_n (k6 _ _ ?_)
  refine sx_seq fun K29 k29 => sx_region ?_
  refine sx_pure rfl rfl rfl (px_build rfl (xbld31x  _)) ?_
  have f31 := fb4.ext cb9
  have f32 := f31.chg cw11 (by omega)
  have f33 := f32.ext c17
  refine sx_store (vs := [.bool false, (.slice none 0 0), .int .i64 0]) rfl rfl f33 rfl Try.sizeOf31 (Nat.le_of_ble_eq_true rfl) (one_cons rfl (one_cons rfl (one_cons rfl one_nil))) (fun w30 sw30 fw30 cw30 => ?_)
  have zw30 := cw30.size
  have gw30 : Blk w30 b4 [.bool false, (.slice none 0 0), .int .i64 0] 31 := fw30
  refine sa rfl rfl rfl rfl ?_
  refine wl_nil (q_n (k29 _ _ ?_))
  refine sx_retc ?_
  refine sx_ret2 Try.results68 ⟨_, rfl, gw30.loadA (vs := [.bool false, (.slice none 0 0), .int .i64 0]) (look_lit rfl) Try.isAgg31 Try.sizeOf31⟩ rfl ?_
  rw [decR_no (by first | exact h22 | assumption)]
  have q34 := Chg.step (l := 0) (h := 0) (Chg.zero (l := 0) (h := 0) ((cb2.t cb4).t cb9)) cw11 (by omega)
  have q35 := Chg.step (l := 0) (h := 0) q34 c17 (by omega)
  have q36 := Chg.step (l := 0) (h := 0) q35 cw30 (by omega)
  exact ⟨_, rfl, Own.nil _ _ _ _ _, q36⟩

theorem c_iDecAdd {w : World} {n1 : Bool} {v1 : Value} {lv1 uv1 : Nat} {z1 : List Int} {p1 : Int} {n2 : Bool} {v2 : Value} {lv2 uv2 : Nat} {z2 : List Int} {p2 : Int} (hv1 : Sl w lv1 uv1 v1 (z1)) (hv2 : Sl w lv2 uv2 v2 (z2)) (h63 : z1.length ≤ 4611686018427387904 ∧ z2.length ≤ 4611686018427387904) :
  Ret Try.prog 37 [.agg #[.bool n1, v1, .int .i64 p1], .agg #[.bool n2, v2, .int .i64 p2]] w fun v w' => ∃ s, v = .tuple #[.agg #[.bool ((dBin fAdd n1 z1 p1 n2 z2 p2).1), s, .int .i64 ((dBin fAdd n1 z1 p1 n2 z2 p2).2.2.1)], .bool ((dBin fAdd n1 z1 p1 n2 z2 p2).2.2.2)] ∧ OwnI w' w.heap.size w'.heap.size s intT ((dBin fAdd n1 z1 p1 n2 z2 p2).2.1) ∧ ((dBin fAdd n1 z1 p1 n2 z2 p2).2.1.length ≤ 6) ∧ Chg 0 0 w w' := by
 have hv10 := hv1.fit
 have hv20 := hv2.fit
 refine sx_enter Try.func37 rfl Try.ntmps37 (Nat.le_of_ble_eq_true rfl) ?_
 refine sx_seq fun K1 k1 => sx_region ?_
 refine sx_box [.bool n1, v1, .int .i64 p1] rfl rfl rfl (fun b2 w3 eb2 sb2 fb2 cb2 => ?_)
 have zw3 := cb2.size
 refine sx_box [.bool n2, v2, .int .i64 p2] rfl rfl rfl (fun b4 w5 eb4 sb4 fb4 cb4 => ?_)
 have zw5 := cb4.size
 refine sx_alloc [.bool false, (.slice none 0 0), .int .i64 0] rfl Try.zeroValue31 rfl (fun b6 w7 eb6 sb6 fb6 cb6 => ?_)
 have zw7 := cb6.size
 refine sa rfl rfl rfl rfl ?_
 refine wl_nil (q_n (k1 _ _ ?_))
 refine sx_seq fun K8 k8 => ?_
 refine sx_seq fun K9 k9 => sx_region ?_
 have f10 := fb2.ext cb4
 have f11 := f10.ext cb6
 refine sx_pure rfl rfl rfl (px_load rfl (f11.loadA (vs := [.bool n1, v1, .int .i64 p1]) (look_lit rfl) Try.isAgg31 Try.sizeOf31)) ?_
 have f12 := hv10.ext cb2
 have f13 := f12.ext cb4
 have f14 := f13.ext cb6
 refine sx_call rfl rfl Try.call18 (c_iDecOk f14 (by omega)) (fun v15 w15 p15 => ?_)
 obtain ⟨rfl, c15⟩ := p15
 have zw15 := c15.size
 refine sx_pure rfl rfl rfl (px_notP rfl) ?_
 refine sm rfl rfl rfl rfl ?_
 refine sx_tmpP (t := 11) rfl (fun h112 => ?_) (fun h112 => ?_)
 ·
  refine sx_guardF rfl rfl rfl rfl rfl rfl ?_
  refine sx_guardF rfl rfl rfl rfl rfl rfl ?_
  refine sx_guardF rfl rfl rfl rfl rfl rfl ?_
  refine sx_pure rfl rfl rfl (px_pick rfl rfl) ?_
  refine wl_nil (q_n (k9 _ _ ?_))
  refine sx_condT rfl ?_
  refine sx_seq fun K16 k16 => sx_region ?_
  refine sx_pure rfl rfl rfl (px_build rfl (xbld31x  _)) ?_
  have f18 := fb6.ext c15
  refine sx_store (vs := [.bool false, (.slice none 0 0), .int .i64 0]) rfl rfl f18 rfl Try.sizeOf31 (Nat.le_of_ble_eq_true rfl) (one_cons rfl (one_cons rfl (one_cons rfl one_nil))) (fun w17 sw17 fw17 cw17 => ?_)
  have zw17 := cw17.size
  have gw17 : Blk w17 b6 [.bool false, (.slice none 0 0), .int .i64 0] 31 := fw17
  refine sa rfl rfl rfl rfl ?_
  refine wl_nil (q_n (k16 _ _ ?_))
  refine sx_sub (Sub.cons (t := 2) rfl (.cons (t := 3) rfl (.cons (t := 4) rfl (.cons (t := 5) rfl (.nil))))) ?_
  refine sx_retc ?_
  refine q_r (sx_ret2 Try.results37 ⟨_, rfl, gw17.loadA (vs := [.bool false, (.slice none 0 0), .int .i64 0]) (look_lit rfl) Try.isAgg31 Try.sizeOf31⟩ rfl ?_)
  rw [dBin_no (by grind)]
  have q19 := Chg.step (l := 0) (h := 0) (Chg.zero (l := 0) (h := 0) (((cb2.t cb4).t cb6).t c15)) cw17 (by omega)
  exact ⟨_, rfl, Own.nil _ _ _ _ _, by simp, q19⟩
 ·
  refine sx_guardT rfl rfl rfl ?_
  have f20 := fb4.ext cb6
  have f21 := f20.ext c15
  refine sx_pure rfl rfl rfl (px_load rfl (f21.loadA (vs := [.bool n2, v2, .int .i64 p2]) (look_lit rfl) Try.isAgg31 Try.sizeOf31)) ?_
  refine sx_guardT rfl rfl rfl ?_
  have f22 := hv20.ext cb2
  have f23 := f22.ext cb4
  have f24 := f23.ext cb6
  have f25 := f24.ext c15
  refine sx_call rfl rfl Try.call18 (c_iDecOk f25 (by omega)) (fun v26 w26 p26 => ?_)
  obtain ⟨rfl, c26⟩ := p26
  have zw26 := c26.size
  refine sx_guardT rfl rfl rfl ?_
  refine sx_pure rfl rfl rfl (px_notP rfl) ?_
  refine sx_pure rfl rfl rfl (px_pick rfl rfl) ?_
  refine wl_nil (q_n (k9 _ _ ?_))
  refine sx_condP rfl (fun h112x1 => ?_) (fun h112x1 => ?_)
  ·
   refine sx_seq fun K27 k27 => sx_region ?_
   refine sx_pure rfl rfl rfl (px_build rfl (xbld31x  _)) ?_
   have f29 := fb6.ext c15
   have f30 := f29.ext c26
   refine sx_store (vs := [.bool false, (.slice none 0 0), .int .i64 0]) rfl rfl f30 rfl Try.sizeOf31 (Nat.le_of_ble_eq_true rfl) (one_cons rfl (one_cons rfl (one_cons rfl one_nil))) (fun w28 sw28 fw28 cw28 => ?_)
   have zw28 := cw28.size
   have gw28 : Blk w28 b6 [.bool false, (.slice none 0 0), .int .i64 0] 31 := fw28
   refine sa rfl rfl rfl rfl ?_
   refine wl_nil (q_n (k27 _ _ ?_))
   refine sx_sub (Sub.cons (t := 2) rfl (.cons (t := 3) rfl (.cons (t := 4) rfl (.cons (t := 5) rfl (.nil))))) ?_
   refine sx_retc ?_
   refine q_r (sx_ret2 Try.results37 ⟨_, rfl, gw28.loadA (vs := [.bool false, (.slice none 0 0), .int .i64 0]) (look_lit rfl) Try.isAgg31 Try.sizeOf31⟩ rfl ?_)
   rw [dBin_no (by grind)]
   have q31 := Chg.step (l := 0) (h := 0) (Chg.zero (l := 0) (h := 0) ((((cb2.t cb4).t cb6).t c15).t c26)) cw28 (by omega)
   exact ⟨_, rfl, Own.nil _ _ _ _ _, by simp, q31⟩
  ·
   have hD1 := Decidable.not_not.1 h112
   have hD2 := Decidable.not_not.1 h112x1
   obtain ⟨x1, rfl, rfl, hx1⟩ := hD1.int
   obtain ⟨x2, rfl, rfl, hx2⟩ := hD2.int
   refine sx_skip ?_
   refine q_n (k8 _ _ ?_)
   refine sx_seq fun K32 k32 => sx_region ?_
   refine sx_pure rfl rfl rfl (px_field rfl xfld31x1) ?_
   have f33 := f11.ext c15
   have f34 := f33.ext c26
   refine sx_pure rfl rfl rfl (px_load rfl (f34.load1 rfl Try.isAgg3)) ?_
   refine sx_pure rfl rfl rfl (px_field rfl xfld31x1) ?_
   have f35 := f21.ext c26
   refine sx_pure rfl rfl rfl (px_load rfl (f35.load1 rfl Try.isAgg3)) ?_
   refine sx_pure rfl rfl rfl (px_max rfl rfl) ?_
   refine sa rfl rfl rfl rfl ?_
   refine wl_nil (q_n (k32 _ _ ?_))
   refine sx_sub (Sub.cons (t := 2) rfl (.cons (t := 3) rfl (.cons (t := 4) rfl (.cons (t := 5) rfl (.cons (t := 6) rfl (.nil)))))) ?_
   refine sx_seq fun K36 k36 => sx_region ?_
   refine sm rfl rfl rfl rfl ?_
   refine sx_call rfl rfl Try.call72 (c_scaled) (fun v37 w37 p37 => ?_)
   obtain ⟨b37, rfl, xb_37, hb37, c37⟩ := p37
   have zw37 := c37.size
   refine sa rfl rfl rfl rfl ?_
   refine wl_nil (q_n (k36 _ _ ?_))
   refine sx_seq fun K38 k38 => ?_
   have f39 := f34.ext c37
   have f40 := f35.ext c37
   have f41 := f14.ext c15
   have f42 := f41.ext c26
   have f43 := f42.ext c37
   have f44 := f25.ext c26
   have f45 := f44.ext c37
   refine dx_region (fun w' => Chg b6 (b6 + 1) w37 w') (by kernel_rfl) (Chg.zero (Chg.drew _)) ?_
   have d46 := Chg.drew w37
   have s46 : Chg b6 (b6 + 1) w37 (World.drew w37) := Chg.zero (Chg.drew _)
   have y46 : (World.drew w37).heap.size = w37.heap.size := rfl
   generalize World.drew w37 = w46 at *
   have zw46 := d46.size
   refine dx_take 0 rfl rfl rfl rfl (by kernel_rfl) (by kernel_rfl) (by kernel_rfl) s46 (fun _ hS => px_move rfl) ?_
   refine dx_take 1 rfl rfl rfl rfl (by kernel_rfl) (by kernel_rfl) (by kernel_rfl) s46 (fun _ hS => px_load rfl ((f39.chg hS (by omega)).loadA (vs := [.bool (ng x1), v1, .int .i64 p1]) (look_lit rfl) Try.isAgg31 Try.sizeOf31)) ?_
   refine dx_take 3 rfl rfl rfl rfl (by kernel_rfl) (by kernel_rfl) (by kernel_rfl) s46 (fun _ hS => px_move rfl) ?_
   refine dx_take 4 rfl rfl rfl rfl (by kernel_rfl) (by kernel_rfl) (by kernel_rfl) s46 (fun _ hS => px_load rfl ((f40.chg hS (by omega)).loadA (vs := [.bool (ng x2), v2, .int .i64 p2]) (look_lit rfl) Try.isAgg31 Try.sizeOf31)) ?_
   refine dx_take 7 rfl rfl rfl rfl (by kernel_rfl) (by kernel_rfl) (by kernel_rfl) s46 (fun _ hS => px_move rfl) ?_
   refine dx_eff 2 rfl (by kernel_rfl) ?_
   have f47 := f43.ext d46
   have f48 := xb_37.ext d46
   refine sx_callV rfl rfl rfl Try.call107 (c_scaled1 f47 f48 (by omega) (by omega)) (fun v49 w49 p49 => ?_)
   obtain ⟨s49, rfl, os_49, c49⟩ := p49
   have zw49 := c49.size
   have s50 : Chg b6 (b6 + 1) w37 w49 := (Chg.zero (l := b6) (h := (b6 + 1)) (d46.t c49))
   refine wl_nil ?_
   refine dx_next s50 ?_
   refine dx_eff 5 rfl (by kernel_rfl) ?_
   have f51 := f45.ext d46
   have f52 := f51.ext c49
   have f53 := f48.ext c49
   refine sx_callV rfl rfl rfl Try.call107 (c_scaled1 f52 f53 (by omega) (by omega)) (fun v54 w54 p54 => ?_)
   obtain ⟨s54, rfl, os_54, c54⟩ := p54
   have zw54 := c54.size
   have s55 : Chg b6 (b6 + 1) w37 w54 := (Chg.zero (l := b6) (h := (b6 + 1)) ((d46.t c49).t c54))
   refine wl_nil ?_
   refine dx_next s55 ?_
   refine dx_eff 6 rfl (by kernel_rfl) ?_
   have f56 := os_49.ext c54
   refine sx_call rfl rfl Try.call80 (c_intAdd f56.sv os_54.sv (by have h1 := len_ten (k := max p1 p2 - p1) (by omega); have h2 := len_ten (k := max p1 p2 - p2) (by omega); have h3 := len_mulI x1 (tenI (max p1 p2 - p1)); have h4 := len_mulI x2 (tenI (max p1 p2 - p2)); first | omega | (have h5 := len_addI (x1 * tenI (max p1 p2 - p1)) (x2 * tenI (max p1 p2 - p2)); omega)) (by have h1 := len_ten (k := max p1 p2 - p1) (by omega); have h2 := len_ten (k := max p1 p2 - p2) (by omega); have h3 := len_mulI x1 (tenI (max p1 p2 - p1)); have h4 := len_mulI x2 (tenI (max p1 p2 - p2)); first | omega | (have h5 := len_addI (x1 * tenI (max p1 p2 - p1)) (x2 * tenI (max p1 p2 - p2)); omega))) (fun v57 w57 p57 => ?_)
   obtain ⟨s57, rfl, os_57, c57⟩ := p57
   have zw57 := c57.size
   have s58 : Chg b6 (b6 + 1) w37 w57 := (Chg.zero (l := b6) (h := (b6 + 1)) (((d46.t c49).t c54).t c57))
   refine wl_nil ?_
   refine dx_next s58 ?_
   refine dx_eff 8 rfl (by kernel_rfl) ?_
   refine sx_call rfl rfl Try.call68 (c_decOf os_57 (by have h1 := len_ten (k := max p1 p2 - p1) (by omega); have h2 := len_ten (k := max p1 p2 - p2) (by omega); have h3 := len_mulI x1 (tenI (max p1 p2 - p1)); have h4 := len_mulI x2 (tenI (max p1 p2 - p2)); first | omega | (have h5 := len_addI (x1 * tenI (max p1 p2 - p1)) (x2 * tenI (max p1 p2 - p2)); omega)) (by omega)) (fun v59 w59 p59 => ?_)
   obtain ⟨s59, rfl, os_59, c59⟩ := p59
   have zw59 := c59.size
   have s60 : Chg b6 (b6 + 1) w37 w59 := (Chg.zero (l := b6) (h := (b6 + 1)) ((((d46.t c49).t c54).t c57).t c59))
   refine wl_nil ?_
   refine dx_next s60 ?_
   refine dx_take 9 rfl rfl rfl rfl (by kernel_rfl) (by kernel_rfl) (by kernel_rfl) s60 (fun _ hS => px_extract (vs := [.agg #[.bool ((decR ((x1 * tenI ((max p1 p2) - p1)) + (x2 * tenI ((max p1 p2) - p2))) (max p1 p2)).1), s59, .int .i64 ((decR ((x1 * tenI ((max p1 p2) - p1)) + (x2 * tenI ((max p1 p2) - p2))) (max p1 p2)).2.2.1)], .bool ((decR ((x1 * tenI ((max p1 p2) - p1)) + (x2 * tenI ((max p1 p2) - p2))) (max p1 p2)).2.2.2)]) rfl rfl) ?_
   refine dx_take 10 rfl rfl rfl rfl (by kernel_rfl) (by kernel_rfl) (by kernel_rfl) s60 (fun _ hS => px_extract (vs := [.agg #[.bool ((decR ((x1 * tenI ((max p1 p2) - p1)) + (x2 * tenI ((max p1 p2) - p2))) (max p1 p2)).1), s59, .int .i64 ((decR ((x1 * tenI ((max p1 p2) - p1)) + (x2 * tenI ((max p1 p2) - p2))) (max p1 p2)).2.2.1)], .bool ((decR ((x1 * tenI ((max p1 p2) - p1)) + (x2 * tenI ((max p1 p2) - p2))) (max p1 p2)).2.2.2)]) rfl rfl) ?_
   refine dx_eff 11 rfl (by kernel_rfl) ?_
   have f62 := fb6.ext c15
   have f63 := f62.ext c26
   have f64 := f63.ext c37
   have f65 := f64.ext d46
   have f66 := f65.ext c49
   have f67 := f66.ext c54
   have f68 := f67.ext c57
   have f69 := f68.ext c59
   refine sx_store (vs := [.bool ((decR ((x1 * tenI ((max p1 p2) - p1)) + (x2 * tenI ((max p1 p2) - p2))) (max p1 p2)).1), s59, .int .i64 ((decR ((x1 * tenI ((max p1 p2) - p1)) + (x2 * tenI ((max p1 p2) - p2))) (max p1 p2)).2.2.1)]) rfl rfl f69 rfl Try.sizeOf31 (Nat.le_of_ble_eq_true rfl) (one_cons rfl (one_cons os_59.one (one_cons rfl one_nil))) (fun w61 sw61 fw61 cw61 => ?_)
   have zw61 := cw61.size
   have gw61 : Blk w61 b6 [.bool ((decR ((x1 * tenI ((max p1 p2) - p1)) + (x2 * tenI ((max p1 p2) - p2))) (max p1 p2)).1), s59, .int .i64 ((decR ((x1 * tenI ((max p1 p2) - p1)) + (x2 * tenI ((max p1 p2) - p2))) (max p1 p2)).2.2.1)] 31 := fw61
   have q71 := Chg.step (l := b6) (h := (b6 + 1)) (Chg.zero (l := b6) (h := (b6 + 1)) ((((d46.t c49).t c54).t c57).t c59)) cw61 (by omega)
   have s70 : Chg b6 (b6 + 1) w37 w61 := q71
   refine wl_nil ?_
   refine dx_next s70 ?_
   refine dx_take 12 rfl rfl rfl rfl (by kernel_rfl) (by kernel_rfl) (by kernel_rfl) s70 (fun _ hS => px_assign rfl) ?_
   refine dx_done (by kernel_rfl) ?_
   refine q_n (k38 _ _ ?_)
   refine sx_sub (Sub.cons (t := 4) rfl (.cons (t := 5) rfl (.nil))) ?_
   refine sx_retc ?_
   refine sx_ret2 Try.results37 ⟨_, rfl, gw61.loadA (vs := [.bool ((decR ((x1 * tenI ((max p1 p2) - p1)) + (x2 * tenI ((max p1 p2) - p2))) (max p1 p2)).1), s59, .int .i64 ((decR ((x1 * tenI ((max p1 p2) - p1)) + (x2 * tenI ((max p1 p2) - p2))) (max p1 p2)).2.2.1)]) (look_lit rfl) Try.isAgg31 Try.sizeOf31⟩ rfl ?_
   rw [dBin_ok hD1 hD2]
   have q72 := Chg.step (l := 0) (h := 0) (Chg.zero (l := 0) (h := 0) ((((((((((cb2.t cb4).t cb6).t c15).t c26).t c37).t d46).t c49).t c54).t c57).t c59)) cw61 (by omega)
   have f73 := os_59.chg cw61 (by omega)
   exact ⟨_, rfl, (Own.mono f73 (by omega) (by omega)), decR_len _ _, q72⟩

theorem c_eqIntS {w : World} {va : Value} {lva uva : Nat} {zs : List Int} {vb : Value} {lvb uvb : Nat} {ys : List Int} (hva : Sl w lva uva va (zs)) (hvb : Sl w lvb uvb vb (ys)) (h63 : zs.length ≤ 4611686018427387904 ∧ ys.length ≤ 4611686018427387904) :
  Ret Try.prog 46 [va, vb] w fun v w' => v = .bool (decide (zs = ys)) ∧ Chg 0 0 w w' := by
 have hva0 := hva.fit
 have hvb0 := hvb.fit
 have hneq : zs.length ≠ ys.length → zs ≠ ys := fun h e => h (by rw [e])
 refine sx_enter Try.func46 rfl Try.ntmps46 (Nat.le_of_ble_eq_true rfl) ?_
 refine sx_seq fun K1 k1 => sx_region ?_
 refine sa rfl rfl rfl rfl ?_
 refine wl_nil (q_n (k1 _ _ ?_))
 refine sx_seq fun K2 k2 => ?_
 refine sx_seq fun K3 k3 => sx_region ?_
 refine sm rfl rfl rfl rfl ?_
 refine sx_pure rfl rfl rfl (px_len rfl Try.underlying22 hva0) ?_
 refine sm rfl rfl rfl rfl ?_
 refine sx_pure rfl rfl rfl (px_len rfl Try.underlying22 hvb0) ?_
 refine sx_pure rfl rfl rfl (px_ne rfl rfl) ?_
 refine wl_nil (q_n (k3 _ _ ?_))
 refine sx_condP rfl (fun h210 => ?_) (fun h210 => ?_)
 ·
  refine sx_seq fun K4 k4 => sx_region ?_
  refine sa rfl rfl rfl rfl ?_
  refine wl_nil (q_n (k4 _ _ ?_))
  refine sx_retc ?_
  refine q_r (sx_ret1 Try.results46 rfl ?_)
  exact ⟨bFalse (hneq (by omega)), (Chg.refl 0 0 _)⟩
 ·
  refine sx_skip ?_
  refine q_n (k2 _ _ ?_)
  refine sx_seq fun K5 k5 => ?_
  refine sx_seq fun K6 k6 => sx_region ?_
  refine sa rfl rfl rfl rfl ?_
  refine wl_nil (q_n (k6 _ _ ?_))
  refine sx_block ?_
  refine sx_loop (fun mm aa w' => ∃ (k : Nat), Agr 26 [(0, va), (1, vb), (5, .int .i64 ↑k)] aa ∧ Chg 0 0 w w' ∧ (mm = zs.length - k) ∧ (k ≤ zs.length) ∧ (zs.take k = ys.take k)) (_) (fun a ha => ⟨0, ha.sub (Sub.cons (t := 0) rfl (.cons (t := 1) rfl (.cons (t := 5) (look_int (t := 5) rfl (by first | omega | simp)) (.nil)))), Chg.refl _ _ _, rfl, by omega, by simp⟩) ?_
  rintro mm aa wl7 ⟨k, hAwl7, cwl7, hm, hk, he⟩
  refine (show cw Try.prog 26 _ _ _ wl7 from ?_) aa hAwl7
  clear hAwl7
  have zwl7 := cwl7.size
  refine sx_seq fun K8 k8 => ?_
  refine sx_seq fun K9 k9 => sx_region ?_
  refine sm rfl rfl rfl rfl ?_
  refine sm rfl rfl rfl rfl ?_
  have f10 := hva0.ext cwl7
  refine sx_pure rfl rfl rfl (px_len rfl Try.underlying22 f10) ?_
  refine sx_pure rfl rfl rfl (px_lt rfl rfl) ?_
  refine wl_nil (q_n (k9 _ _ ?_))
  refine sx_condP rfl (fun h213 => ?_) (fun h213 => ?_)
  ·
   refine sx_skip ?_
   refine q_n (k8 _ _ ?_)
   refine sx_seq fun K11 k11 => ?_
   refine sx_block ?_
   refine sx_seq fun K12 k12 => ?_
   have f13 := hvb0.ext cwl7
   refine dx_region (fun w' => Chg 0 0 wl7 w') (by kernel_rfl) (Chg.zero (Chg.drew _)) ?_
   have d14 := Chg.drew wl7
   have s14 : Chg 0 0 wl7 (World.drew wl7) := Chg.zero (Chg.drew _)
   have y14 : (World.drew wl7).heap.size = wl7.heap.size := rfl
   generalize World.drew wl7 = w14 at *
   have zw14 := d14.size
   refine dx_take 0 rfl rfl rfl rfl (by kernel_rfl) (by kernel_rfl) (by kernel_rfl) s14 (fun _ hS => px_move rfl) ?_
   refine dx_take 1 rfl rfl rfl rfl (by kernel_rfl) (by kernel_rfl) (by kernel_rfl) s14 (fun _ hS => px_move rfl) ?_
   refine dx_take 2 rfl rfl rfl rfl (by kernel_rfl) (by kernel_rfl) (by kernel_rfl) s14 (fun _ hS => px_index1 (j := k) rfl rfl (by omega) Try.underlying22 Try.sizeOf3 ((f10).chg hS (by omega)) (by omega)) ?_
   refine dx_take 3 rfl rfl rfl rfl (by kernel_rfl) (by kernel_rfl) (by kernel_rfl) s14 (fun _ hS => px_load rfl (((f10).chg hS (by omega)).load1 (at_int (by omega)) Try.isAgg3)) ?_
   refine dx_take 4 rfl rfl rfl rfl (by kernel_rfl) (by kernel_rfl) (by kernel_rfl) s14 (fun _ hS => px_move rfl) ?_
   refine dx_take 5 rfl rfl rfl rfl (by kernel_rfl) (by kernel_rfl) (by kernel_rfl) s14 (fun _ hS => px_move rfl) ?_
   refine dx_take 6 rfl rfl rfl rfl (by kernel_rfl) (by kernel_rfl) (by kernel_rfl) s14 (fun _ hS => px_index1 (j := k) rfl rfl (by omega) Try.underlying22 Try.sizeOf3 ((f13).chg hS (by omega)) (by omega)) ?_
   refine dx_take 7 rfl rfl rfl rfl (by kernel_rfl) (by kernel_rfl) (by kernel_rfl) s14 (fun _ hS => px_load rfl (((f13).chg hS (by omega)).load1 (at_int (by omega)) Try.isAgg3)) ?_
   refine dx_take 8 rfl rfl rfl rfl (by kernel_rfl) (by kernel_rfl) (by kernel_rfl) s14 (fun _ hS => px_ne rfl rfl) ?_
   refine dx_done (by kernel_rfl) ?_
   refine q_n (k12 _ _ ?_)
   refine sx_sub (Sub.cons (t := 0) rfl (.cons (t := 1) rfl (.cons (t := 5) rfl (.cons (t := 25) rfl (.nil))))) ?_
   refine sx_condP rfl (fun h214 => ?_) (fun h214 => ?_)
   ·
    refine sx_seq fun K15 k15 => sx_region ?_
    refine sa rfl rfl rfl rfl ?_
    refine wl_nil (q_n (k15 _ _ ?_))
    refine sx_retc ?_
    refine q_br (q_r (q_r (q_br (q_r (sx_ret1 Try.results46 rfl ?_)))))
    exact ⟨bFalse (ne_of_getD h214), (cwl7.t d14)⟩
   ·
    refine sx_skip ?_
    refine q_bn (q_n (k11 _ _ ?_))
    refine sx_region ?_
    refine sm rfl rfl rfl rfl ?_
    refine sx_pure rfl rfl rfl (px_add rfl rfl (by omega)) ?_
    refine sa rfl rfl rfl rfl ?_
    refine wl_nil ?_
    exact fun a ha => ⟨_, by omega, (k + 1), ha.sub (Sub.cons (t := 0) rfl (.cons (t := 1) rfl (.cons (t := 5) (look_int (t := 5) rfl (by first | omega | simp)) (.nil)))), (cwl7.t d14), rfl, by omega, take_succ_eq he (by omega) (by omega) (Decidable.not_not.1 h214)⟩
  ·
   refine sx_exit ?_
   refine q_e (q_e (q_bx (q_n (k5 _ _ ?_))))
   refine sx_seq fun K16 k16 => sx_region ?_
   refine sa rfl rfl rfl rfl ?_
   refine wl_nil (q_n (k16 _ _ ?_))
   refine sx_retc ?_
   refine sx_ret1 Try.results46 rfl ?_
   have e1 : k = zs.length := by omega
   rw [e1, List.take_length, List.take_of_length_le (by omega)] at he
   exact ⟨bTrue he, cwl7⟩

theorem c_eqSigned {w : World} {n1 : Bool} {v1 : Value} {lv1 uv1 : Nat} {z1 : List Int} {n2 : Bool} {v2 : Value} {lv2 uv2 : Nat} {z2 : List Int} (hv1 : Sl w lv1 uv1 v1 (z1)) (hv2 : Sl w lv2 uv2 v2 (z2)) (h63 : z1.length ≤ 4611686018427387904 ∧ z2.length ≤ 4611686018427387904) :
  Ret Try.prog 45 [.agg #[.bool n1, v1], .agg #[.bool n2, v2]] w fun v w' => v = .bool (decide (n1 = n2 ∧ z1 = z2)) ∧ Chg 0 0 w w' := by
 have hv10 := hv1.fit
 have hv20 := hv2.fit
 refine sx_enter Try.func45 rfl Try.ntmps45 (Nat.le_of_ble_eq_true rfl) ?_
 refine sx_seq fun K1 k1 => sx_region ?_
 refine sx_box [.bool n1, v1] rfl rfl rfl (fun b2 w3 eb2 sb2 fb2 cb2 => ?_)
 have zw3 := cb2.size
 refine sx_box [.bool n2, v2] rfl rfl rfl (fun b4 w5 eb4 sb4 fb4 cb4 => ?_)
 have zw5 := cb4.size
 refine sa rfl rfl rfl rfl ?_
 refine wl_nil (q_n (k1 _ _ ?_))
 refine sx_seq fun K6 k6 => ?_
 refine sx_seq fun K7 k7 => sx_region ?_
 refine sx_pure rfl rfl rfl (px_field rfl xfld29x0) ?_
 have f8 := fb2.ext cb4
 refine sx_pure rfl rfl rfl (px_load rfl (f8.load1 rfl Try.isAgg4)) ?_
 refine sx_pure rfl rfl rfl (px_field rfl xfld29x0) ?_
 refine sx_pure rfl rfl rfl (px_load rfl (fb4.load1 rfl Try.isAgg4)) ?_
 refine sx_pure rfl rfl rfl (px_neB Try.underlying4 rfl rfl) ?_
 refine wl_nil (q_n (k7 _ _ ?_))
 refine sx_condB rfl (fun h263 => ?_) (fun h263 => ?_)
 ·
  refine sx_seq fun K9 k9 => sx_region ?_
  refine sa rfl rfl rfl rfl ?_
  refine wl_nil (q_n (k9 _ _ ?_))
  refine sx_retc ?_
  refine q_r (sx_ret1 Try.results45 rfl ?_)
  exact ⟨(by first | exact bTrue (by grind) | exact bFalse (by grind) | exact bIff (by grind)), (cb2.t cb4)⟩
 ·
  refine sx_skip ?_
  refine q_n (k6 _ _ ?_)
  refine sx_seq fun K10 k10 => ?_
  refine sx_seq fun K11 k11 => sx_region ?_
  refine sx_pure rfl rfl rfl (px_field rfl xfld29x1) ?_
  refine sx_pure rfl rfl rfl (px_load rfl (f8.load1 rfl Try.isAgg22)) ?_
  refine sx_pure rfl rfl rfl (px_field rfl xfld29x1) ?_
  refine sx_pure rfl rfl rfl (px_load rfl (fb4.load1 rfl Try.isAgg22)) ?_
  have f12 := hv10.ext cb2
  have f13 := f12.ext cb4
  have f14 := hv20.ext cb2
  have f15 := f14.ext cb4
  refine sx_call rfl rfl Try.call46 (c_eqIntS f13 f15 (by omega)) (fun v16 w16 p16 => ?_)
  obtain ⟨rfl, c16⟩ := p16
  have zw16 := c16.size
  refine sx_pure rfl rfl rfl (px_notP rfl) ?_
  refine wl_nil (q_n (k11 _ _ ?_))
  refine sx_sub (Sub.cons (t := 4) rfl (.cons (t := 15) rfl (.nil))) ?_
  refine sx_condP rfl (fun h266 => ?_) (fun h266 => ?_)
  ·
   refine sx_seq fun K17 k17 => sx_region ?_
   refine sa rfl rfl rfl rfl ?_
   refine wl_nil (q_n (k17 _ _ ?_))
   refine sx_retc ?_
   refine q_r (sx_ret1 Try.results45 rfl ?_)
   exact ⟨(by first | exact bTrue (by grind) | exact bFalse (by grind) | exact bIff (by grind)), ((cb2.t cb4).t c16)⟩
  ·
   refine sx_skip ?_
   refine q_n (k10 _ _ ?_)
   refine sx_seq fun K18 k18 => sx_region ?_
   refine sa rfl rfl rfl rfl ?_
   refine wl_nil (q_n (k18 _ _ ?_))
   refine sx_retc ?_
   refine sx_ret1 Try.results45 rfl ?_
   exact ⟨(by first | exact bTrue (by grind) | exact bFalse (by grind) | exact bIff (by grind)), ((cb2.t cb4).t c16)⟩

theorem c_eqDec {w : World} {n1 : Bool} {v1 : Value} {lv1 uv1 : Nat} {z1 : List Int} {p1 : Int} {n2 : Bool} {v2 : Value} {lv2 uv2 : Nat} {z2 : List Int} {p2 : Int} (hv1 : Sl w lv1 uv1 v1 (z1)) (hv2 : Sl w lv2 uv2 v2 (z2)) (h63 : z1.length ≤ 4611686018427387904 ∧ z2.length ≤ 4611686018427387904) :
  Ret Try.prog 19 [.agg #[.bool n1, v1, .int .i64 p1], .agg #[.bool n2, v2, .int .i64 p2]] w fun v w' => v = .bool (decide (n1 = n2 ∧ z1 = z2 ∧ p1 = p2)) ∧ Chg 0 0 w w' := by
 have hv10 := hv1.fit
 have hv20 := hv2.fit
 refine sx_enter Try.func19 rfl Try.ntmps19 (Nat.le_of_ble_eq_true rfl) ?_
 refine sx_seq fun K1 k1 => sx_region ?_
 refine sx_box [.bool n1, v1, .int .i64 p1] rfl rfl rfl (fun b2 w3 eb2 sb2 fb2 cb2 => ?_)
 have zw3 := cb2.size
 refine sx_box [.bool n2, v2, .int .i64 p2] rfl rfl rfl (fun b4 w5 eb4 sb4 fb4 cb4 => ?_)
 have zw5 := cb4.size
 refine sa rfl rfl rfl rfl ?_
 refine wl_nil (q_n (k1 _ _ ?_))
 refine sx_seq fun K6 k6 => ?_
 refine sx_seq fun K7 k7 => sx_region ?_
 refine sx_pure rfl rfl rfl (px_field rfl xfld31x0) ?_
 have f8 := fb2.ext cb4
 refine sx_pure rfl rfl rfl (px_load rfl (f8.loadA (vs := [.bool n1, v1]) (look_lit rfl) Try.isAgg29 Try.sizeOf29)) ?_
 refine sx_pure rfl rfl rfl (px_field rfl xfld31x0) ?_
 refine sx_pure rfl rfl rfl (px_load rfl (fb4.loadA (vs := [.bool n2, v2]) (look_lit rfl) Try.isAgg29 Try.sizeOf29)) ?_
 have f9 := hv10.ext cb2
 have f10 := f9.ext cb4
 have f11 := hv20.ext cb2
 have f12 := f11.ext cb4
 refine sx_call rfl rfl Try.call45 (c_eqSigned f10 f12 (by omega)) (fun v13 w13 p13 => ?_)
 obtain ⟨rfl, c13⟩ := p13
 have zw13 := c13.size
 refine sx_pure rfl rfl rfl (px_notP rfl) ?_
 refine wl_nil (q_n (k7 _ _ ?_))
 refine sx_condP rfl (fun h405 => ?_) (fun h405 => ?_)
 ·
  refine sx_seq fun K14 k14 => sx_region ?_
  refine sa rfl rfl rfl rfl ?_
  refine wl_nil (q_n (k14 _ _ ?_))
  refine sx_retc ?_
  refine q_r (sx_ret1 Try.results19 rfl ?_)
  exact ⟨(by first | exact bTrue (by grind) | exact bFalse (by grind) | exact bIff (by grind)), ((cb2.t cb4).t c13)⟩
 ·
  refine sx_skip ?_
  refine q_n (k6 _ _ ?_)
  refine sx_seq fun K15 k15 => ?_
  refine sx_seq fun K16 k16 => sx_region ?_
  refine sx_pure rfl rfl rfl (px_field rfl xfld31x1) ?_
  have f17 := f8.ext c13
  refine sx_pure rfl rfl rfl (px_load rfl (f17.load1 rfl Try.isAgg3)) ?_
  refine sx_pure rfl rfl rfl (px_field rfl xfld31x1) ?_
  have f18 := fb4.ext c13
  refine sx_pure rfl rfl rfl (px_load rfl (f18.load1 rfl Try.isAgg3)) ?_
  refine sx_pure rfl rfl rfl (px_ne rfl rfl) ?_
  refine wl_nil (q_n (k16 _ _ ?_))
  refine sx_sub (Sub.cons (t := 4) rfl (.cons (t := 15) rfl (.nil))) ?_
  refine sx_condP rfl (fun h408 => ?_) (fun h408 => ?_)
  ·
   refine sx_seq fun K19 k19 => sx_region ?_
   refine sa rfl rfl rfl rfl ?_
   refine wl_nil (q_n (k19 _ _ ?_))
   refine sx_retc ?_
   refine q_r (sx_ret1 Try.results19 rfl ?_)
   exact ⟨(by first | exact bTrue (by grind) | exact bFalse (by grind) | exact bIff (by grind)), ((cb2.t cb4).t c13)⟩
  ·
   refine sx_skip ?_
   refine q_n (k15 _ _ ?_)
   refine sx_seq fun K20 k20 => sx_region ?_
   refine sa rfl rfl rfl rfl ?_
   refine wl_nil (q_n (k20 _ _ ?_))
   refine sx_retc ?_
   refine sx_ret1 Try.results19 rfl ?_
   exact ⟨(by first | exact bTrue (by grind) | exact bFalse (by grind) | exact bIff (by grind)), ((cb2.t cb4).t c13)⟩

theorem c_markIntS {w : World} {va : Value} {lva uva : Nat} {zs : List Int} {n : Int} (hva : OwnI w lva uva va intT (zs)) (h63 : zs.length ≤ 1048576) (hn : 0 ≤ n ∧ n ≤ 4611686018427387904) :
  Ret Try.prog 48 [va, .int .i64 n] w fun v w' => v = .int .i64 (n + ↑(zs).length) ∧ OwnI w' (lva) (uva) va intT (mk n (zs).length) ∧ Chg lva uva w w' := by
 refine sx_enter Try.func48 rfl Try.ntmps48 (Nat.le_of_ble_eq_true rfl) ?_
 refine sx_seq fun K1 k1 => sx_region ?_
 refine sa rfl rfl rfl rfl ?_
 refine wl_nil (q_n (k1 _ _ ?_))
 refine sx_seq fun K2 k2 => ?_
 refine sx_seq fun K3 k3 => sx_region ?_
 refine sa rfl rfl rfl rfl ?_
 refine wl_nil (q_n (k3 _ _ ?_))
 refine sx_block ?_
 refine sx_loop (fun mm aa w' => ∃ (k : Nat) (os : List Int), Agr 19 [(0, va), (1, .int .i64 (n + ↑k)), (5, .int .i64 ↑k)] aa ∧ Chg lva uva w w' ∧ Own w' lva uva va intT os.length 1 (os.map (Value.int .i64)) ∧ (mm = zs.length - k) ∧ (k ≤ zs.length) ∧ (os.length = zs.length) ∧ (os.take k = mk n k)) (_) (fun a ha => ⟨0, zs, ha.sub (Sub.cons (t := 0) rfl (.cons (t := 1) (look_int (t := 1) rfl (by first | omega | simp)) (.cons (t := 5) (look_int (t := 5) rfl (by first | omega | simp)) (.nil)))), Chg.refl _ _ _, hva, rfl, by omega, rfl, rfl⟩) ?_
 rintro mm aa wl4 ⟨k, os, hAwl4, cwl4, hs_va, hm, hk, ho, he⟩
 refine (show cw Try.prog 19 _ _ _ wl4 from ?_) aa hAwl4
 clear hAwl4
 have zwl4 := cwl4.size
 refine sx_seq fun K5 k5 => ?_
 refine sx_seq fun K6 k6 => sx_region ?_
 refine sm rfl rfl rfl rfl ?_
 refine sm rfl rfl rfl rfl ?_
 refine sx_pure rfl rfl rfl (px_len rfl Try.underlying22 hs_va.sv) ?_
 refine sx_pure rfl rfl rfl (px_lt rfl rfl) ?_
 refine wl_nil (q_n (k6 _ _ ?_))
 refine sx_condP rfl (fun h222 => ?_) (fun h222 => ?_)
 ·
  refine sx_skip ?_
  refine q_n (k5 _ _ ?_)
  refine sx_seq fun K7 k7 => ?_
  refine sx_block ?_
  refine sx_seq fun K8 k8 => sx_region ?_
  refine sm rfl rfl rfl rfl ?_
  refine sm rfl rfl rfl rfl ?_
  refine sm rfl rfl rfl rfl ?_
  refine sx_pure rfl rfl rfl (px_index1 (j := k) rfl rfl (by omega) Try.underlying22 Try.sizeOf3 hs_va.sv (by omega)) ?_
  refine sx_storeO rfl rfl hs_va (by first | omega | (simp only [List.length_map]; omega)) Try.sizeOf3 rfl (fun w9 sw9 fw9 cw9 => ?_)
  have zw9 := cw9.size
  have nw9 := fw9.set
  refine wl_nil (q_n (k8 _ _ ?_))
  refine sx_region ?_
  refine sm rfl rfl rfl rfl ?_
  refine sx_pure rfl rfl rfl (px_add rfl rfl (by omega)) ?_
  refine sa rfl rfl rfl rfl ?_
  refine wl_nil ?_
  refine q_bn (q_n (k7 _ _ ?_))
  refine sx_region ?_
  refine sm rfl rfl rfl rfl ?_
  refine sx_pure rfl rfl rfl (px_add rfl rfl (by omega)) ?_
  refine sa rfl rfl rfl rfl ?_
  refine wl_nil ?_
  have q10 := Chg.step (l := lva) (h := uva) cwl4 cw9 (by omega)
  exact fun a ha => ⟨_, by omega, (k + 1), (os.set k (n + ↑k)), ha.sub (Sub.cons (t := 0) rfl (.cons (t := 1) (look_int (t := 1) rfl (by first | omega | simp)) (.cons (t := 5) (look_int (t := 5) rfl (by first | omega | simp)) (.nil)))), q10, (nw9.mono (by omega) (by omega)), rfl, by omega, by simp [ho], mk_set he (by omega)⟩
 ·
  refine sx_exit ?_
  refine q_e (q_e (q_bx (q_n (k2 _ _ ?_))))
  refine sx_seq fun K11 k11 => sx_region ?_
  refine sm rfl rfl rfl rfl ?_
  refine sa rfl rfl rfl rfl ?_
  refine wl_nil (q_n (k11 _ _ ?_))
  refine sx_retc ?_
  refine sx_ret1 Try.results48 rfl ?_
  have ek : k = zs.length := by omega
  subst ek
  rw [← ho, List.take_length, ho] at he
  subst he
  exact ⟨rfl, hs_va, cwl4⟩

theorem c_markSigned {w : World} {n1 : Bool} {v1 : Value} {lv1 uv1 : Nat} {z1 : List Int} {n : Int} (hv1 : OwnI w lv1 uv1 v1 intT (z1)) (h63 : z1.length ≤ 1048576) (hn : 0 ≤ n ∧ n ≤ 4611686018427387904) :
  Ret Try.prog 47 [.agg #[.bool n1, v1], .int .i64 n] w fun v w' => v = .int .i64 (n + ↑(z1).length) ∧ OwnI w' (lv1) (uv1) v1 intT (mk n (z1).length) ∧ Chg lv1 uv1 w w' := by
 refine sx_enter Try.func47 rfl Try.ntmps47 (Nat.le_of_ble_eq_true rfl) ?_
 refine sx_seq fun K1 k1 => sx_region ?_
 refine sx_box [.bool n1, v1] rfl rfl rfl (fun b2 w3 eb2 sb2 fb2 cb2 => ?_)
 have zw3 := cb2.size
 refine sa rfl rfl rfl rfl ?_
 refine wl_nil (q_n (k1 _ _ ?_))
 refine sx_seq fun K4 k4 => sx_region ?_
 refine sx_pure rfl rfl rfl (px_field rfl xfld29x1) ?_
 refine sx_pure rfl rfl rfl (px_load rfl (fb2.load1 rfl Try.isAgg22)) ?_
 refine sm rfl rfl rfl rfl ?_
 have f5 := hv1.ext cb2
 refine sx_call rfl rfl Try.call48 (c_markIntS f5 (by omega) (by omega)) (fun v6 w6 p6 => ?_)
 obtain ⟨rfl, ova_6, c6⟩ := p6
 have zw6 := c6.size
 refine sa rfl rfl rfl rfl ?_
 refine wl_nil (q_n (k4 _ _ ?_))
 refine sx_seq fun K7 k7 => sx_region ?_
 refine sm rfl rfl rfl rfl ?_
 refine sa rfl rfl rfl rfl ?_
 refine wl_nil (q_n (k7 _ _ ?_))
 refine sx_retc ?_
 refine sx_ret1 Try.results47 rfl ?_
 have q8 := Chg.step (l := lv1) (h := uv1) (Chg.zero (l := lv1) (h := uv1) cb2) c6 (by omega)
 exact ⟨rfl, ova_6, q8⟩

theorem c_markDec {w : World} {n1 : Bool} {v1 : Value} {lv1 uv1 : Nat} {z1 : List Int} {p1 : Int} {n : Int} (hv1 : OwnI w lv1 uv1 v1 intT (z1)) (h63 : z1.length ≤ 1048576) (hn : 0 ≤ n ∧ n ≤ 4611686018427387904) :
  Ret Try.prog 27 [.agg #[.bool n1, v1, .int .i64 p1], .int .i64 n] w fun v w' => v = .int .i64 (n + ↑(z1).length) ∧ OwnI w' (lv1) (uv1) v1 intT (mk n (z1).length) ∧ Chg lv1 uv1 w w' := by
 refine sx_enter Try.func27 rfl Try.ntmps27 (Nat.le_of_ble_eq_true rfl) ?_
 refine sx_seq fun K1 k1 => sx_region ?_
 refine sx_box [.bool n1, v1, .int .i64 p1] rfl rfl rfl (fun b2 w3 eb2 sb2 fb2 cb2 => ?_)
 have zw3 := cb2.size
 refine sa rfl rfl rfl rfl ?_
 refine wl_nil (q_n (k1 _ _ ?_))
 refine sx_seq fun K4 k4 => sx_region ?_
 refine sx_pure rfl rfl rfl (px_field rfl xfld31x0) ?_
 refine sx_pure rfl rfl rfl (px_load rfl (fb2.loadA (vs := [.bool n1, v1]) (look_lit rfl) Try.isAgg29 Try.sizeOf29)) ?_
 refine sm rfl rfl rfl rfl ?_
 have f5 := hv1.ext cb2
 refine sx_call rfl rfl Try.call47 (c_markSigned f5 (by omega) (by omega)) (fun v6 w6 p6 => ?_)
 obtain ⟨rfl, ov1_6, c6⟩ := p6
 have zw6 := c6.size
 refine sa rfl rfl rfl rfl ?_
 refine wl_nil (q_n (k4 _ _ ?_))
 refine sx_seq fun K7 k7 => sx_region ?_
 refine sm rfl rfl rfl rfl ?_
 refine sa rfl rfl rfl rfl ?_
 refine wl_nil (q_n (k7 _ _ ?_))
 refine sx_retc ?_
 refine sx_ret1 Try.results27 rfl ?_
 have q8 := Chg.step (l := lv1) (h := uv1) (Chg.zero (l := lv1) (h := uv1) cb2) c6 (by omega)
 exact ⟨rfl, ov1_6, q8⟩

theorem c_heldIntS {w : World} {va : Value} {lva uva : Nat} {zs : List Int} {n : Int} (hva : Sl w lva uva va (zs)) (h63 : zs.length ≤ 1048576) (hn : 0 ≤ n ∧ n ≤ 4611686018427387904) (hz : zs = mk n zs.length) :
  Ret Try.prog 94 [va, .int .i64 n] w fun v w' => v = .int .i64 (n + ↑(zs).length) ∧ Chg 0 0 w w' := by
 have hva0 := hva.fit
 refine sx_enter Try.func94 rfl Try.ntmps94 (Nat.le_of_ble_eq_true rfl) ?_
 refine sx_seq fun K1 k1 => sx_region ?_
 refine sa rfl rfl rfl rfl ?_
 refine wl_nil (q_n (k1 _ _ ?_))
 refine sx_seq fun K2 k2 => ?_
 refine sx_seq fun K3 k3 => sx_region ?_
 refine sa rfl rfl rfl rfl ?_
 refine wl_nil (q_n (k3 _ _ ?_))
 refine sx_block ?_
 refine sx_loop (fun mm aa w' => ∃ (k : Nat), Agr 21 [(0, va), (1, .int .i64 (n + ↑k)), (5, .int .i64 ↑k)] aa ∧ Chg 0 0 w w' ∧ (mm = zs.length - k) ∧ (k ≤ zs.length)) (_) (fun a ha => ⟨0, ha.sub (Sub.cons (t := 0) rfl (.cons (t := 1) (look_int (t := 1) rfl (by first | omega | simp)) (.cons (t := 5) (look_int (t := 5) rfl (by first | omega | simp)) (.nil)))), Chg.refl _ _ _, rfl, by omega⟩) ?_
 rintro mm aa wl4 ⟨k, hAwl4, cwl4, hm, hk⟩
 refine (show cw Try.prog 21 _ _ _ wl4 from ?_) aa hAwl4
 clear hAwl4
 have zwl4 := cwl4.size
 refine sx_seq fun K5 k5 => ?_
 refine sx_seq fun K6 k6 => sx_region ?_
 refine sm rfl rfl rfl rfl ?_
 refine sm rfl rfl rfl rfl ?_
 have f7 := hva0.ext cwl4
 refine sx_pure rfl rfl rfl (px_len rfl Try.underlying22 f7) ?_
 refine sx_pure rfl rfl rfl (px_lt rfl rfl) ?_
 refine wl_nil (q_n (k6 _ _ ?_))
 refine sx_condP rfl (fun h230 => ?_) (fun h230 => ?_)
 ·
  refine sx_skip ?_
  refine q_n (k5 _ _ ?_)
  refine sx_seq fun K8 k8 => ?_
  refine sx_block ?_
  refine sx_seq fun K9 k9 => ?_
  refine sx_seq fun K10 k10 => sx_region ?_
  refine sm rfl rfl rfl rfl ?_
  refine sm rfl rfl rfl rfl ?_
  refine sx_pure rfl rfl rfl (px_index1 (j := k) rfl rfl (by omega) Try.underlying22 Try.sizeOf3 f7 (by omega)) ?_
  refine sx_pure rfl rfl rfl (px_load rfl (f7.load1 (at_int (by omega)) Try.isAgg3)) ?_
  refine sm rfl rfl rfl rfl ?_
  refine sx_pure rfl rfl rfl (px_ne rfl rfl) ?_
  refine wl_nil (q_n (k10 _ _ ?_))
  have h231 : ¬ (((zs).getD k 0 : Int) ≠ n + ↑k) := fun h => h (by rw [hz]; exact mk_getD (by omega))
  refine sx_condPF rfl h231 ?_
  refine sx_skip ?_
  refine q_n (k9 _ _ ?_)
  refine sx_region ?_
  refine sm rfl rfl rfl rfl ?_
  refine sx_pure rfl rfl rfl (px_add rfl rfl (by omega)) ?_
  refine sa rfl rfl rfl rfl ?_
  refine wl_nil ?_
  refine q_bn (q_n (k8 _ _ ?_))
  refine sx_sub (Sub.cons (t := 0) rfl (.cons (t := 1) rfl (.cons (t := 5) rfl (.nil)))) ?_
  refine sx_region ?_
  refine sm rfl rfl rfl rfl ?_
  refine sx_pure rfl rfl rfl (px_add rfl rfl (by omega)) ?_
  refine sa rfl rfl rfl rfl ?_
  refine wl_nil ?_
  exact fun a ha => ⟨_, by omega, (k + 1), ha.sub (Sub.cons (t := 0) rfl (.cons (t := 1) (look_int (t := 1) rfl (by first | omega | simp)) (.cons (t := 5) (look_int (t := 5) rfl (by first | omega | simp)) (.nil)))), cwl4, rfl, by omega⟩
 ·
  refine sx_exit ?_
  refine q_e (q_e (q_bx (q_n (k2 _ _ ?_))))
  refine sx_seq fun K11 k11 => sx_region ?_
  refine sm rfl rfl rfl rfl ?_
  refine sa rfl rfl rfl rfl ?_
  refine wl_nil (q_n (k11 _ _ ?_))
  refine sx_retc ?_
  refine sx_ret1 Try.results94 rfl ?_
  have ek : k = zs.length := by omega
  subst ek
  exact ⟨rfl, cwl4⟩

theorem c_heldSigned {w : World} {n1 : Bool} {v1 : Value} {lv1 uv1 : Nat} {z1 : List Int} {n : Int} (hv1 : Sl w lv1 uv1 v1 (z1)) (h63 : z1.length ≤ 1048576) (hn : 0 ≤ n ∧ n ≤ 4611686018427387904) (hz : z1 = mk n z1.length) :
  Ret Try.prog 55 [.agg #[.bool n1, v1], .int .i64 n] w fun v w' => v = .int .i64 (n + ↑(z1).length) ∧ Chg 0 0 w w' := by
 have hv10 := hv1.fit
 refine sx_enter Try.func55 rfl Try.ntmps55 (Nat.le_of_ble_eq_true rfl) ?_
 refine sx_seq fun K1 k1 => sx_region ?_
 refine sx_box [.bool n1, v1] rfl rfl rfl (fun b2 w3 eb2 sb2 fb2 cb2 => ?_)
 have zw3 := cb2.size
 refine sa rfl rfl rfl rfl ?_
 refine wl_nil (q_n (k1 _ _ ?_))
 refine sx_seq fun K4 k4 => sx_region ?_
 refine sx_pure rfl rfl rfl (px_field rfl xfld29x1) ?_
 refine sx_pure rfl rfl rfl (px_load rfl (fb2.load1 rfl Try.isAgg22)) ?_
 refine sm rfl rfl rfl rfl ?_
 have f5 := hv10.ext cb2
 refine sx_call rfl rfl Try.call94 (c_heldIntS f5 (by omega) (by omega) (by first | assumption | simp [mk_length])) (fun v6 w6 p6 => ?_)
 obtain ⟨rfl, c6⟩ := p6
 have zw6 := c6.size
 refine sa rfl rfl rfl rfl ?_
 refine wl_nil (q_n (k4 _ _ ?_))
 refine sx_seq fun K7 k7 => ?_
 refine sx_seq fun K8 k8 => sx_region ?_
 refine sm rfl rfl rfl rfl ?_
 refine sx_pure rfl rfl rfl (px_lt rfl rfl) ?_
 refine wl_nil (q_n (k8 _ _ ?_))
 have h279 : ¬ ((n + ↑(z1).length : Int) < 0) := by omega
 refine sx_condPF rfl h279 ?_
 refine sx_skip ?_
 refine q_n (k7 _ _ ?_)
 refine sx_seq fun K9 k9 => sx_region ?_
 refine sm rfl rfl rfl rfl ?_
 refine sa rfl rfl rfl rfl ?_
 refine wl_nil (q_n (k9 _ _ ?_))
 refine sx_retc ?_
 refine sx_ret1 Try.results55 rfl ?_
 exact ⟨rfl, (cb2.t c6)⟩

theorem c_heldDec {w : World} {n1 : Bool} {v1 : Value} {lv1 uv1 : Nat} {z1 : List Int} {p1 : Int} {n : Int} (hv1 : Sl w lv1 uv1 v1 (z1)) (h63 : z1.length ≤ 1048576) (hn : 0 ≤ n ∧ n ≤ 4611686018427387904) (hz : z1 = mk n z1.length) :
  Ret Try.prog 28 [.agg #[.bool n1, v1, .int .i64 p1], .int .i64 n] w fun v w' => v = .int .i64 (n + ↑(z1).length) ∧ Chg 0 0 w w' := by
 have hv10 := hv1.fit
 refine sx_enter Try.func28 rfl Try.ntmps28 (Nat.le_of_ble_eq_true rfl) ?_
 refine sx_seq fun K1 k1 => sx_region ?_
 refine sx_box [.bool n1, v1, .int .i64 p1] rfl rfl rfl (fun b2 w3 eb2 sb2 fb2 cb2 => ?_)
 have zw3 := cb2.size
 refine sa rfl rfl rfl rfl ?_
 refine wl_nil (q_n (k1 _ _ ?_))
 refine sx_seq fun K4 k4 => sx_region ?_
 refine sx_pure rfl rfl rfl (px_field rfl xfld31x0) ?_
 refine sx_pure rfl rfl rfl (px_load rfl (fb2.loadA (vs := [.bool n1, v1]) (look_lit rfl) Try.isAgg29 Try.sizeOf29)) ?_
 refine sm rfl rfl rfl rfl ?_
 have f5 := hv10.ext cb2
 refine sx_call rfl rfl Try.call55 (c_heldSigned f5 (by first | omega | (simp only [mk_length]; omega)) (by omega) (by first | assumption | simp [mk_length])) (fun v6 w6 p6 => ?_)
 obtain ⟨rfl, c6⟩ := p6
 have zw6 := c6.size
 refine sa rfl rfl rfl rfl ?_
 refine wl_nil (q_n (k4 _ _ ?_))
 refine sx_seq fun K7 k7 => ?_
 refine sx_seq fun K8 k8 => sx_region ?_
 refine sm rfl rfl rfl rfl ?_
 refine sx_pure rfl rfl rfl (px_lt rfl rfl) ?_
 refine wl_nil (q_n (k8 _ _ ?_))
 have h421 : ¬ ((n + ↑(z1).length : Int) < 0) := by omega
 refine sx_condPF rfl h421 ?_
 refine sx_skip ?_
 refine q_n (k7 _ _ ?_)
 refine sx_seq fun K9 k9 => sx_region ?_
 refine sm rfl rfl rfl rfl ?_
 refine sa rfl rfl rfl rfl ?_
 refine wl_nil (q_n (k9 _ _ ?_))
 refine sx_retc ?_
 refine sx_ret1 Try.results28 rfl ?_
 exact ⟨rfl, (cb2.t c6)⟩

theorem c_IntNeg {w : World} {va : Value} {lva uva : Nat} {x : Int} (hva : Sl w lva uva va (dg x.natAbs)) (hbx : (dg x.natAbs).length ≤ 50) :
  Ret Try.prog 115 [.agg #[.bool (ng x), va]] w fun v w' => ∃ s, v = .agg #[.bool (ng (-x)), s] ∧ OwnI w' w.heap.size w'.heap.size s intT (dg (-x).natAbs) ∧ Chg 0 0 w w' := by
 have hva0 := hva.fit
 refine sx_enter Try.func115 rfl Try.ntmps115 (Nat.le_of_ble_eq_true rfl) ?_
 refine sx_seq fun K1 k1 => sx_region ?_
 refine sx_box [.bool (ng x), va] rfl rfl rfl (fun b2 w3 eb2 sb2 fb2 cb2 => ?_)
 have zw3 := cb2.size
 refine sx_alloc [.bool false, (.slice none 0 0)] rfl Try.zeroValue29 rfl (fun b4 w5 eb4 sb4 fb4 cb4 => ?_)
 have zw5 := cb4.size
 refine wl_nil (q_n (k1 _ _ ?_))
 refine sx_seq fun K6 k6 => ?_
 refine sx_seq fun K7 k7 => sx_region ?_
 have f8 := fb2.ext cb4
 refine sx_pure rfl rfl rfl (px_load rfl (f8.loadA (vs := [.bool (ng x), va]) (look_lit rfl) Try.isAgg29 Try.sizeOf29)) ?_
 have f9 := hva0.ext cb2
 have f10 := f9.ext cb4
 refine sx_call rfl rfl Try.call60 (c_sIntOk f10 (by omega)) (fun v11 w11 p11 => ?_)
 obtain ⟨rfl, c11⟩ := p11
 have zw11 := c11.size
 refine sx_pure rfl rfl rfl (px_notP rfl) ?_
 refine wl_nil (q_n (k7 _ _ ?_))
 have h38 : ¬ (¬ (IOk (ng x) (dg x.natAbs))) := by first | exact fun h => h (IOk_ng (by omega)) | exact fun h => h (IOk_ng (by assumption))
 refine sx_condPF rfl h38 ?_
 refine sx_skip ?_
 refine q_n (k6 _ _ ?_)
 refine sx_seq fun K12 k12 => sx_region ?_
 refine sx_pure rfl rfl rfl (px_field rfl xfld29x0) ?_
 have f13 := f8.ext c11
 refine sx_pure rfl rfl rfl (px_load rfl (f13.load1 rfl Try.isAgg4)) ?_
 refine sx_pure rfl rfl rfl (px_not rfl) ?_
 refine sx_pure rfl rfl rfl (px_field rfl xfld29x1) ?_
 refine sx_pure rfl rfl rfl (px_load rfl (f13.load1 rfl Try.isAgg22)) ?_
 have f14 := f10.ext c11
 refine sx_call rfl rfl Try.call106 (c_l04Make f14 (by omega)) (fun v15 w15 p15 => ?_)
 obtain ⟨s15, rfl, os_15, c15⟩ := p15
 have zw15 := c15.size
 have f17 := fb4.ext c11
 have f18 := f17.ext c15
 refine sx_store (vs := [.bool (ng (capI (!(ng x)) x.natAbs)), s15]) rfl rfl f18 rfl Try.sizeOf29 (Nat.le_of_ble_eq_true rfl) (one_cons rfl (one_cons os_15.one one_nil)) (fun w16 sw16 fw16 cw16 => ?_)
 have zw16 := cw16.size
 have gw16 : Blk w16 b4 [.bool (ng (capI (!(ng x)) x.natAbs)), s15] 29 := fw16
 refine wl_nil (q_n (k12 _ _ ?_))
 refine sx_retc ?_
 refine sx_ret1 Try.results115 ⟨_, rfl, gw16.loadA (vs := [.bool (ng (capI (!(ng x)) x.natAbs)), s15]) (look_lit rfl) Try.isAgg29 Try.sizeOf29⟩ ?_
 have hq := capI_of (neg_sg x)
 rw [cap_ok (by rw [Int.natAbs_neg]; exact hbx)] at hq
 rw [← hq]
 have q19 := Chg.step (l := 0) (h := 0) (Chg.zero (l := 0) (h := 0) (((cb2.t cb4).t c11).t c15)) cw16 (by omega)
 have f20 := os_15.chg cw16 (by omega)
 exact ⟨_, rfl, (Own.mono f20 (by omega) (by omega)), q19⟩

theorem c_IntSub {w : World} {va : Value} {lva uva : Nat} {x : Int} {vb : Value} {lvb uvb : Nat} {y : Int} (hva : Sl w lva uva va (dg x.natAbs)) (hvb : Sl w lvb uvb vb (dg y.natAbs)) (hbx : (dg x.natAbs).length ≤ 50) (hby : (dg y.natAbs).length ≤ 50) :
  Ret Try.prog 81 [.agg #[.bool (ng x), va], .agg #[.bool (ng y), vb]] w fun v w' => ∃ s, v = .agg #[.bool (ng (cap (x + -y))), s] ∧ OwnI w' w.heap.size w'.heap.size s intT (dg (cap (x + -y)).natAbs) ∧ Chg 0 0 w w' := by
 have hva0 := hva.fit
 have hvb0 := hvb.fit
 refine sx_enter Try.func81 rfl Try.ntmps81 (Nat.le_of_ble_eq_true rfl) ?_
 refine sx_seq fun K1 k1 => sx_region ?_
 refine sx_box [.bool (ng x), va] rfl rfl rfl (fun b2 w3 eb2 sb2 fb2 cb2 => ?_)
 have zw3 := cb2.size
 refine sx_box [.bool (ng y), vb] rfl rfl rfl (fun b4 w5 eb4 sb4 fb4 cb4 => ?_)
 have zw5 := cb4.size
 refine sx_alloc [.bool false, (.slice none 0 0)] rfl Try.zeroValue29 rfl (fun b6 w7 eb6 sb6 fb6 cb6 => ?_)
 have zw7 := cb6.size
 refine wl_nil (q_n (k1 _ _ ?_))
 refine sx_seq fun K8 k8 => ?_
 refine sx_seq fun K9 k9 => sx_region ?_
 have f10 := fb2.ext cb4
 have f11 := f10.ext cb6
 refine sx_pure rfl rfl rfl (px_load rfl (f11.loadA (vs := [.bool (ng x), va]) (look_lit rfl) Try.isAgg29 Try.sizeOf29)) ?_
 have f12 := hva0.ext cb2
 have f13 := f12.ext cb4
 have f14 := f13.ext cb6
 refine sx_call rfl rfl Try.call60 (c_sIntOk f14 (by omega)) (fun v15 w15 p15 => ?_)
 obtain ⟨rfl, c15⟩ := p15
 have zw15 := c15.size
 refine sx_pure rfl rfl rfl (px_notP rfl) ?_
 refine sm rfl rfl rfl rfl ?_
 have h72 : ¬ (¬ (IOk (ng x) (dg x.natAbs))) := by first | exact fun h => h (IOk_ng (by omega)) | exact fun h => h (IOk_ng (by assumption))
 refine sx_tmpPF (t := 8) rfl h72 ?_
 refine sx_guardT rfl rfl rfl ?_
 have f16 := fb4.ext cb6
 have f17 := f16.ext c15
 refine sx_pure rfl rfl rfl (px_load rfl (f17.loadA (vs := [.bool (ng y), vb]) (look_lit rfl) Try.isAgg29 Try.sizeOf29)) ?_
 refine sx_guardT rfl rfl rfl ?_
 have f18 := hvb0.ext cb2
 have f19 := f18.ext cb4
 have f20 := f19.ext cb6
 have f21 := f20.ext c15
 refine sx_call rfl rfl Try.call60 (c_sIntOk f21 (by omega)) (fun v22 w22 p22 => ?_)
 obtain ⟨rfl, c22⟩ := p22
 have zw22 := c22.size
 refine sx_guardT rfl rfl rfl ?_
 refine sx_pure rfl rfl rfl (px_notP rfl) ?_
 refine sx_pure rfl rfl rfl (px_pick rfl rfl) ?_
 refine wl_nil (q_n (k9 _ _ ?_))
 have h72x1 : ¬ (¬ (IOk (ng y) (dg y.natAbs))) := by first | exact fun h => h (IOk_ng (by omega)) | exact fun h => h (IOk_ng (by assumption))
 refine sx_condPF rfl h72x1 ?_
 refine sx_skip ?_
 refine q_n (k8 _ _ ?_)
 refine sx_seq fun K23 k23 => ?_
 have f24 := f11.ext c15
 have f25 := f24.ext c22
 have f26 := f17.ext c22
 have f27 := f14.ext c15
 have f28 := f27.ext c22
 have f29 := f21.ext c22
 refine dx_region (fun w' => Chg b6 (b6 + 1) w22 w') (by kernel_rfl) (Chg.zero (Chg.drew _)) ?_
 have d30 := Chg.drew w22
 have s30 : Chg b6 (b6 + 1) w22 (World.drew w22) := Chg.zero (Chg.drew _)
 have y30 : (World.drew w22).heap.size = w22.heap.size := rfl
 generalize World.drew w22 = w30 at *
 have zw30 := d30.size
 refine dx_take 0 rfl rfl rfl rfl (by kernel_rfl) (by kernel_rfl) (by kernel_rfl) s30 (fun _ hS => px_load rfl ((f25.chg hS (by omega)).loadA (vs := [.bool (ng x), va]) (look_lit rfl) Try.isAgg29 Try.sizeOf29)) ?_
 refine dx_take 1 rfl rfl rfl rfl (by kernel_rfl) (by kernel_rfl) (by kernel_rfl) s30 (fun _ hS => px_load rfl ((f26.chg hS (by omega)).loadA (vs := [.bool (ng y), vb]) (look_lit rfl) Try.isAgg29 Try.sizeOf29)) ?_
 refine dx_eff 2 rfl (by kernel_rfl) ?_
 have f31 := f29.ext d30
 refine sx_call rfl rfl Try.call115 (c_IntNeg f31 (by omega)) (fun v32 w32 p32 => ?_)
 obtain ⟨s32, rfl, os_32, c32⟩ := p32
 have zw32 := c32.size
 have s33 : Chg b6 (b6 + 1) w22 w32 := (Chg.zero (l := b6) (h := (b6 + 1)) (d30.t c32))
 refine wl_nil ?_
 refine dx_next s33 ?_
 refine dx_eff 3 rfl (by kernel_rfl) ?_
 have f34 := f28.ext d30
 have f35 := f34.ext c32
 refine sx_call rfl rfl Try.call111 (c_l04Add f35 os_32.sv (by omega) (by rw [Int.natAbs_neg]; omega)) (fun v36 w36 p36 => ?_)
 obtain ⟨s36, rfl, os_36, c36⟩ := p36
 have zw36 := c36.size
 have s37 : Chg b6 (b6 + 1) w22 w36 := (Chg.zero (l := b6) (h := (b6 + 1)) ((d30.t c32).t c36))
 refine wl_nil ?_
 refine dx_next s37 ?_
 refine dx_eff 4 rfl (by kernel_rfl) ?_
 have f39 := fb6.ext c15
 have f40 := f39.ext c22
 have f41 := f40.ext d30
 have f42 := f41.ext c32
 have f43 := f42.ext c36
 refine sx_store (vs := [.bool (ng (cap (x + (-y)))), s36]) rfl rfl f43 rfl Try.sizeOf29 (Nat.le_of_ble_eq_true rfl) (one_cons rfl (one_cons os_36.one one_nil)) (fun w38 sw38 fw38 cw38 => ?_)
 have zw38 := cw38.size
 have gw38 : Blk w38 b6 [.bool (ng (cap (x + (-y)))), s36] 29 := fw38
 have q45 := Chg.step (l := b6) (h := (b6 + 1)) (Chg.zero (l := b6) (h := (b6 + 1)) ((d30.t c32).t c36)) cw38 (by omega)
 have s44 : Chg b6 (b6 + 1) w22 w38 := q45
 refine wl_nil ?_
 refine dx_next s44 ?_
 refine dx_done (by kernel_rfl) ?_
 refine q_n (k23 _ _ ?_)
 refine sx_sub (Sub.cons (t := 4) rfl (.nil)) ?_
 refine sx_retc ?_
 refine sx_ret1 Try.results81 ⟨_, rfl, gw38.loadA (vs := [.bool (ng (cap (x + (-y)))), s36]) (look_lit rfl) Try.isAgg29 Try.sizeOf29⟩ ?_
 have q46 := Chg.step (l := 0) (h := 0) (Chg.zero (l := 0) (h := 0) (((((((cb2.t cb4).t cb6).t c15).t c22).t d30).t c32).t c36)) cw38 (by omega)
 have f47 := os_36.chg cw38 (by omega)
 exact ⟨_, rfl, (Own.mono f47 (by omega) (by omega)), q46⟩

theorem c_IntSubE {w : World} {va : Value} {lva uva : Nat} {x : Int} {vb : Value} {lvb uvb : Nat} {y : Int} (hva : Sl w lva uva va (dg x.natAbs)) (hvb : Sl w lvb uvb vb (dg y.natAbs)) (hbx : (dg x.natAbs).length ≤ 49) (hby : (dg y.natAbs).length ≤ 49) :
  Ret Try.prog 81 [.agg #[.bool (ng x), va], .agg #[.bool (ng y), vb]] w fun v w' => ∃ s, v = .agg #[.bool (ng (x + -y)), s] ∧ OwnI w' w.heap.size w'.heap.size s intT (dg (x + -y).natAbs) ∧ Chg 0 0 w w' := by
 have h := c_IntSub hva hvb (by omega) (by omega); rwa [cap_ok (by have := len_addI x (-y); rw [Int.natAbs_neg] at this; omega)] at h

theorem c_sDecSub {w : World} {n1 : Bool} {v1 : Value} {lv1 uv1 : Nat} {z1 : List Int} {p1 : Int} {n2 : Bool} {v2 : Value} {lv2 uv2 : Nat} {z2 : List Int} {p2 : Int} (hv1 : Sl w lv1 uv1 v1 (z1)) (hv2 : Sl w lv2 uv2 v2 (z2)) (h63 : z1.length ≤ 4611686018427387904 ∧ z2.length ≤ 4611686018427387904) :
  Ret Try.prog 38 [.agg #[.bool n1, v1, .int .i64 p1], .agg #[.bool n2, v2, .int .i64 p2]] w fun v w' => ∃ s, v = .tuple #[.agg #[.bool ((dBin fSub n1 z1 p1 n2 z2 p2).1), s, .int .i64 ((dBin fSub n1 z1 p1 n2 z2 p2).2.2.1)], .bool ((dBin fSub n1 z1 p1 n2 z2 p2).2.2.2)] ∧ OwnI w' w.heap.size w'.heap.size s intT ((dBin fSub n1 z1 p1 n2 z2 p2).2.1) ∧ ((dBin fSub n1 z1 p1 n2 z2 p2).2.1.length ≤ 6) ∧ Chg 0 0 w w' := by
 have hv10 := hv1.fit
 have hv20 := hv2.fit
 refine sx_enter Try.func38 rfl Try.ntmps38 (Nat.le_of_ble_eq_true rfl) ?_
 refine sx_seq fun K1 k1 => sx_region ?_
 refine sx_box [.bool n1, v1, .int .i64 p1] rfl rfl rfl (fun b2 w3 eb2 sb2 fb2 cb2 => ?_)
 have zw3 := cb2.size
 refine sx_box [.bool n2, v2, .int .i64 p2] rfl rfl rfl (fun b4 w5 eb4 sb4 fb4 cb4 => ?_)
 have zw5 := cb4.size
 refine sx_alloc [.bool false, (.slice none 0 0), .int .i64 0] rfl Try.zeroValue31 rfl (fun b6 w7 eb6 sb6 fb6 cb6 => ?_)
 have zw7 := cb6.size
 refine sa rfl rfl rfl rfl ?_
 refine wl_nil (q_n (k1 _ _ ?_))
 refine sx_seq fun K8 k8 => ?_
 refine sx_seq fun K9 k9 => sx_region ?_
 have f10 := fb2.ext cb4
 have f11 := f10.ext cb6
 refine sx_pure rfl rfl rfl (px_load rfl (f11.loadA (vs := [.bool n1, v1, .int .i64 p1]) (look_lit rfl) Try.isAgg31 Try.sizeOf31)) ?_
 have f12 := hv10.ext cb2
 have f13 := f12.ext cb4
 have f14 := f13.ext cb6
 refine sx_call rfl rfl Try.call16 (c_sDecOk f14 (by omega)) (fun v15 w15 p15 => ?_)
 obtain ⟨rfl, c15⟩ := p15
 have zw15 := c15.size
 refine sx_pure rfl rfl rfl (px_notP rfl) ?_
 refine sm rfl rfl rfl rfl ?_
 refine sx_tmpP (t := 12) rfl (fun h114 => ?_) (fun h114 => ?_)
 ·
  refine sx_guardF rfl rfl rfl rfl rfl rfl ?_
  refine sx_guardF rfl rfl rfl rfl rfl rfl ?_
  refine sx_guardF rfl rfl rfl rfl rfl rfl ?_
  refine sx_pure rfl rfl rfl (px_pick rfl rfl) ?_
  refine wl_nil (q_n (k9 _ _ ?_))
  refine sx_condT rfl ?_
  refine sx_seq fun K16 k16 => sx_region ?_
  refine sx_pure rfl rfl rfl (px_build rfl (xbld31x  _)) ?_
  have f18 := fb6.ext c15
  refine sx_store (vs := [.bool false, (.slice none 0 0), .int .i64 0]) rfl rfl f18 rfl Try.sizeOf31 (Nat.le_of_ble_eq_true rfl) (one_cons rfl (one_cons rfl (one_cons rfl one_nil))) (fun w17 sw17 fw17 cw17 => ?_)
  have zw17 := cw17.size
  have gw17 : Blk w17 b6 [.bool false, (.slice none 0 0), .int .i64 0] 31 := fw17
  refine sa rfl rfl rfl rfl ?_
  refine wl_nil (q_n (k16 _ _ ?_))
  refine sx_sub (Sub.cons (t := 2) rfl (.cons (t := 3) rfl (.cons (t := 4) rfl (.cons (t := 5) rfl (.nil))))) ?_
  refine sx_retc ?_
  refine q_r (sx_ret2 Try.results38 ⟨_, rfl, gw17.loadA (vs := [.bool false, (.slice none 0 0), .int .i64 0]) (look_lit rfl) Try.isAgg31 Try.sizeOf31⟩ rfl ?_)
  rw [dBin_no (by grind)]
  have q19 := Chg.step (l := 0) (h := 0) (Chg.zero (l := 0) (h := 0) (((cb2.t cb4).t cb6).t c15)) cw17 (by omega)
  exact ⟨_, rfl, Own.nil _ _ _ _ _, by simp, q19⟩
 ·
  refine sx_guardT rfl rfl rfl ?_
  have f20 := fb4.ext cb6
  have f21 := f20.ext c15
  refine sx_pure rfl rfl rfl (px_load rfl (f21.loadA (vs := [.bool n2, v2, .int .i64 p2]) (look_lit rfl) Try.isAgg31 Try.sizeOf31)) ?_
  refine sx_guardT rfl rfl rfl ?_
  have f22 := hv20.ext cb2
  have f23 := f22.ext cb4
  have f24 := f23.ext cb6
  have f25 := f24.ext c15
  refine sx_call rfl rfl Try.call16 (c_sDecOk f25 (by omega)) (fun v26 w26 p26 => ?_)
  obtain ⟨rfl, c26⟩ := p26
  have zw26 := c26.size
  refine sx_guardT rfl rfl rfl ?_
  refine sx_pure rfl rfl rfl (px_notP rfl) ?_
  refine sx_pure rfl rfl rfl (px_pick rfl rfl) ?_
  refine wl_nil (q_n (k9 _ _ ?_))
  refine sx_condP rfl (fun h114x1 => ?_) (fun h114x1 => ?_)
  ·
   refine sx_seq fun K27 k27 => sx_region ?_
   refine sx_pure rfl rfl rfl (px_build rfl (xbld31x  _)) ?_
   have f29 := fb6.ext c15
   have f30 := f29.ext c26
   refine sx_store (vs := [.bool false, (.slice none 0 0), .int .i64 0]) rfl rfl f30 rfl Try.sizeOf31 (Nat.le_of_ble_eq_true rfl) (one_cons rfl (one_cons rfl (one_cons rfl one_nil))) (fun w28 sw28 fw28 cw28 => ?_)
   have zw28 := cw28.size
   have gw28 : Blk w28 b6 [.bool false, (.slice none 0 0), .int .i64 0] 31 := fw28
   refine sa rfl rfl rfl rfl ?_
   refine wl_nil (q_n (k27 _ _ ?_))
   refine sx_sub (Sub.cons (t := 2) rfl (.cons (t := 3) rfl (.cons (t := 4) rfl (.cons (t := 5) rfl (.nil))))) ?_
   refine sx_retc ?_
   refine q_r (sx_ret2 Try.results38 ⟨_, rfl, gw28.loadA (vs := [.bool false, (.slice none 0 0), .int .i64 0]) (look_lit rfl) Try.isAgg31 Try.sizeOf31⟩ rfl ?_)
   rw [dBin_no (by grind)]
   have q31 := Chg.step (l := 0) (h := 0) (Chg.zero (l := 0) (h := 0) ((((cb2.t cb4).t cb6).t c15).t c26)) cw28 (by omega)
   exact ⟨_, rfl, Own.nil _ _ _ _ _, by simp, q31⟩
  ·
   have hD1 := Decidable.not_not.1 h114
   have hD2 := Decidable.not_not.1 h114x1
   obtain ⟨x1, rfl, rfl, hx1⟩ := hD1.int
   obtain ⟨x2, rfl, rfl, hx2⟩ := hD2.int
   refine sx_skip ?_
   refine q_n (k8 _ _ ?_)
   refine sx_seq fun K32 k32 => sx_region ?_
   have f33 := f11.ext c15
   have f34 := f33.ext c26
   refine sx_pure rfl rfl rfl (px_load rfl (f34.loadA (vs := [.bool (ng x1), v1, .int .i64 p1]) (look_lit rfl) Try.isAgg31 Try.sizeOf31)) ?_
   have f35 := f21.ext c26
   refine sx_pure rfl rfl rfl (px_load rfl (f35.loadA (vs := [.bool (ng x2), v2, .int .i64 p2]) (look_lit rfl) Try.isAgg31 Try.sizeOf31)) ?_
   have f36 := f14.ext c15
   have f37 := f36.ext c26
   have f38 := f25.ext c26
   refine sx_call rfl rfl Try.call70 (c_l07Both f37 f38 (by omega) (by omega)) (fun v39 w39 p39 => ?_)
   obtain ⟨s39, t39, rfl, os_39, ot_39, c39⟩ := p39
   have zw39 := c39.size
   refine sm rfl rfl rfl rfl ?_
   refine sx_pure rfl rfl rfl (px_extract (vs := [.agg #[.bool (ng (x1 * tenI (max p1 p2 - p1))), s39], .agg #[.bool (ng (x2 * tenI (max p1 p2 - p2))), t39], .int .i64 (max p1 p2)]) rfl rfl) ?_
   refine sx_pure rfl rfl rfl (px_extract (vs := [.agg #[.bool (ng (x1 * tenI (max p1 p2 - p1))), s39], .agg #[.bool (ng (x2 * tenI (max p1 p2 - p2))), t39], .int .i64 (max p1 p2)]) rfl rfl) ?_
   refine sx_pure rfl rfl rfl (px_extract (vs := [.agg #[.bool (ng (x1 * tenI (max p1 p2 - p1))), s39], .agg #[.bool (ng (x2 * tenI (max p1 p2 - p2))), t39], .int .i64 (max p1 p2)]) rfl rfl) ?_
   refine sx_alloc [.bool false, (.slice none 0 0)] rfl Try.zeroValue29 rfl (fun b40 w41 eb40 sb40 fb40 cb40 => ?_)
   have zw41 := cb40.size
   refine sx_alloc [.bool false, (.slice none 0 0)] rfl Try.zeroValue29 rfl (fun b42 w43 eb42 sb42 fb42 cb42 => ?_)
   have zw43 := cb42.size
   have f45 := fb40.ext cb42
   have f46 := os_39.ext cb40
   have f47 := f46.ext cb42
   refine sx_store (vs := [.bool (ng (x1 * tenI (max p1 p2 - p1))), s39]) rfl rfl f45 rfl Try.sizeOf29 (Nat.le_of_ble_eq_true rfl) (one_cons rfl (one_cons f47.one one_nil)) (fun w44 sw44 fw44 cw44 => ?_)
   have zw44 := cw44.size
   have gw44 : Blk w44 b40 [.bool (ng (x1 * tenI (max p1 p2 - p1))), s39] 29 := fw44
   have f49 := fb42.chg cw44 (by omega)
   have f50 := ot_39.ext cb40
   have f51 := f50.ext cb42
   have f52 := f51.chg cw44 (by omega)
   refine sx_store (vs := [.bool (ng (x2 * tenI (max p1 p2 - p2))), t39]) rfl rfl f49 rfl Try.sizeOf29 (Nat.le_of_ble_eq_true rfl) (one_cons rfl (one_cons f52.one one_nil)) (fun w48 sw48 fw48 cw48 => ?_)
   have zw48 := cw48.size
   have gw48 : Blk w48 b42 [.bool (ng (x2 * tenI (max p1 p2 - p2))), t39] 29 := fw48
   refine sa rfl rfl rfl rfl ?_
   refine wl_nil (q_n (k32 _ _ ?_))
   refine sx_sub (Sub.cons (t := 4) rfl (.cons (t := 5) rfl (.cons (t := 6) rfl (.cons (t := 7) rfl (.cons (t := 8) rfl (.nil)))))) ?_
   refine sx_seq fun K53 k53 => sx_region ?_
   have f54 := gw44.chg cw48 (by omega)
   refine sx_pure rfl rfl rfl (px_load rfl (f54.loadA (vs := [.bool (ng (x1 * tenI (max p1 p2 - p1))), s39]) (look_lit rfl) Try.isAgg29 Try.sizeOf29)) ?_
   refine sx_pure rfl rfl rfl (px_load rfl (gw48.loadA (vs := [.bool (ng (x2 * tenI (max p1 p2 - p2))), t39]) (look_lit rfl) Try.isAgg29 Try.sizeOf29)) ?_
   have f55 := f47.chg cw44 (by omega)
   have f56 := f55.chg cw48 (by omega)
   have f57 := f52.chg cw48 (by omega)
   refine sx_call rfl rfl Try.call81 (c_IntSubE f56.sv f57.sv (by have h1 := len_ten (k := max p1 p2 - p1) (by omega); have h2 := len_ten (k := max p1 p2 - p2) (by omega); have h3 := len_mulI x1 (tenI (max p1 p2 - p1)); have h4 := len_mulI x2 (tenI (max p1 p2 - p2)); first | omega | (have h5 := len_addI (x1 * tenI (max p1 p2 - p1)) (-(x2 * tenI (max p1 p2 - p2))); rw [Int.natAbs_neg] at h5; omega)) (by have h1 := len_ten (k := max p1 p2 - p1) (by omega); have h2 := len_ten (k := max p1 p2 - p2) (by omega); have h3 := len_mulI x1 (tenI (max p1 p2 - p1)); have h4 := len_mulI x2 (tenI (max p1 p2 - p2)); first | omega | (have h5 := len_addI (x1 * tenI (max p1 p2 - p1)) (-(x2 * tenI (max p1 p2 - p2))); rw [Int.natAbs_neg] at h5; omega))) (fun v58 w58 p58 => ?_)
   obtain ⟨s58, rfl, os_58, c58⟩ := p58
   have zw58 := c58.size
   refine sm rfl rfl rfl rfl ?_
   refine sx_call rfl rfl Try.call66 (c_l07Dec os_58 (by have h1 := len_ten (k := max p1 p2 - p1) (by omega); have h2 := len_ten (k := max p1 p2 - p2) (by omega); have h3 := len_mulI x1 (tenI (max p1 p2 - p1)); have h4 := len_mulI x2 (tenI (max p1 p2 - p2)); first | omega | (have h5 := len_addI (x1 * tenI (max p1 p2 - p1)) (-(x2 * tenI (max p1 p2 - p2))); rw [Int.natAbs_neg] at h5; omega)) (by omega)) (fun v59 w59 p59 => ?_)
   obtain ⟨s59, rfl, os_59, c59⟩ := p59
   have zw59 := c59.size
   refine sx_pure rfl rfl rfl (px_extract (vs := [.agg #[.bool ((decR ((x1 * tenI (max p1 p2 - p1)) + -(x2 * tenI (max p1 p2 - p2))) (max p1 p2)).1), s59, .int .i64 ((decR ((x1 * tenI (max p1 p2 - p1)) + -(x2 * tenI (max p1 p2 - p2))) (max p1 p2)).2.2.1)], .bool ((decR ((x1 * tenI (max p1 p2 - p1)) + -(x2 * tenI (max p1 p2 - p2))) (max p1 p2)).2.2.2)]) rfl rfl) ?_
   refine sx_pure rfl rfl rfl (px_extract (vs := [.agg #[.bool ((decR ((x1 * tenI (max p1 p2 - p1)) + -(x2 * tenI (max p1 p2 - p2))) (max p1 p2)).1), s59, .int .i64 ((decR ((x1 * tenI (max p1 p2 - p1)) + -(x2 * tenI (max p1 p2 - p2))) (max p1 p2)).2.2.1)], .bool ((decR ((x1 * tenI (max p1 p2 - p1)) + -(x2 * tenI (max p1 p2 - p2))) (max p1 p2)).2.2.2)]) rfl rfl) ?_
   have f61 := fb6.ext c15
   have f62 := f61.ext c26
   have f63 := f62.ext c39
   have f64 := f63.ext cb40
   have f65 := f64.ext cb42
   have f66 := f65.chg cw44 (by omega)
   have f67 := f66.chg cw48 (by omega)
   have f68 := f67.ext c58
   have f69 := f68.ext c59
   refine sx_store (vs := [.bool ((decR ((x1 * tenI (max p1 p2 - p1)) + -(x2 * tenI (max p1 p2 - p2))) (max p1 p2)).1), s59, .int .i64 ((decR ((x1 * tenI (max p1 p2 - p1)) + -(x2 * tenI (max p1 p2 - p2))) (max p1 p2)).2.2.1)]) rfl rfl f69 rfl Try.sizeOf31 (Nat.le_of_ble_eq_true rfl) (one_cons rfl (one_cons os_59.one (one_cons rfl one_nil))) (fun w60 sw60 fw60 cw60 => ?_)
   have zw60 := cw60.size
   have gw60 : Blk w60 b6 [.bool ((decR ((x1 * tenI (max p1 p2 - p1)) + -(x2 * tenI (max p1 p2 - p2))) (max p1 p2)).1), s59, .int .i64 ((decR ((x1 * tenI (max p1 p2 - p1)) + -(x2 * tenI (max p1 p2 - p2))) (max p1 p2)).2.2.1)] 31 := fw60
   refine sa rfl rfl rfl rfl ?_
   refine wl_nil (q_n (k53 _ _ ?_))
   refine sx_retc ?_
   refine sx_ret2 Try.results38 ⟨_, rfl, gw60.loadA (vs := [.bool ((decR ((x1 * tenI (max p1 p2 - p1)) + -(x2 * tenI (max p1 p2 - p2))) (max p1 p2)).1), s59, .int .i64 ((decR ((x1 * tenI (max p1 p2 - p1)) + -(x2 * tenI (max p1 p2 - p2))) (max p1 p2)).2.2.1)]) (look_lit rfl) Try.isAgg31 Try.sizeOf31⟩ rfl ?_
   rw [dBin_ok hD1 hD2]
   have q70 := Chg.step (l := 0) (h := 0) (Chg.zero (l := 0) (h := 0) (((((((cb2.t cb4).t cb6).t c15).t c26).t c39).t cb40).t cb42)) cw44 (by omega)
   have q71 := Chg.step (l := 0) (h := 0) q70 cw48 (by omega)
   have q72 := Chg.step (l := 0) (h := 0) q71 (c58.t c59) (by omega)
   have q73 := Chg.step (l := 0) (h := 0) q72 cw60 (by omega)
   have f74 := os_59.chg cw60 (by omega)
   exact ⟨_, rfl, (Own.mono f74 (by omega) (by omega)), decR_len _ _, q73⟩

theorem c_natCopy {w : World} {va : Value} {lva uva : Nat} {zs : List Int} (hva : Sl w lva uva va (zs)) (h63 : zs.length ≤ 1048576) :
  Ret Try.prog 116 [va] w fun v w' => ∃ s, v = s ∧ OwnI w' w.heap.size w'.heap.size s intT (zs) ∧ Chg 0 0 w w' := by
 have hva0 := hva.fit
 refine sx_enter Try.func116 rfl Try.ntmps116 (Nat.le_of_ble_eq_true rfl) ?_
 refine sx_seq fun K1 k1 => sx_region ?_
 refine sa rfl rfl rfl rfl ?_
 refine wl_nil (q_n (k1 _ _ ?_))
 refine sx_seq fun K2 k2 => sx_region ?_
 refine sx_lit0 rfl xelt22 (fun s3 ws3 ss3 fs3 cs3 => ?_)
 have zws3 := cs3.size
 refine sm rfl rfl rfl rfl ?_
 have f5 := hva0.ext cs3
 refine sx_append rfl xelt22 rfl rfl fs3 f5 one_int (by omega) (by omega) (by unfold maxLen; omega) (fun a4 w4 fw4 cw4 => ?_)
 have nw4 := Own.norm (f := (Value.int .i64)) (zs := zs) fw4
 have zw4 := cw4.size
 refine sa rfl rfl rfl rfl ?_
 refine wl_nil (q_n (k2 _ _ ?_))
 refine sx_retc ?_
 refine sx_ret1 Try.results116 rfl ?_
 have q6 := Chg.step (l := 0) (h := 0) (Chg.zero (l := 0) (h := 0) cs3) cw4 (by omega)
 exact ⟨_, rfl, Own.mono nw4 (by omega) (by omega), q6⟩

theorem c_intNeg {w : World} {va : Value} {lva uva : Nat} {x : Int} (hva : Sl w lva uva va (dg x.natAbs)) (hbx : (dg x.natAbs).length ≤ 1000) :
  Ret Try.prog 82 [.agg #[.bool (ng x), va]] w fun v w' => ∃ s, v = .agg #[.bool (ng (-x)), s] ∧ OwnI w' w.heap.size w'.heap.size s intT (dg (-x).natAbs) ∧ Chg 0 0 w w' := by
 have hva0 := hva.fit
 refine sx_enter Try.func82 rfl Try.ntmps82 (Nat.le_of_ble_eq_true rfl) ?_
 refine sx_seq fun K1 k1 => sx_region ?_
 refine sx_box [.bool (ng x), va] rfl rfl rfl (fun b2 w3 eb2 sb2 fb2 cb2 => ?_)
 have zw3 := cb2.size
 refine sx_alloc [.bool false, (.slice none 0 0)] rfl Try.zeroValue29 rfl (fun b4 w5 eb4 sb4 fb4 cb4 => ?_)
 have zw5 := cb4.size
 refine wl_nil (q_n (k1 _ _ ?_))
 refine sx_seq fun K6 k6 => ?_
 have f7 := fb2.ext cb4
 have f8 := hva0.ext cb2
 have f9 := f8.ext cb4
 refine dx_region (fun w' => Chg b4 (b4 + 1) w5 w') (by kernel_rfl) (Chg.zero (Chg.drew _)) ?_
 have d10 := Chg.drew w5
 have s10 : Chg b4 (b4 + 1) w5 (World.drew w5) := Chg.zero (Chg.drew _)
 have y10 : (World.drew w5).heap.size = w5.heap.size := rfl
 generalize World.drew w5 = w10 at *
 have zw10 := d10.size
 refine dx_take 0 rfl rfl rfl rfl (by kernel_rfl) (by kernel_rfl) (by kernel_rfl) s10 (fun _ hS => px_field rfl xfld29x0) ?_
 refine dx_take 1 rfl rfl rfl rfl (by kernel_rfl) (by kernel_rfl) (by kernel_rfl) s10 (fun _ hS => px_load rfl ((f7.chg hS (by omega)).load1 rfl Try.isAgg4)) ?_
 refine dx_take 2 rfl rfl rfl rfl (by kernel_rfl) (by kernel_rfl) (by kernel_rfl) s10 (fun _ hS => px_not rfl) ?_
 refine dx_take 3 rfl rfl rfl rfl (by kernel_rfl) (by kernel_rfl) (by kernel_rfl) s10 (fun _ hS => px_field rfl xfld29x1) ?_
 refine dx_take 4 rfl rfl rfl rfl (by kernel_rfl) (by kernel_rfl) (by kernel_rfl) s10 (fun _ hS => px_load rfl ((f7.chg hS (by omega)).load1 rfl Try.isAgg22)) ?_
 refine dx_eff 5 rfl (by kernel_rfl) ?_
 have f11 := f9.ext d10
 refine sx_call rfl rfl Try.call116 (c_natCopy f11 (by omega)) (fun v12 w12 p12 => ?_)
 obtain ⟨s12, rfl, os_12, c12⟩ := p12
 have zw12 := c12.size
 have s13 : Chg b4 (b4 + 1) w5 w12 := (Chg.zero (l := b4) (h := (b4 + 1)) (d10.t c12))
 refine wl_nil ?_
 refine dx_next s13 ?_
 refine dx_eff 6 rfl (by kernel_rfl) ?_
 refine sx_call rfl rfl Try.call90 (c_signed os_12.sv (by omega)) (fun v14 w14 p14 => ?_)
 obtain ⟨rfl, c14⟩ := p14
 have zw14 := c14.size
 have s15 : Chg b4 (b4 + 1) w5 w14 := (Chg.zero (l := b4) (h := (b4 + 1)) ((d10.t c12).t c14))
 refine wl_nil ?_
 refine dx_next s15 ?_
 refine dx_eff 7 rfl (by kernel_rfl) ?_
 have f17 := fb4.ext d10
 have f18 := f17.ext c12
 have f19 := f18.ext c14
 have f20 := os_12.ext c14
 refine sx_store (vs := [.bool (nz (!(ng x)) (dg x.natAbs)), v12]) rfl rfl f19 rfl Try.sizeOf29 (Nat.le_of_ble_eq_true rfl) (one_cons rfl (one_cons f20.one one_nil)) (fun w16 sw16 fw16 cw16 => ?_)
 have zw16 := cw16.size
 have gw16 : Blk w16 b4 [.bool (nz (!(ng x)) (dg x.natAbs)), v12] 29 := fw16
 have q22 := Chg.step (l := b4) (h := (b4 + 1)) (Chg.zero (l := b4) (h := (b4 + 1)) ((d10.t c12).t c14)) cw16 (by omega)
 have s21 : Chg b4 (b4 + 1) w5 w16 := q22
 refine wl_nil ?_
 refine dx_next s21 ?_
 refine dx_done (by kernel_rfl) ?_
 refine q_n (k6 _ _ ?_)
 refine sx_retc ?_
 refine sx_ret1 Try.results82 ⟨_, rfl, gw16.loadA (vs := [.bool (nz (!(ng x)) (dg x.natAbs)), v12]) (look_lit rfl) Try.isAgg29 Try.sizeOf29⟩ ?_
 have hh := neg_sg x
 rw [← hh.1, ← hh.2]
 have q23 := Chg.step (l := 0) (h := 0) (Chg.zero (l := 0) (h := 0) ((((cb2.t cb4).t d10).t c12).t c14)) cw16 (by omega)
 have f24 := f20.chg cw16 (by omega)
 exact ⟨_, rfl, (Own.mono f24 (by omega) (by omega)), q23⟩

end Go.Proofs.Yteiifmkclokgnaa
