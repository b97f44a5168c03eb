/- Contracts of functions of the program: what each call returns, and that it changes nothing that was. Conditions: as each says. -/
import Derived.Test.YtfoceofnldnbgaaGreatDoorTy
import Derived.Test.YtfoceofnldnbgaaGreatDoorNatL
import Derived.Test.YtfoceofnldnbgaaGreatDoorRm
import Derived.Test.YtfoceofnldnbgaaGreatDoorK2
set_option linter.unusedVariables false
set_option linter.unusedSimpArgs false
namespace Go.Proofs.YtfoceofnldnbgaaGreatDoor
open Go Go.RowKit
set_option maxRecDepth 100000
theorem c_reduce {w : World} {n : Bool} {va : Value} {lva uva : Nat} {m : Nat} {vb : Value} {lvb uvb : Nat} {d : Nat} (hva : Sl w lva uva va (dg m)) (hvb : Sl w lvb uvb vb (dg d)) (hbm : (dg m).length ≤ 400) (hbd : (dg d).length ≤ 400) (hd0 : 0 < d) :
  Ret Tryz.prog 78 [.agg #[.bool n, va], vb] w fun v w' => ∃ s t ls us lt ut, v = .tuple #[.agg #[.bool ((rR (sgI n m) d).1), s, t], .bool ((rR (sgI n m) d).2.2.2)] ∧ OwnI w' (ls) (us) s intT ((rR (sgI n m) d).2.1) ∧ OwnI w' (lt) (ut) t intT ((rR (sgI n m) d).2.2.1) ∧ (w.heap.size ≤ ls ∧ us ≤ w'.heap.size ∧ w.heap.size ≤ lt ∧ ut ≤ w'.heap.size ∧ (us ≤ lt ∨ ut ≤ ls)) ∧ ((rR (sgI n m) d).2.1.length ≤ 18 ∧ (rR (sgI n m) d).2.2.1.length ≤ 18) ∧ Chg 0 0 w w' := by
 have hva0 := hva.fit
 have hvb0 := hvb.fit
 have hgp := gcd_pos_r (m := m) hd0
 have lg := gcd_le_left (m := m) (n := d) (k := max (dg m).length (dg d).length) (by omega) (by omega)
 have lq1 := len_div m (Nat.gcd m d)
 have lq2 := len_div d (Nat.gcd m d)
 refine sx_enter Tryz.func78 rfl Tryz.ntmps78 (Nat.le_of_ble_eq_true rfl) ?_
 refine sx_seq fun K1 k1 => sx_region ?_
 refine sx_box [.bool n, va] rfl rfl rfl (fun b2 w3 eb2 sb2 fb2 cb2 => ?_)
 have zw3 := cb2.size
 refine sx_alloc [.bool false, (.slice none 0 0), (.slice none 0 0)] rfl Tryz.zeroValue32 rfl (fun b4 w5 eb4 sb4 fb4 cb4 => ?_)
 have zw5 := cb4.size
 refine sa rfl rfl rfl rfl ?_
 refine wl_nil (q_n (k1 _ _ ?_))
 refine sx_seq fun K6 k6 => sx_region ?_
 refine sx_pure rfl rfl rfl (px_field rfl xfld28x1) ?_
 have f7 := fb2.ext cb4
 refine sx_pure rfl rfl rfl (px_load rfl (f7.load1 rfl Tryz.isAgg22)) ?_
 refine sm rfl rfl rfl rfl ?_
 have f8 := hva0.ext cb2
 have f9 := f8.ext cb4
 have f10 := hvb0.ext cb2
 have f11 := f10.ext cb4
 refine sx_call rfl rfl Tryz.call70 (c_natGcd f9 f11 (by omega) (by omega)) (fun v12 w12 p12 => ?_)
 obtain ⟨s12, rfl, os_12, c12⟩ := p12
 have zw12 := c12.size
 refine sa rfl rfl rfl rfl ?_
 refine wl_nil (q_n (k6 _ _ ?_))
 refine sx_seq fun K13 k13 => sx_region ?_
 refine sx_pure rfl rfl rfl (px_field rfl xfld28x1) ?_
 have f14 := f7.ext c12
 refine sx_pure rfl rfl rfl (px_load rfl (f14.load1 rfl Tryz.isAgg22)) ?_
 refine sm rfl rfl rfl rfl ?_
 have f15 := f9.ext c12
 refine sx_call rfl rfl Tryz.call71 (c_natDiv f15 os_12.sv (by omega) (by omega) (hgp)) (fun v16 w16 p16 => ?_)
 obtain ⟨s16, t16, rfl, os_16, ot_16, c16⟩ := p16
 have zw16 := c16.size
 refine sm rfl rfl rfl rfl ?_
 refine sx_pure rfl rfl rfl (px_extract (vs := [s16, t16]) rfl rfl) ?_
 refine sx_pure rfl rfl rfl (px_extract (vs := [s16, t16]) rfl rfl) ?_
 refine sa rfl rfl rfl rfl ?_
 refine sa rfl rfl rfl rfl ?_
 refine wl_nil (q_n (k13 _ _ ?_))
 refine sx_sub (Sub.cons (t := 1) rfl (.cons (t := 2) rfl (.cons (t := 4) rfl (.cons (t := 5) rfl (.cons (t := 6) rfl (.cons (t := 7) rfl (.nil))))))) ?_
 refine sx_seq fun K17 k17 => sx_region ?_
 refine sm rfl rfl rfl rfl ?_
 refine sm rfl rfl rfl rfl ?_
 have f18 := f11.ext c12
 have f19 := f18.ext c16
 have f20 := os_12.ext c16
 refine sx_call rfl rfl Tryz.call71 (c_natDiv f19 f20.sv (by omega) (by omega) (hgp)) (fun v21 w21 p21 => ?_)
 obtain ⟨s21, t21, rfl, os_21, ot_21, c21⟩ := p21
 have zw21 := c21.size
 refine sm rfl rfl rfl rfl ?_
 refine sx_pure rfl rfl rfl (px_extract (vs := [s21, t21]) rfl rfl) ?_
 refine sx_pure rfl rfl rfl (px_extract (vs := [s21, t21]) rfl rfl) ?_
 refine sa rfl rfl rfl rfl ?_
 refine sa rfl rfl rfl rfl ?_
 refine wl_nil (q_n (k17 _ _ ?_))
 refine sx_seq fun K22 k22 => ?_
 refine sx_seq fun K23 k23 => sx_region ?_
 refine sm rfl rfl rfl rfl ?_
 have f24 := os_16.ext c21
 refine sx_pure rfl rfl rfl (px_len rfl Tryz.underlying22 f24.sv) ?_
 refine sx_pure rfl rfl rfl (px_gt rfl rfl) ?_
 refine sm rfl rfl rfl rfl ?_
 refine sx_tmpP (t := 31) rfl (fun h26 => ?_) (fun h26 => ?_)
 ·
  refine sx_guardF rfl rfl rfl rfl rfl rfl ?_
  refine sx_guardF rfl rfl rfl rfl rfl rfl ?_
  refine sx_guardF rfl rfl rfl rfl rfl rfl ?_
  refine sx_pure rfl rfl rfl (px_pick rfl rfl) ?_
  refine wl_nil (q_n (k23 _ _ ?_))
  refine sx_sub (Sub.cons (t := 2) rfl (.cons (t := 4) rfl (.cons (t := 5) rfl (.cons (t := 7) rfl (.cons (t := 9) rfl (.cons (t := 35) rfl (.nil))))))) ?_
  refine sx_condT rfl ?_
  refine sx_seq fun K25 k25 => sx_region ?_
  refine sx_pure rfl rfl rfl (px_build rfl (xbld32x  _)) ?_
  have f27 := fb4.ext c12
  have f28 := f27.ext c16
  have f29 := f28.ext c21
  refine sx_store (vs := [.bool false, (.slice none 0 0), (.slice none 0 0)]) rfl rfl f29 rfl Tryz.sizeOf32 (Nat.le_of_ble_eq_true rfl) (one_cons rfl (one_cons rfl (one_cons rfl one_nil))) (fun w26 sw26 fw26 cw26 => ?_)
  have zw26 := cw26.size
  have gw26 : Blk w26 b4 [.bool false, (.slice none 0 0), (.slice none 0 0)] 32 := fw26
  refine sa rfl rfl rfl rfl ?_
  refine wl_nil (q_n (k25 _ _ ?_))
  refine sx_retc ?_
  refine q_r (sx_ret2 Tryz.results78 ⟨_, rfl, gw26.loadA (vs := [.bool false, (.slice none 0 0), (.slice none 0 0)]) (look_lit rfl) Tryz.isAgg32 Tryz.sizeOf32⟩ rfl ?_)
  rw [rR_no (fun h => by omega)]
  have q30 := Chg.step (l := 0) (h := 0) (Chg.zero (l := 0) (h := 0) ((((cb2.t cb4).t c12).t c16).t c21)) cw26 (by omega)
  exact ⟨_, _, w.heap.size, w.heap.size, w.heap.size, w.heap.size, rfl, Own.nil _ _ _ _ _, Own.nil _ _ _ _ _, by omega, ⟨by simp [noR], by simp [noR]⟩, q30⟩
 ·
  refine sx_guardT rfl rfl rfl ?_
  refine sm rfl rfl rfl rfl ?_
  refine sx_guardT rfl rfl rfl ?_
  refine sx_pure rfl rfl rfl (px_len rfl Tryz.underlying22 os_21.sv) ?_
  refine sx_guardT rfl rfl rfl ?_
  refine sx_pure rfl rfl rfl (px_gt rfl rfl) ?_
  refine sx_pure rfl rfl rfl (px_pick rfl rfl) ?_
  refine wl_nil (q_n (k23 _ _ ?_))
  refine sx_sub (Sub.cons (t := 2) rfl (.cons (t := 4) rfl (.cons (t := 5) rfl (.cons (t := 7) rfl (.cons (t := 9) rfl (.cons (t := 35) rfl (.nil))))))) ?_
  refine sx_condP rfl (fun h26x1 => ?_) (fun h26x1 => ?_)
  ·
   refine sx_seq fun K31 k31 => sx_region ?_
   refine sx_pure rfl rfl rfl (px_build rfl (xbld32x  _)) ?_
   have f33 := fb4.ext c12
   have f34 := f33.ext c16
   have f35 := f34.ext c21
   refine sx_store (vs := [.bool false, (.slice none 0 0), (.slice none 0 0)]) rfl rfl f35 rfl Tryz.sizeOf32 (Nat.le_of_ble_eq_true rfl) (one_cons rfl (one_cons rfl (one_cons rfl one_nil))) (fun w32 sw32 fw32 cw32 => ?_)
   have zw32 := cw32.size
   have gw32 : Blk w32 b4 [.bool false, (.slice none 0 0), (.slice none 0 0)] 32 := fw32
   refine sa rfl rfl rfl rfl ?_
   refine wl_nil (q_n (k31 _ _ ?_))
   refine sx_retc ?_
   refine q_r (sx_ret2 Tryz.results78 ⟨_, rfl, gw32.loadA (vs := [.bool false, (.slice none 0 0), (.slice none 0 0)]) (look_lit rfl) Tryz.isAgg32 Tryz.sizeOf32⟩ rfl ?_)
   rw [rR_no (fun h => by omega)]
   have q36 := Chg.step (l := 0) (h := 0) (Chg.zero (l := 0) (h := 0) ((((cb2.t cb4).t c12).t c16).t c21)) cw32 (by omega)
   exact ⟨_, _, w.heap.size, w.heap.size, w.heap.size, w.heap.size, rfl, Own.nil _ _ _ _ _, Own.nil _ _ _ _ _, by omega, ⟨by simp [noR], by simp [noR]⟩, q36⟩
  ·
   refine sx_skip ?_
   refine q_n (k22 _ _ ?_)
   refine sx_seq fun K37 k37 => sx_region ?_
   refine sx_pure rfl rfl rfl (px_field rfl xfld28x0) ?_
   have f38 := f14.ext c16
   have f39 := f38.ext c21
   refine sx_pure rfl rfl rfl (px_load rfl (f39.load1 rfl Tryz.isAgg4)) ?_
   refine sm rfl rfl rfl rfl ?_
   refine sx_call rfl rfl Tryz.call76 (c_signed f24.sv (by omega)) (fun v40 w40 p40 => ?_)
   obtain ⟨rfl, c40⟩ := p40
   have zw40 := c40.size
   refine sm rfl rfl rfl rfl ?_
   have f41 := os_21.ext c40
   refine sx_pure rfl rfl rfl (px_build rfl (xbld32x0x1 f41.one _)) ?_
   have f43 := fb4.ext c12
   have f44 := f43.ext c16
   have f45 := f44.ext c21
   have f46 := f45.ext c40
   have f47 := f24.ext c40
   refine sx_store (vs := [.bool (nz n (dg (m / (Nat.gcd m d)))), s16, s21]) rfl rfl f46 rfl Tryz.sizeOf32 (Nat.le_of_ble_eq_true rfl) (one_cons rfl (one_cons f47.one (one_cons f41.one one_nil))) (fun w42 sw42 fw42 cw42 => ?_)
   have zw42 := cw42.size
   have gw42 : Blk w42 b4 [.bool (nz n (dg (m / (Nat.gcd m d)))), s16, s21] 32 := fw42
   refine sa rfl rfl rfl rfl ?_
   refine wl_nil (q_n (k37 _ _ ?_))
   refine sx_retc ?_
   refine sx_ret2 Tryz.results78 ⟨_, rfl, gw42.loadA (vs := [.bool (nz n (dg (m / (Nat.gcd m d)))), s16, s21]) (look_lit rfl) Tryz.isAgg32 Tryz.sizeOf32⟩ rfl ?_
   have hrl := rR_len (x := sgI n m) (d := d)
   rw [rR_ok hd0 (by omega) (by omega)] at hrl ⊢
   have q48 := Chg.step (l := 0) (h := 0) (Chg.zero (l := 0) (h := 0) (((((cb2.t cb4).t c12).t c16).t c21).t c40)) cw42 (by omega)
   have f49 := f47.chg cw42 (by omega)
   have f50 := f41.chg cw42 (by omega)
   exact ⟨_, _, _, _, _, _, rfl, f49, f50, by omega, hrl, q48⟩

theorem c_iRatMake {w : World} {n1 : Bool} {v1 : Value} {lv1 uv1 : Nat} {z1 : List Int} {n2 : Bool} {v2 : Value} {lv2 uv2 : Nat} {z2 : List Int} (hv1 : Sl w lv1 uv1 v1 (z1)) (hv2 : Sl w lv2 uv2 v2 (z2)) (h63 : z1.length ≤ 4611686018427387904 ∧ z2.length ≤ 4611686018427387904) :
  Ret Tryz.prog 48 [.agg #[.bool n1, v1], .agg #[.bool n2, v2]] w fun v w' => ∃ s t ls us lt ut, v = .tuple #[.agg #[.bool ((rMake n1 z1 n2 z2).1), s, t], .bool ((rMake n1 z1 n2 z2).2.2.2)] ∧ OwnI w' (ls) (us) s intT ((rMake n1 z1 n2 z2).2.1) ∧ OwnI w' (lt) (ut) t intT ((rMake n1 z1 n2 z2).2.2.1) ∧ (w.heap.size ≤ ls ∧ us ≤ w'.heap.size ∧ w.heap.size ≤ lt ∧ ut ≤ w'.heap.size ∧ (us ≤ lt ∨ ut ≤ ls)) ∧ ((rMake n1 z1 n2 z2).2.1.length ≤ 18 ∧ (rMake n1 z1 n2 z2).2.2.1.length ≤ 18) ∧ Chg 0 0 w w' := by
 have hv10 := hv1.fit
 have hv20 := hv2.fit
 refine sx_enter Tryz.func48 rfl Tryz.ntmps48 (Nat.le_of_ble_eq_true rfl) ?_
 refine sx_seq fun K1 k1 => sx_region ?_
 refine sx_box [.bool n1, v1] rfl rfl rfl (fun b2 w3 eb2 sb2 fb2 cb2 => ?_)
 have zw3 := cb2.size
 refine sx_box [.bool n2, v2] rfl rfl rfl (fun b4 w5 eb4 sb4 fb4 cb4 => ?_)
 have zw5 := cb4.size
 refine sx_alloc [.bool false, (.slice none 0 0), (.slice none 0 0)] rfl Tryz.zeroValue32 rfl (fun b6 w7 eb6 sb6 fb6 cb6 => ?_)
 have zw7 := cb6.size
 refine sa rfl rfl rfl rfl ?_
 refine wl_nil (q_n (k1 _ _ ?_))
 refine sx_seq fun K8 k8 => ?_
 refine sx_seq fun K9 k9 => sx_region ?_
 have f10 := fb2.ext cb4
 have f11 := f10.ext cb6
 refine sx_pure rfl rfl rfl (px_load rfl (f11.loadA (vs := [.bool n1, v1]) (look_lit rfl) Tryz.isAgg28 Tryz.sizeOf28)) ?_
 have f12 := fb4.ext cb6
 refine sx_pure rfl rfl rfl (px_load rfl (f12.loadA (vs := [.bool n2, v2]) (look_lit rfl) Tryz.isAgg28 Tryz.sizeOf28)) ?_
 have f13 := hv10.ext cb2
 have f14 := f13.ext cb4
 have f15 := f14.ext cb6
 have f16 := hv20.ext cb2
 have f17 := f16.ext cb4
 have f18 := f17.ext cb6
 refine sx_call rfl rfl Tryz.call77 (c_intsOk f15 f18 (by omega)) (fun v19 w19 p19 => ?_)
 obtain ⟨rfl, c19⟩ := p19
 have zw19 := c19.size
 refine sx_pure rfl rfl rfl (px_notP rfl) ?_
 refine sm rfl rfl rfl rfl ?_
 refine sx_tmpP (t := 10) rfl (fun h37 => ?_) (fun h37 => ?_)
 ·
  refine sx_guardF rfl rfl rfl rfl rfl rfl ?_
  refine sx_guardF rfl rfl rfl rfl rfl rfl ?_
  refine sx_guardF rfl rfl rfl rfl rfl rfl ?_
  refine sx_guardF rfl rfl rfl rfl rfl rfl ?_
  refine sx_pure rfl rfl rfl (px_pick rfl rfl) ?_
  refine wl_nil (q_n (k9 _ _ ?_))
  refine sx_sub (Sub.cons (t := 2) rfl (.cons (t := 3) rfl (.cons (t := 4) rfl (.cons (t := 5) rfl (.cons (t := 15) rfl (.nil)))))) ?_
  refine sx_condT rfl ?_
  refine sx_seq fun K20 k20 => sx_region ?_
  refine sx_pure rfl rfl rfl (px_build rfl (xbld32x  _)) ?_
  have f22 := fb6.ext c19
  refine sx_store (vs := [.bool false, (.slice none 0 0), (.slice none 0 0)]) rfl rfl f22 rfl Tryz.sizeOf32 (Nat.le_of_ble_eq_true rfl) (one_cons rfl (one_cons rfl (one_cons rfl one_nil))) (fun w21 sw21 fw21 cw21 => ?_)
  have zw21 := cw21.size
  have gw21 : Blk w21 b6 [.bool false, (.slice none 0 0), (.slice none 0 0)] 32 := fw21
  refine sa rfl rfl rfl rfl ?_
  refine wl_nil (q_n (k20 _ _ ?_))
  refine sx_retc ?_
  refine q_r (sx_ret2 Tryz.results48 ⟨_, rfl, gw21.loadA (vs := [.bool false, (.slice none 0 0), (.slice none 0 0)]) (look_lit rfl) Tryz.isAgg32 Tryz.sizeOf32⟩ rfl ?_)
  first | rw [rMake_no (by assumption)] | rw [rMake_ok hI.1 hI.2, rR_zero (len_zero.1 (by omega))]
  have q23 := Chg.step (l := 0) (h := 0) (Chg.zero (l := 0) (h := 0) (((cb2.t cb4).t cb6).t c19)) cw21 (by omega)
  exact ⟨_, _, w.heap.size, w.heap.size, w.heap.size, w.heap.size, rfl, Own.nil _ _ _ _ _, Own.nil _ _ _ _ _, by omega, ⟨by simp [noR], by simp [noR]⟩, q23⟩
 ·
  have hI := Decidable.not_not.1 h37
  obtain ⟨x1, rfl, rfl, hx1⟩ := hI.1.int
  obtain ⟨x2, rfl, rfl, hx2⟩ := hI.2.int
  refine sx_guardT rfl rfl rfl ?_
  refine sx_pure rfl rfl rfl (px_field rfl xfld28x1) ?_
  refine sx_guardT rfl rfl rfl ?_
  have f24 := f12.ext c19
  refine sx_pure rfl rfl rfl (px_load rfl (f24.load1 rfl Tryz.isAgg22)) ?_
  refine sx_guardT rfl rfl rfl ?_
  have f25 := f18.ext c19
  refine sx_pure rfl rfl rfl (px_len rfl Tryz.underlying22 f25) ?_
  refine sx_guardT rfl rfl rfl ?_
  refine sx_pure rfl rfl rfl (px_eq rfl rfl) ?_
  refine sx_pure rfl rfl rfl (px_pick rfl rfl) ?_
  refine wl_nil (q_n (k9 _ _ ?_))
  refine sx_sub (Sub.cons (t := 2) rfl (.cons (t := 3) rfl (.cons (t := 4) rfl (.cons (t := 5) rfl (.cons (t := 15) rfl (.nil)))))) ?_
  refine sx_condP rfl (fun h37x1 => ?_) (fun h37x1 => ?_)
  ·
   refine sx_seq fun K26 k26 => sx_region ?_
   refine sx_pure rfl rfl rfl (px_build rfl (xbld32x  _)) ?_
   have f28 := fb6.ext c19
   refine sx_store (vs := [.bool false, (.slice none 0 0), (.slice none 0 0)]) rfl rfl f28 rfl Tryz.sizeOf32 (Nat.le_of_ble_eq_true rfl) (one_cons rfl (one_cons rfl (one_cons rfl one_nil))) (fun w27 sw27 fw27 cw27 => ?_)
   have zw27 := cw27.size
   have gw27 : Blk w27 b6 [.bool false, (.slice none 0 0), (.slice none 0 0)] 32 := fw27
   refine sa rfl rfl rfl rfl ?_
   refine wl_nil (q_n (k26 _ _ ?_))
   refine sx_retc ?_
   refine q_r (sx_ret2 Tryz.results48 ⟨_, rfl, gw27.loadA (vs := [.bool false, (.slice none 0 0), (.slice none 0 0)]) (look_lit rfl) Tryz.isAgg32 Tryz.sizeOf32⟩ rfl ?_)
   first | rw [rMake_no (by assumption)] | rw [rMake_ok hI.1 hI.2, rR_zero (len_zero.1 (by omega))]
   have q29 := Chg.step (l := 0) (h := 0) (Chg.zero (l := 0) (h := 0) (((cb2.t cb4).t cb6).t c19)) cw27 (by omega)
   exact ⟨_, _, w.heap.size, w.heap.size, w.heap.size, w.heap.size, rfl, Own.nil _ _ _ _ _, Own.nil _ _ _ _ _, by omega, ⟨by simp [noR], by simp [noR]⟩, q29⟩
  ·
   refine sx_skip ?_
   refine q_n (k8 _ _ ?_)
   refine sx_seq fun K30 k30 => ?_
   have f31 := f11.ext c19
   have f32 := f15.ext c19
   refine dx_region (fun w' => Chg b6 (b6 + 1) w19 w') (by kernel_rfl) (Chg.zero (Chg.drew _)) ?_
   have d33 := Chg.drew w19
   have s33 : Chg b6 (b6 + 1) w19 (World.drew w19) := Chg.zero (Chg.drew _)
   have y33 : (World.drew w19).heap.size = w19.heap.size := rfl
   generalize World.drew w19 = w33 at *
   have zw33 := d33.size
   refine dx_take 0 rfl rfl rfl rfl (by kernel_rfl) (by kernel_rfl) (by kernel_rfl) s33 (fun _ hS => px_field rfl xfld28x0) ?_
   refine dx_take 1 rfl rfl rfl rfl (by kernel_rfl) (by kernel_rfl) (by kernel_rfl) s33 (fun _ hS => px_load rfl ((f31.chg hS (by omega)).load1 rfl Tryz.isAgg4)) ?_
   refine dx_take 2 rfl rfl rfl rfl (by kernel_rfl) (by kernel_rfl) (by kernel_rfl) s33 (fun _ hS => px_field rfl xfld28x0) ?_
   refine dx_take 3 rfl rfl rfl rfl (by kernel_rfl) (by kernel_rfl) (by kernel_rfl) s33 (fun _ hS => px_load rfl ((f24.chg hS (by omega)).load1 rfl Tryz.isAgg4)) ?_
   refine dx_take 4 rfl rfl rfl rfl (by kernel_rfl) (by kernel_rfl) (by kernel_rfl) s33 (fun _ hS => px_neB Tryz.underlying4 rfl rfl) ?_
   refine dx_take 5 rfl rfl rfl rfl (by kernel_rfl) (by kernel_rfl) (by kernel_rfl) s33 (fun _ hS => px_field rfl xfld28x1) ?_
   refine dx_take 6 rfl rfl rfl rfl (by kernel_rfl) (by kernel_rfl) (by kernel_rfl) s33 (fun _ hS => px_load rfl ((f31.chg hS (by omega)).load1 rfl Tryz.isAgg22)) ?_
   refine dx_take 8 rfl rfl rfl rfl (by kernel_rfl) (by kernel_rfl) (by kernel_rfl) s33 (fun _ hS => px_field rfl xfld28x1) ?_
   refine dx_take 9 rfl rfl rfl rfl (by kernel_rfl) (by kernel_rfl) (by kernel_rfl) s33 (fun _ hS => px_load rfl ((f24.chg hS (by omega)).load1 rfl Tryz.isAgg22)) ?_
   refine dx_eff 7 rfl (by kernel_rfl) ?_
   have f34 := f32.ext d33
   refine sx_call rfl rfl Tryz.call76 (c_signed f34 (by omega)) (fun v35 w35 p35 => ?_)
   obtain ⟨rfl, c35⟩ := p35
   have zw35 := c35.size
   have s36 : Chg b6 (b6 + 1) w19 w35 := (Chg.zero (l := b6) (h := (b6 + 1)) (d33.t c35))
   refine wl_nil ?_
   refine dx_next s36 ?_
   refine dx_eff 10 rfl (by kernel_rfl) ?_
   have f37 := f34.ext c35
   have f38 := f25.ext d33
   have f39 := f38.ext c35
   refine sx_call rfl rfl Tryz.call78 (c_reduce f37 f39 (by omega) (by omega) (len_pos.1 (by omega))) (fun v40 w40 p40 => ?_)
   obtain ⟨s40, t40, ls40, us40, lt40, ut40, rfl, os_40, ot_40, hd40, hl40, c40⟩ := p40
   have zw40 := c40.size
   have s41 : Chg b6 (b6 + 1) w19 w40 := (Chg.zero (l := b6) (h := (b6 + 1)) ((d33.t c35).t c40))
   refine wl_nil ?_
   refine dx_next s41 ?_
   refine dx_take 11 rfl rfl rfl rfl (by kernel_rfl) (by kernel_rfl) (by kernel_rfl) s41 (fun _ hS => px_extract (vs := [.agg #[.bool ((rR (sgI (nz ((ng x1) != (ng x2)) (dg x1.natAbs)) x1.natAbs) x2.natAbs).1), s40, t40], .bool ((rR (sgI (nz ((ng x1) != (ng x2)) (dg x1.natAbs)) x1.natAbs) x2.natAbs).2.2.2)]) rfl rfl) ?_
   refine dx_take 12 rfl rfl rfl rfl (by kernel_rfl) (by kernel_rfl) (by kernel_rfl) s41 (fun _ hS => px_extract (vs := [.agg #[.bool ((rR (sgI (nz ((ng x1) != (ng x2)) (dg x1.natAbs)) x1.natAbs) x2.natAbs).1), s40, t40], .bool ((rR (sgI (nz ((ng x1) != (ng x2)) (dg x1.natAbs)) x1.natAbs) x2.natAbs).2.2.2)]) rfl rfl) ?_
   refine dx_eff 13 rfl (by kernel_rfl) ?_
   have f43 := fb6.ext c19
   have f44 := f43.ext d33
   have f45 := f44.ext c35
   have f46 := f45.ext c40
   refine sx_store (vs := [.bool ((rR (sgI (nz ((ng x1) != (ng x2)) (dg x1.natAbs)) x1.natAbs) x2.natAbs).1), s40, t40]) rfl rfl f46 rfl Tryz.sizeOf32 (Nat.le_of_ble_eq_true rfl) (one_cons rfl (one_cons os_40.one (one_cons ot_40.one one_nil))) (fun w42 sw42 fw42 cw42 => ?_)
   have zw42 := cw42.size
   have gw42 : Blk w42 b6 [.bool ((rR (sgI (nz ((ng x1) != (ng x2)) (dg x1.natAbs)) x1.natAbs) x2.natAbs).1), s40, t40] 32 := fw42
   have q48 := Chg.step (l := b6) (h := (b6 + 1)) (Chg.zero (l := b6) (h := (b6 + 1)) ((d33.t c35).t c40)) cw42 (by omega)
   have s47 : Chg b6 (b6 + 1) w19 w42 := q48
   refine wl_nil ?_
   refine dx_next s47 ?_
   refine dx_take 14 rfl rfl rfl rfl (by kernel_rfl) (by kernel_rfl) (by kernel_rfl) s47 (fun _ hS => px_assign rfl) ?_
   refine dx_done (by kernel_rfl) ?_
   refine q_n (k30 _ _ ?_)
   refine sx_sub (Sub.cons (t := 4) rfl (.cons (t := 5) rfl (.nil))) ?_
   refine sx_retc ?_
   refine sx_ret2 Tryz.results48 ⟨_, rfl, gw42.loadA (vs := [.bool ((rR (sgI (nz ((ng x1) != (ng x2)) (dg x1.natAbs)) x1.natAbs) x2.natAbs).1), s40, t40]) (look_lit rfl) Tryz.isAgg32 Tryz.sizeOf32⟩ rfl ?_
   have hrl := rMake_len (n1 := ng x1) (z1 := dg x1.natAbs) (n2 := ng x2) (z2 := dg x2.natAbs)
   have hre : rMake (ng x1) (dg x1.natAbs) (ng x2) (dg x2.natAbs) = rR (sgI (nz (ng x1 != ng x2) (dg x1.natAbs)) x1.natAbs) x2.natAbs := by rw [rMake_ok hI.1 hI.2, sgI_nz]
   rw [hre] at hrl ⊢
   have q49 := Chg.step (l := 0) (h := 0) (Chg.zero (l := 0) (h := 0) ((((((cb2.t cb4).t cb6).t c19).t d33).t c35).t c40)) cw42 (by omega)
   have f50 := os_40.chg cw42 (by omega)
   have f51 := ot_40.chg cw42 (by omega)
   exact ⟨_, _, _, _, _, _, rfl, f50, f51, by omega, hrl, q49⟩

theorem c_iRatInt {w : World} {n1 : Bool} {v1 : Value} {lv1 uv1 : Nat} {z1 : List Int} (hv1 : Sl w lv1 uv1 v1 (z1)) (h63 : z1.length ≤ 4611686018427387904) :
  Ret Tryz.prog 33 [.agg #[.bool n1, v1]] w fun v w' => ∃ s t ls us lt ut, v = .tuple #[.agg #[.bool ((rInt n1 z1).1), s, t], .bool ((rInt n1 z1).2.2.2)] ∧ OwnI w' (ls) (us) s intT ((rInt n1 z1).2.1) ∧ OwnI w' (lt) (ut) t intT ((rInt n1 z1).2.2.1) ∧ (w.heap.size ≤ ls ∧ us ≤ w'.heap.size ∧ w.heap.size ≤ lt ∧ ut ≤ w'.heap.size ∧ (us ≤ lt ∨ ut ≤ ls)) ∧ ((rInt n1 z1).2.1.length ≤ 18 ∧ (rInt n1 z1).2.2.1.length ≤ 18) ∧ Chg 0 0 w w' := by
 have hv10 := hv1.fit
 refine sx_enter Tryz.func33 rfl Tryz.ntmps33 (Nat.le_of_ble_eq_true rfl) ?_
 refine sx_seq fun K1 k1 => sx_region ?_
 refine sx_box [.bool n1, v1] rfl rfl rfl (fun b2 w3 eb2 sb2 fb2 cb2 => ?_)
 have zw3 := cb2.size
 refine sx_alloc [.bool false, (.slice none 0 0), (.slice none 0 0)] rfl Tryz.zeroValue32 rfl (fun b4 w5 eb4 sb4 fb4 cb4 => ?_)
 have zw5 := cb4.size
 refine sa rfl rfl rfl rfl ?_
 refine wl_nil (q_n (k1 _ _ ?_))
 refine sx_seq fun K6 k6 => ?_
 have f7 := fb2.ext cb4
 have f8 := hv10.ext cb2
 have f9 := f8.ext cb4
 refine dx_region (fun w' => Chg b4 (b4 + 1) w5 w') (by kernel_rfl) (Chg.zero (Chg.drew _)) ?_
 have d10 := Chg.drew w5
 have s10 : Chg b4 (b4 + 1) w5 (World.drew w5) := Chg.zero (Chg.drew _)
 have y10 : (World.drew w5).heap.size = w5.heap.size := rfl
 generalize World.drew w5 = w10 at *
 have zw10 := d10.size
 refine dx_take 0 rfl rfl rfl rfl (by kernel_rfl) (by kernel_rfl) (by kernel_rfl) s10 (fun _ hS => px_load rfl ((f7.chg hS (by omega)).loadA (vs := [.bool n1, v1]) (look_lit rfl) Tryz.isAgg28 Tryz.sizeOf28)) ?_
 refine dx_eff 1 rfl (by kernel_rfl) ?_
 refine sx_call rfl rfl Tryz.call49 (c_iIntOf (by omega)) (fun v11 w11 p11 => ?_)
 obtain ⟨s11, rfl, os_11, c11⟩ := p11
 have zw11 := c11.size
 have s12 : Chg b4 (b4 + 1) w5 w11 := (Chg.zero (l := b4) (h := (b4 + 1)) (d10.t c11))
 refine wl_nil ?_
 refine dx_next s12 ?_
 refine dx_eff 2 rfl (by kernel_rfl) ?_
 have f13 := f9.ext d10
 have f14 := f13.ext c11
 refine sx_call rfl rfl Tryz.call48 (c_iRatMake f14 os_11.sv (by have h9 := len_i64 (n := 1) (by omega); omega)) (fun v15 w15 p15 => ?_)
 obtain ⟨s15, t15, ls15, us15, lt15, ut15, rfl, os_15, ot_15, hd15, hl15, c15⟩ := p15
 have zw15 := c15.size
 have s16 : Chg b4 (b4 + 1) w5 w15 := (Chg.zero (l := b4) (h := (b4 + 1)) ((d10.t c11).t c15))
 refine wl_nil ?_
 refine dx_next s16 ?_
 refine dx_take 3 rfl rfl rfl rfl (by kernel_rfl) (by kernel_rfl) (by kernel_rfl) s16 (fun _ hS => px_extract (vs := [.agg #[.bool ((rMake n1 z1 (ng (1 : Int)) (dg ((1 : Int)).natAbs)).1), s15, t15], .bool ((rMake n1 z1 (ng (1 : Int)) (dg ((1 : Int)).natAbs)).2.2.2)]) rfl rfl) ?_
 refine dx_take 4 rfl rfl rfl rfl (by kernel_rfl) (by kernel_rfl) (by kernel_rfl) s16 (fun _ hS => px_extract (vs := [.agg #[.bool ((rMake n1 z1 (ng (1 : Int)) (dg ((1 : Int)).natAbs)).1), s15, t15], .bool ((rMake n1 z1 (ng (1 : Int)) (dg ((1 : Int)).natAbs)).2.2.2)]) rfl rfl) ?_
 refine dx_eff 5 rfl (by kernel_rfl) ?_
 have f18 := fb4.ext d10
 have f19 := f18.ext c11
 have f20 := f19.ext c15
 refine sx_store (vs := [.bool ((rMake n1 z1 (ng (1 : Int)) (dg ((1 : Int)).natAbs)).1), s15, t15]) rfl rfl f20 rfl Tryz.sizeOf32 (Nat.le_of_ble_eq_true rfl) (one_cons rfl (one_cons os_15.one (one_cons ot_15.one one_nil))) (fun w17 sw17 fw17 cw17 => ?_)
 have zw17 := cw17.size
 have gw17 : Blk w17 b4 [.bool ((rMake n1 z1 (ng (1 : Int)) (dg ((1 : Int)).natAbs)).1), s15, t15] 32 := fw17
 have q22 := Chg.step (l := b4) (h := (b4 + 1)) (Chg.zero (l := b4) (h := (b4 + 1)) ((d10.t c11).t c15)) cw17 (by omega)
 have s21 : Chg b4 (b4 + 1) w5 w17 := q22
 refine wl_nil ?_
 refine dx_next s21 ?_
 refine dx_take 6 rfl rfl rfl rfl (by kernel_rfl) (by kernel_rfl) (by kernel_rfl) s21 (fun _ hS => px_assign rfl) ?_
 refine dx_done (by kernel_rfl) ?_
 refine q_n (k6 _ _ ?_)
 refine sx_retc ?_
 refine sx_ret2 Tryz.results33 ⟨_, rfl, gw17.loadA (vs := [.bool ((rMake n1 z1 (ng (1 : Int)) (dg ((1 : Int)).natAbs)).1), s15, t15]) (look_lit rfl) Tryz.isAgg32 Tryz.sizeOf32⟩ rfl ?_
 have hrl := rInt_len (n := n1) (z := z1)
 unfold rInt at hrl ⊢
 have q23 := Chg.step (l := 0) (h := 0) (Chg.zero (l := 0) (h := 0) ((((cb2.t cb4).t d10).t c11).t c15)) cw17 (by omega)
 have f24 := os_15.chg cw17 (by omega)
 have f25 := ot_15.chg cw17 (by omega)
 exact ⟨_, _, _, _, _, _, rfl, f24, f25, by omega, hrl, q23⟩

theorem c_ratsOk {w : World} {n1 : Bool} {v1 : Value} {lv1 uv1 : Nat} {z1 : List Int} {d1 : Value} {ld1 ud1 : Nat} {y1 : List Int} {n2 : Bool} {v2 : Value} {lv2 uv2 : Nat} {z2 : List Int} {d2 : Value} {ld2 ud2 : Nat} {y2 : List Int} (hv1 : Sl w lv1 uv1 v1 (z1)) (hd1 : Sl w ld1 ud1 d1 (y1)) (hv2 : Sl w lv2 uv2 v2 (z2)) (hd2 : Sl w ld2 ud2 d2 (y2)) (h63 : z1.length ≤ 4611686018427387904 ∧ y1.length ≤ 4611686018427387904 ∧ z2.length ≤ 4611686018427387904 ∧ y2.length ≤ 4611686018427387904) :
  Ret Tryz.prog 50 [.agg #[.bool n1, v1, d1], .agg #[.bool n2, v2, d2]] w fun v w' => v = .bool (decide (ROk n1 z1 y1 ∧ ROk n2 z2 y2)) ∧ Chg 0 0 w w' := by
 have hv10 := hv1.fit
 have hd10 := hd1.fit
 have hv20 := hv2.fit
 have hd20 := hd2.fit
 refine sx_enter Tryz.func50 rfl Tryz.ntmps50 (Nat.le_of_ble_eq_true rfl) ?_
 refine sx_seq fun K1 k1 => sx_region ?_
 refine sx_box [.bool n1, v1, d1] rfl rfl rfl (fun b2 w3 eb2 sb2 fb2 cb2 => ?_)
 have zw3 := cb2.size
 refine sx_box [.bool n2, v2, d2] rfl rfl rfl (fun b4 w5 eb4 sb4 fb4 cb4 => ?_)
 have zw5 := cb4.size
 refine sa rfl rfl rfl rfl ?_
 refine wl_nil (q_n (k1 _ _ ?_))
 refine sx_seq fun K6 k6 => sx_region ?_
 have f7 := fb2.ext cb4
 refine sx_pure rfl rfl rfl (px_load rfl (f7.loadA (vs := [.bool n1, v1, d1]) (look_lit rfl) Tryz.isAgg32 Tryz.sizeOf32)) ?_
 have f8 := hv10.ext cb2
 have f9 := f8.ext cb4
 have f10 := hd10.ext cb2
 have f11 := f10.ext cb4
 refine sx_call rfl rfl Tryz.call45 (c_iRatOk f9 f11 (by omega)) (fun v12 w12 p12 => ?_)
 obtain ⟨rfl, c12⟩ := p12
 have zw12 := c12.size
 refine sm rfl rfl rfl rfl ?_
 refine sx_tmpP (t := 7) rfl (fun h33 => ?_) (fun h33 => ?_)
 ·
  refine sx_guardT rfl rfl rfl ?_
  have f13 := fb4.ext c12
  refine sx_pure rfl rfl rfl (px_load rfl (f13.loadA (vs := [.bool n2, v2, d2]) (look_lit rfl) Tryz.isAgg32 Tryz.sizeOf32)) ?_
  refine sx_guardT rfl rfl rfl ?_
  have f14 := hv20.ext cb2
  have f15 := f14.ext cb4
  have f16 := f15.ext c12
  have f17 := hd20.ext cb2
  have f18 := f17.ext cb4
  have f19 := f18.ext c12
  refine sx_call rfl rfl Tryz.call45 (c_iRatOk f16 f19 (by omega)) (fun v20 w20 p20 => ?_)
  obtain ⟨rfl, c20⟩ := p20
  have zw20 := c20.size
  refine sx_pure rfl rfl rfl (px_pick rfl rfl) ?_
  refine sa rfl rfl rfl rfl ?_
  refine wl_nil (q_n (k6 _ _ ?_))
  refine sx_retc ?_
  refine sx_ret1 Tryz.results50 rfl ?_
  exact ⟨(by first | exact bTrue (by grind) | exact bFalse (by grind) | exact bIff (by grind)), (((cb2.t cb4).t c12).t c20)⟩
 ·
  refine sx_guardF rfl rfl rfl rfl rfl rfl ?_
  refine sx_guardF rfl rfl rfl rfl rfl rfl ?_
  refine sx_pure rfl rfl rfl (px_pick rfl rfl) ?_
  refine sa rfl rfl rfl rfl ?_
  refine wl_nil (q_n (k6 _ _ ?_))
  refine sx_retc ?_
  refine sx_ret1 Tryz.results50 rfl ?_
  exact ⟨(by first | exact bTrue (by grind) | exact bFalse (by grind) | exact bIff (by grind)), ((cb2.t cb4).t c12)⟩

theorem c_intNeg {w : World} {va : Value} {lva uva : Nat} {x : Int} (hva : Sl w lva uva va (dg x.natAbs)) (hbx : (dg x.natAbs).length ≤ 1000) :
  Ret Tryz.prog 83 [.agg #[.bool (ng x), va]] w fun v w' => ∃ s, v = .agg #[.bool (ng (-x)), s] ∧ OwnI w' w.heap.size w'.heap.size s intT (dg (-x).natAbs) ∧ Chg 0 0 w w' := by
 have hva0 := hva.fit
 refine sx_enter Tryz.func83 rfl Tryz.ntmps83 (Nat.le_of_ble_eq_true rfl) ?_
 refine sx_seq fun K1 k1 => sx_region ?_
 refine sx_box [.bool (ng x), va] rfl rfl rfl (fun b2 w3 eb2 sb2 fb2 cb2 => ?_)
 have zw3 := cb2.size
 refine sx_alloc [.bool false, (.slice none 0 0)] rfl Tryz.zeroValue28 rfl (fun b4 w5 eb4 sb4 fb4 cb4 => ?_)
 have zw5 := cb4.size
 refine wl_nil (q_n (k1 _ _ ?_))
 refine sx_seq fun K6 k6 => ?_
 have f7 := fb2.ext cb4
 have f8 := hva0.ext cb2
 have f9 := f8.ext cb4
 refine dx_region (fun w' => Chg b4 (b4 + 1) w5 w') (by kernel_rfl) (Chg.zero (Chg.drew _)) ?_
 have d10 := Chg.drew w5
 have s10 : Chg b4 (b4 + 1) w5 (World.drew w5) := Chg.zero (Chg.drew _)
 have y10 : (World.drew w5).heap.size = w5.heap.size := rfl
 generalize World.drew w5 = w10 at *
 have zw10 := d10.size
 refine dx_take 0 rfl rfl rfl rfl (by kernel_rfl) (by kernel_rfl) (by kernel_rfl) s10 (fun _ hS => px_field rfl xfld28x0) ?_
 refine dx_take 1 rfl rfl rfl rfl (by kernel_rfl) (by kernel_rfl) (by kernel_rfl) s10 (fun _ hS => px_load rfl ((f7.chg hS (by omega)).load1 rfl Tryz.isAgg4)) ?_
 refine dx_take 2 rfl rfl rfl rfl (by kernel_rfl) (by kernel_rfl) (by kernel_rfl) s10 (fun _ hS => px_not rfl) ?_
 refine dx_take 3 rfl rfl rfl rfl (by kernel_rfl) (by kernel_rfl) (by kernel_rfl) s10 (fun _ hS => px_field rfl xfld28x1) ?_
 refine dx_take 4 rfl rfl rfl rfl (by kernel_rfl) (by kernel_rfl) (by kernel_rfl) s10 (fun _ hS => px_load rfl ((f7.chg hS (by omega)).load1 rfl Tryz.isAgg22)) ?_
 refine dx_eff 5 rfl (by kernel_rfl) ?_
 have f11 := f9.ext d10
 refine sx_call rfl rfl Tryz.call84 (c_natCopy f11 (by omega)) (fun v12 w12 p12 => ?_)
 obtain ⟨s12, rfl, os_12, c12⟩ := p12
 have zw12 := c12.size
 have s13 : Chg b4 (b4 + 1) w5 w12 := (Chg.zero (l := b4) (h := (b4 + 1)) (d10.t c12))
 refine wl_nil ?_
 refine dx_next s13 ?_
 refine dx_eff 6 rfl (by kernel_rfl) ?_
 refine sx_call rfl rfl Tryz.call76 (c_signed os_12.sv (by omega)) (fun v14 w14 p14 => ?_)
 obtain ⟨rfl, c14⟩ := p14
 have zw14 := c14.size
 have s15 : Chg b4 (b4 + 1) w5 w14 := (Chg.zero (l := b4) (h := (b4 + 1)) ((d10.t c12).t c14))
 refine wl_nil ?_
 refine dx_next s15 ?_
 refine dx_eff 7 rfl (by kernel_rfl) ?_
 have f17 := fb4.ext d10
 have f18 := f17.ext c12
 have f19 := f18.ext c14
 have f20 := os_12.ext c14
 refine sx_store (vs := [.bool (nz (!(ng x)) (dg x.natAbs)), v12]) rfl rfl f19 rfl Tryz.sizeOf28 (Nat.le_of_ble_eq_true rfl) (one_cons rfl (one_cons f20.one one_nil)) (fun w16 sw16 fw16 cw16 => ?_)
 have zw16 := cw16.size
 have gw16 : Blk w16 b4 [.bool (nz (!(ng x)) (dg x.natAbs)), v12] 28 := fw16
 have q22 := Chg.step (l := b4) (h := (b4 + 1)) (Chg.zero (l := b4) (h := (b4 + 1)) ((d10.t c12).t c14)) cw16 (by omega)
 have s21 : Chg b4 (b4 + 1) w5 w16 := q22
 refine wl_nil ?_
 refine dx_next s21 ?_
 refine dx_done (by kernel_rfl) ?_
 refine q_n (k6 _ _ ?_)
 refine sx_retc ?_
 refine sx_ret1 Tryz.results83 ⟨_, rfl, gw16.loadA (vs := [.bool (nz (!(ng x)) (dg x.natAbs)), v12]) (look_lit rfl) Tryz.isAgg28 Tryz.sizeOf28⟩ ?_
 have hh := neg_sg x
 rw [← hh.1, ← hh.2]
 have q23 := Chg.step (l := 0) (h := 0) (Chg.zero (l := 0) (h := 0) ((((cb2.t cb4).t d10).t c12).t c14)) cw16 (by omega)
 have f24 := f20.chg cw16 (by omega)
 exact ⟨_, rfl, (Own.mono f24 (by omega) (by omega)), q23⟩

theorem c_ratNeg {w : World} {va : Value} {lva uva : Nat} {x : Int} {vd : Value} {lvd uvd : Nat} {yy : List Int} (hva : Sl w lva uva va (dg x.natAbs)) (hvd : Sl w lvd uvd vd (yy)) (hbx : (dg x.natAbs).length ≤ 1000) (h63 : yy.length ≤ 1048576) :
  Ret Tryz.prog 52 [.agg #[.bool (ng x), va, vd]] w fun v w' => ∃ s t ls us lt ut, v = .agg #[.bool (ng (-x)), s, t] ∧ OwnI w' (ls) (us) s intT (dg (-x).natAbs) ∧ OwnI w' (lt) (ut) t intT (yy) ∧ (w.heap.size ≤ ls ∧ us ≤ w'.heap.size ∧ w.heap.size ≤ lt ∧ ut ≤ w'.heap.size ∧ (us ≤ lt ∨ ut ≤ ls)) ∧ Chg 0 0 w w' := by
 have hva0 := hva.fit
 have hvd0 := hvd.fit
 refine sx_enter Tryz.func52 rfl Tryz.ntmps52 (Nat.le_of_ble_eq_true rfl) ?_
 refine sx_seq fun K1 k1 => sx_region ?_
 refine sx_box [.bool (ng x), va, vd] rfl rfl rfl (fun b2 w3 eb2 sb2 fb2 cb2 => ?_)
 have zw3 := cb2.size
 refine sx_alloc [.bool false, (.slice none 0 0), (.slice none 0 0)] rfl Tryz.zeroValue32 rfl (fun b4 w5 eb4 sb4 fb4 cb4 => ?_)
 have zw5 := cb4.size
 refine wl_nil (q_n (k1 _ _ ?_))
 refine sx_seq fun K6 k6 => ?_
 have f7 := fb2.ext cb4
 have f8 := hva0.ext cb2
 have f9 := f8.ext cb4
 have f10 := hvd0.ext cb2
 have f11 := f10.ext cb4
 refine dx_region (fun w' => Chg b4 (b4 + 1) w5 w') (by kernel_rfl) (Chg.zero (Chg.drew _)) ?_
 have d12 := Chg.drew w5
 have s12 : Chg b4 (b4 + 1) w5 (World.drew w5) := Chg.zero (Chg.drew _)
 have y12 : (World.drew w5).heap.size = w5.heap.size := rfl
 generalize World.drew w5 = w12 at *
 have zw12 := d12.size
 refine dx_take 0 rfl rfl rfl rfl (by kernel_rfl) (by kernel_rfl) (by kernel_rfl) s12 (fun _ hS => px_field rfl xfld32x0) ?_
 refine dx_take 1 rfl rfl rfl rfl (by kernel_rfl) (by kernel_rfl) (by kernel_rfl) s12 (fun _ hS => px_load rfl ((f7.chg hS (by omega)).loadA (vs := [.bool (ng x), va]) (look_lit rfl) Tryz.isAgg28 Tryz.sizeOf28)) ?_
 refine dx_take 3 rfl rfl rfl rfl (by kernel_rfl) (by kernel_rfl) (by kernel_rfl) s12 (fun _ hS => px_field rfl xfld32x1) ?_
 refine dx_take 4 rfl rfl rfl rfl (by kernel_rfl) (by kernel_rfl) (by kernel_rfl) s12 (fun _ hS => px_load rfl ((f7.chg hS (by omega)).load1 rfl Tryz.isAgg22)) ?_
 refine dx_eff 2 rfl (by kernel_rfl) ?_
 have f13 := f9.ext d12
 refine sx_call rfl rfl Tryz.call83 (c_intNeg f13 (by omega)) (fun v14 w14 p14 => ?_)
 obtain ⟨s14, rfl, os_14, c14⟩ := p14
 have zw14 := c14.size
 have s15 : Chg b4 (b4 + 1) w5 w14 := (Chg.zero (l := b4) (h := (b4 + 1)) (d12.t c14))
 refine wl_nil ?_
 refine dx_next s15 ?_
 refine dx_eff 5 rfl (by kernel_rfl) ?_
 have f16 := f11.ext d12
 have f17 := f16.ext c14
 refine sx_call rfl rfl Tryz.call84 (c_natCopy f17 (by omega)) (fun v18 w18 p18 => ?_)
 obtain ⟨s18, rfl, os_18, c18⟩ := p18
 have zw18 := c18.size
 have s19 : Chg b4 (b4 + 1) w5 w18 := (Chg.zero (l := b4) (h := (b4 + 1)) ((d12.t c14).t c18))
 refine wl_nil ?_
 refine dx_next s19 ?_
 refine dx_take 6 rfl rfl rfl rfl (by kernel_rfl) (by kernel_rfl) (by kernel_rfl) s19 (fun _ hS => px_build rfl (xbld32x0x1 os_18.one _)) ?_
 refine dx_eff 7 rfl (by kernel_rfl) ?_
 have f21 := fb4.ext d12
 have f22 := f21.ext c14
 have f23 := f22.ext c18
 have f24 := os_14.ext c18
 refine sx_store (vs := [.bool (ng (-x)), s14, v18]) rfl rfl f23 rfl Tryz.sizeOf32 (Nat.le_of_ble_eq_true rfl) (one_cons rfl (one_cons f24.one (one_cons os_18.one one_nil))) (fun w20 sw20 fw20 cw20 => ?_)
 have zw20 := cw20.size
 have gw20 : Blk w20 b4 [.bool (ng (-x)), s14, v18] 32 := fw20
 have q26 := Chg.step (l := b4) (h := (b4 + 1)) (Chg.zero (l := b4) (h := (b4 + 1)) ((d12.t c14).t c18)) cw20 (by omega)
 have s25 : Chg b4 (b4 + 1) w5 w20 := q26
 refine wl_nil ?_
 refine dx_next s25 ?_
 refine dx_done (by kernel_rfl) ?_
 refine q_n (k6 _ _ ?_)
 refine sx_retc ?_
 refine sx_ret1 Tryz.results52 ⟨_, rfl, gw20.loadA (vs := [.bool (ng (-x)), s14, v18]) (look_lit rfl) Tryz.isAgg32 Tryz.sizeOf32⟩ ?_
 have q27 := Chg.step (l := 0) (h := 0) (Chg.zero (l := 0) (h := 0) ((((cb2.t cb4).t d12).t c14).t c18)) cw20 (by omega)
 have f28 := f24.chg cw20 (by omega)
 have f29 := os_18.chg cw20 (by omega)
 exact ⟨_, _, _, _, _, _, rfl, f28, f29, by omega, q27⟩

theorem c_ratNum {w : World} {va : Value} {lva uva : Nat} {x : Int} {vd : Value} {lvd uvd : Nat} {yy : List Int} {vb : Value} {lvb uvb : Nat} {b : Nat} (hva : Sl w lva uva va (dg x.natAbs)) (hvd : Sl w lvd uvd vd (yy)) (hvb : Sl w lvb uvb vb (dg b)) (hbx : (dg x.natAbs).length ≤ 1000) (hbb : (dg b).length ≤ 1000) :
  Ret Tryz.prog 80 [.agg #[.bool (ng x), va, vd], vb] w fun v w' => ∃ s, v = .agg #[.bool (ng (x * ((b : Nat) : Int))), s] ∧ OwnI w' w.heap.size w'.heap.size s intT (dg (x * ((b : Nat) : Int)).natAbs) ∧ Chg 0 0 w w' := by
 have hva0 := hva.fit
 have hvd0 := hvd.fit
 have hvb0 := hvb.fit
 have lmb := len_mul x.natAbs b
 refine sx_enter Tryz.func80 rfl Tryz.ntmps80 (Nat.le_of_ble_eq_true rfl) ?_
 refine sx_seq fun K1 k1 => sx_region ?_
 refine sx_box [.bool (ng x), va, vd] rfl rfl rfl (fun b2 w3 eb2 sb2 fb2 cb2 => ?_)
 have zw3 := cb2.size
 refine sx_alloc [.bool false, (.slice none 0 0)] rfl Tryz.zeroValue28 rfl (fun b4 w5 eb4 sb4 fb4 cb4 => ?_)
 have zw5 := cb4.size
 refine wl_nil (q_n (k1 _ _ ?_))
 refine sx_seq fun K6 k6 => ?_
 have f7 := fb2.ext cb4
 have f8 := hva0.ext cb2
 have f9 := f8.ext cb4
 have f10 := hvd0.ext cb2
 have f11 := f10.ext cb4
 have f12 := hvb0.ext cb2
 have f13 := f12.ext cb4
 refine dx_region (fun w' => Chg b4 (b4 + 1) w5 w') (by kernel_rfl) (Chg.zero (Chg.drew _)) ?_
 have d14 := Chg.drew w5
 have s14 : Chg b4 (b4 + 1) w5 (World.drew w5) := Chg.zero (Chg.drew _)
 have y14 : (World.drew w5).heap.size = w5.heap.size := rfl
 generalize World.drew w5 = w14 at *
 have zw14 := d14.size
 refine dx_take 0 rfl rfl rfl rfl (by kernel_rfl) (by kernel_rfl) (by kernel_rfl) s14 (fun _ hS => px_field rfl xfld32x0) ?_
 refine dx_take 1 rfl rfl rfl rfl (by kernel_rfl) (by kernel_rfl) (by kernel_rfl) s14 (fun _ hS => px_field rfl xfld28x0) ?_
 refine dx_take 2 rfl rfl rfl rfl (by kernel_rfl) (by kernel_rfl) (by kernel_rfl) s14 (fun _ hS => px_load rfl ((f7.chg hS (by omega)).load1 rfl Tryz.isAgg4)) ?_
 refine dx_take 3 rfl rfl rfl rfl (by kernel_rfl) (by kernel_rfl) (by kernel_rfl) s14 (fun _ hS => px_field rfl xfld32x0) ?_
 refine dx_take 4 rfl rfl rfl rfl (by kernel_rfl) (by kernel_rfl) (by kernel_rfl) s14 (fun _ hS => px_field rfl xfld28x1) ?_
 refine dx_take 5 rfl rfl rfl rfl (by kernel_rfl) (by kernel_rfl) (by kernel_rfl) s14 (fun _ hS => px_load rfl ((f7.chg hS (by omega)).load1 rfl Tryz.isAgg22)) ?_
 refine dx_take 6 rfl rfl rfl rfl (by kernel_rfl) (by kernel_rfl) (by kernel_rfl) s14 (fun _ hS => px_move rfl) ?_
 refine dx_eff 7 rfl (by kernel_rfl) ?_
 have f15 := f9.ext d14
 have f16 := f13.ext d14
 refine sx_call rfl rfl Tryz.call82 (c_natMul f15 f16 (by omega) (by omega)) (fun v17 w17 p17 => ?_)
 obtain ⟨s17, rfl, os_17, c17⟩ := p17
 have zw17 := c17.size
 have s18 : Chg b4 (b4 + 1) w5 w17 := (Chg.zero (l := b4) (h := (b4 + 1)) (d14.t c17))
 refine wl_nil ?_
 refine dx_next s18 ?_
 refine dx_eff 8 rfl (by kernel_rfl) ?_
 refine sx_call rfl rfl Tryz.call76 (c_signed os_17.sv (by omega)) (fun v19 w19 p19 => ?_)
 obtain ⟨rfl, c19⟩ := p19
 have zw19 := c19.size
 have s20 : Chg b4 (b4 + 1) w5 w19 := (Chg.zero (l := b4) (h := (b4 + 1)) ((d14.t c17).t c19))
 refine wl_nil ?_
 refine dx_next s20 ?_
 refine dx_eff 9 rfl (by kernel_rfl) ?_
 have f22 := fb4.ext d14
 have f23 := f22.ext c17
 have f24 := f23.ext c19
 have f25 := os_17.ext c19
 refine sx_store (vs := [.bool (nz (ng x) (dg (x.natAbs * b))), v17]) rfl rfl f24 rfl Tryz.sizeOf28 (Nat.le_of_ble_eq_true rfl) (one_cons rfl (one_cons f25.one one_nil)) (fun w21 sw21 fw21 cw21 => ?_)
 have zw21 := cw21.size
 have gw21 : Blk w21 b4 [.bool (nz (ng x) (dg (x.natAbs * b))), v17] 28 := fw21
 have q27 := Chg.step (l := b4) (h := (b4 + 1)) (Chg.zero (l := b4) (h := (b4 + 1)) ((d14.t c17).t c19)) cw21 (by omega)
 have s26 : Chg b4 (b4 + 1) w5 w21 := q27
 refine wl_nil ?_
 refine dx_next s26 ?_
 refine dx_done (by kernel_rfl) ?_
 refine q_n (k6 _ _ ?_)
 refine sx_retc ?_
 refine sx_ret1 Tryz.results80 ⟨_, rfl, gw21.loadA (vs := [.bool (nz (ng x) (dg (x.natAbs * b))), v17]) (look_lit rfl) Tryz.isAgg28 Tryz.sizeOf28⟩ ?_
 have hh := mul_nat_sg x b
 rw [← hh.1, ← hh.2]
 have q28 := Chg.step (l := 0) (h := 0) (Chg.zero (l := 0) (h := 0) ((((cb2.t cb4).t d14).t c17).t c19)) cw21 (by omega)
 have f29 := f25.chg cw21 (by omega)
 exact ⟨_, rfl, (Own.mono f29 (by omega) (by omega)), q28⟩

theorem c_natSub {w : World} {va : Value} {lva uva : Nat} {m : Nat} {vb : Value} {lvb uvb : Nat} {n : Nat} (hva : Sl w lva uva va (dg m)) (hvb : Sl w lvb uvb vb (dg n)) (hbm : (dg m).length ≤ 1000) (hbn : (dg n).length ≤ 1000) (hle : n ≤ m) :
  Ret Tryz.prog 105 [va, vb] w fun v w' => ∃ s, v = s ∧ OwnI w' w.heap.size w'.heap.size s intT (dg (m - n)) ∧ Chg 0 0 w w' := by
 have hva0 := hva.fit
 have hvb0 := hvb.fit
 refine sx_enter Tryz.func105 rfl Tryz.ntmps105 (Nat.le_of_ble_eq_true rfl) ?_
 refine sx_seq fun K1 k1 => sx_region ?_
 refine sa rfl rfl rfl rfl ?_
 refine wl_nil (q_n (k1 _ _ ?_))
 refine sx_seq fun K2 k2 => sx_region ?_
 refine sm rfl rfl rfl rfl ?_
 refine sx_pure rfl rfl rfl (px_len rfl Tryz.underlying22 hva0) ?_
 refine sx_make (c := (dg m).length) rfl xelt22 (rfl) (rfl) (by omega) (by unfold maxLen; omega) (fun s3 ws3 fs3 cs3 ls3 => ?_)
 have ns3 := fs3.made
 have zws3 := cs3.size
 refine sa rfl rfl rfl rfl ?_
 refine wl_nil (q_n (k2 _ _ ?_))
 refine sx_seq fun K4 k4 => sx_region ?_
 refine sa rfl rfl rfl rfl ?_
 refine wl_nil (q_n (k4 _ _ ?_))
 refine sx_seq fun K5 k5 => ?_
 refine sx_seq fun K6 k6 => sx_region ?_
 refine sm rfl rfl rfl rfl ?_
 have f7 := hva0.ext cs3
 refine sx_pure rfl rfl rfl (px_len rfl Tryz.underlying22 f7) ?_
 refine sm rfl rfl rfl rfl ?_
 refine wl_nil (q_n (k6 _ _ ?_))
 refine sx_block ?_
 refine sx_loop (fun mm aa w' => ∃ (k : Nat) (os : List Int) (c : Nat), Agr 44 [(0, va), (1, vb), (5, s3), (6, .int .i64 ((c : Nat) : Int)), (13, .int .i64 (↑(dg m).length)), (14, .int .i64 ↑k)] aa ∧ Chg w.heap.size ws3.heap.size ws3 w' ∧ Own w' w.heap.size ws3.heap.size s3 intT os.length 1 (os.map (Value.int .i64)) ∧ (mm = (dg m).length - k) ∧ (os.length = (dg m).length) ∧ (Lm os) ∧ (c ≤ 1) ∧ (k ≤ (dg m).length) ∧ (vl ((dg m).take k) + Bs ^ k * c = vl (os.take k) + vl ((dg n).take k))) (_) (fun a ha => ⟨0, List.replicate (dg m).length 0, 0, ha.sub (Sub.cons (t := 0) rfl (.cons (t := 1) rfl (.cons (t := 5) rfl (.cons (t := 6) (look_int (t := 6) rfl (by first | omega | simp)) (.cons (t := 13) (look_int (t := 13) rfl (by first | omega | simp)) (.cons (t := 14) (look_int (t := 14) rfl (by first | omega | simp)) (.nil))))))), Chg.refl _ _ _, (ns3.mono (by omega) (by omega)), rfl, by simp, Lm.replicate _, by omega, by omega, by simp [vl]⟩) ?_
 rintro mm aa wl8 ⟨k, os, c, hAwl8, cwl8, hs_s3, hm, hos, hlm, hc, hk, hv⟩
 refine (show cw Tryz.prog 44 _ _ _ wl8 from ?_) aa hAwl8
 clear hAwl8
 have zwl8 := cwl8.size
 have am := (Lm_dg m).getD k
 have bn := (Lm_dg n).getD k
 refine sx_seq fun K9 k9 => sx_region ?_
 refine sx_pure rfl rfl rfl (px_lt rfl rfl) ?_
 refine wl_nil (q_n (k9 _ _ ?_))
 refine sx_seq fun K10 k10 => ?_
 refine sx_condP rfl (fun h122 => ?_) (fun h122 => ?_)
 ·
  refine sx_skip ?_
  refine q_n (k10 _ _ ?_)
  refine sx_seq fun K11 k11 => ?_
  refine sx_block ?_
  refine sx_seq fun K12 k12 => sx_region ?_
  refine sm rfl rfl rfl rfl ?_
  refine sa rfl rfl rfl rfl ?_
  refine wl_nil (q_n (k12 _ _ ?_))
  refine sx_seq fun K13 k13 => sx_region ?_
  refine sm rfl rfl rfl rfl ?_
  refine sm rfl rfl rfl rfl ?_
  have f14 := f7.chg cwl8 (by omega)
  refine sx_pure rfl rfl rfl (px_index1 (j := k) rfl rfl (by omega) Tryz.underlying22 Tryz.sizeOf3 f14 (by omega)) ?_
  refine sx_pure rfl rfl rfl (px_load rfl (f14.load1 (at_int (by omega)) Tryz.isAgg3)) ?_
  refine sm rfl rfl rfl rfl ?_
  refine sx_pure rfl rfl rfl (px_sub rfl rfl (by omega)) ?_
  refine sa rfl rfl rfl rfl ?_
  refine wl_nil (q_n (k13 _ _ ?_))
  refine sx_sub (Sub.cons (t := 0) rfl (.cons (t := 1) rfl (.cons (t := 5) rfl (.cons (t := 6) rfl (.cons (t := 7) rfl (.cons (t := 8) rfl (.cons (t := 13) rfl (.cons (t := 14) rfl (.nil))))))))) ?_
  refine sx_seq fun K15 k15 => ?_
  refine sx_seq fun K16 k16 => sx_region ?_
  refine sm rfl rfl rfl rfl ?_
  refine sm rfl rfl rfl rfl ?_
  have f17 := hvb0.ext cs3
  have f18 := f17.chg cwl8 (by omega)
  refine sx_pure rfl rfl rfl (px_len rfl Tryz.underlying22 f18) ?_
  refine sx_pure rfl rfl rfl (px_lt rfl rfl) ?_
  refine wl_nil (q_n (k16 _ _ ?_))
  refine sx_condP rfl (fun h124 => ?_) (fun h124 => ?_)
  ·
   refine sx_region ?_
   refine sm rfl rfl rfl rfl ?_
   refine sm rfl rfl rfl rfl ?_
   refine sm rfl rfl rfl rfl ?_
   refine sx_pure rfl rfl rfl (px_index1 (j := k) rfl rfl (by omega) Tryz.underlying22 Tryz.sizeOf3 f18 (by omega)) ?_
   refine sx_pure rfl rfl rfl (px_load rfl (f18.load1 (at_int (by omega)) Tryz.isAgg3)) ?_
   refine sx_pure rfl rfl rfl (px_sub rfl rfl (by omega)) ?_
   refine sa rfl rfl rfl rfl ?_
   refine wl_nil (q_n (k15 _ _ ?_))
   refine sx_sub (Sub.cons (t := 0) rfl (.cons (t := 1) rfl (.cons (t := 5) rfl (.cons (t := 6) rfl (.cons (t := 7) rfl (.cons (t := 8) rfl (.cons (t := 13) rfl (.cons (t := 14) rfl (.nil))))))))) ?_
   refine sx_seq fun K19 k19 => sx_region ?_
   refine sa rfl rfl rfl rfl ?_
   refine wl_nil (q_n (k19 _ _ ?_))
   refine sx_seq fun K20 k20 => ?_
   refine sx_seq fun K21 k21 => sx_region ?_
   refine sm rfl rfl rfl rfl ?_
   refine sx_pure rfl rfl rfl (px_lt rfl rfl) ?_
   refine wl_nil (q_n (k21 _ _ ?_))
   refine sx_condP rfl (fun h128 => ?_) (fun h128 => ?_)
   ·
    refine sx_seq fun K22 k22 => sx_region ?_
    refine sm rfl rfl rfl rfl ?_
    refine sx_pure rfl rfl rfl (px_add rfl rfl (by omega)) ?_
    refine sa rfl rfl rfl rfl ?_
    refine wl_nil (q_n (k22 _ _ ?_))
    refine sx_region ?_
    refine sa rfl rfl rfl rfl ?_
    refine wl_nil (q_n (k20 _ _ ?_))
    refine sx_region ?_
    refine sm rfl rfl rfl rfl ?_
    refine sm rfl rfl rfl rfl ?_
    refine sm rfl rfl rfl rfl ?_
    refine sx_pure rfl rfl rfl (px_index1 (j := k) rfl rfl (by omega) Tryz.underlying22 Tryz.sizeOf3 hs_s3.sv (by omega)) ?_
    refine sx_storeO rfl rfl hs_s3 (by first | omega | (simp only [List.length_map]; omega)) Tryz.sizeOf3 rfl (fun w23 sw23 fw23 cw23 => ?_)
    have zw23 := cw23.size
    have nw23 := fw23.set
    refine wl_nil ?_
    refine q_bn (q_n (k11 _ _ ?_))
    refine sx_sub (Sub.cons (t := 0) rfl (.cons (t := 1) rfl (.cons (t := 5) rfl (.cons (t := 6) rfl (.cons (t := 13) rfl (.cons (t := 14) rfl (.nil))))))) ?_
    refine sx_region ?_
    refine sx_pure rfl rfl rfl (px_add rfl rfl (by omega)) ?_
    refine sm rfl rfl rfl rfl ?_
    refine wl_nil ?_
    have q24 := Chg.step (l := w.heap.size) (h := ws3.heap.size) cwl8 cw23 (by omega)
    have hs : ((dg m).getD k 0).toNat + Bs * 1 = ((dg n).getD k 0).toNat + c + ((((((dg m).getD k 0) - ((c : Nat) : Int)) - ((dg n).getD k 0)) + 1000000000) : Int).toNat := by simp only [Bs]; omega
    have hv2 : vl ((dg m).take (k + 1)) + Bs ^ (k + 1) * 1 = vl ((os.set k ((((((dg m).getD k 0) - ((c : Nat) : Int)) - ((dg n).getD k 0)) + 1000000000))).take (k + 1)) + vl ((dg n).take (k + 1)) := by
     rw [vl_take_set (by omega), vl_take_succ', vl_take_succ', Nat.pow_succ]
     exact sub_step hs hv
    exact fun a ha => ⟨_, by omega, (k + 1), ((os).set k (((((dg m).getD k 0) - ((c : Nat) : Int)) - ((dg n).getD k 0)) + 1000000000)), 1, ha.sub (Sub.cons (t := 0) rfl (.cons (t := 1) rfl (.cons (t := 5) rfl (.cons (t := 6) (look_int (t := 6) rfl (by first | omega | simp)) (.cons (t := 13) rfl (.cons (t := 14) (look_int (t := 14) rfl (by first | omega | simp)) (.nil))))))), q24, (nw23.mono (by omega) (by omega)), rfl, by simp [hos], hlm.set k (by omega) (by omega), by omega, by omega, hv2⟩
   ·
    refine sx_skip ?_
    refine q_n (k20 _ _ ?_)
    refine sx_region ?_
    refine sm rfl rfl rfl rfl ?_
    refine sm rfl rfl rfl rfl ?_
    refine sm rfl rfl rfl rfl ?_
    refine sx_pure rfl rfl rfl (px_index1 (j := k) rfl rfl (by omega) Tryz.underlying22 Tryz.sizeOf3 hs_s3.sv (by omega)) ?_
    refine sx_storeO rfl rfl hs_s3 (by first | omega | (simp only [List.length_map]; omega)) Tryz.sizeOf3 rfl (fun w25 sw25 fw25 cw25 => ?_)
    have zw25 := cw25.size
    have nw25 := fw25.set
    refine wl_nil ?_
    refine q_bn (q_n (k11 _ _ ?_))
    refine sx_region ?_
    refine sx_pure rfl rfl rfl (px_add rfl rfl (by omega)) ?_
    refine sm rfl rfl rfl rfl ?_
    refine wl_nil ?_
    have q26 := Chg.step (l := w.heap.size) (h := ws3.heap.size) cwl8 cw25 (by omega)
    have hs : ((dg m).getD k 0).toNat + Bs * 0 = ((dg n).getD k 0).toNat + c + (((((dg m).getD k 0) - ((c : Nat) : Int)) - ((dg n).getD k 0)) : Int).toNat := by simp only [Bs]; omega
    have hv2 : vl ((dg m).take (k + 1)) + Bs ^ (k + 1) * 0 = vl ((os.set k (((((dg m).getD k 0) - ((c : Nat) : Int)) - ((dg n).getD k 0)))).take (k + 1)) + vl ((dg n).take (k + 1)) := by
     rw [vl_take_set (by omega), vl_take_succ', vl_take_succ', Nat.pow_succ]
     exact sub_step hs hv
    exact fun a ha => ⟨_, by omega, (k + 1), ((os).set k ((((dg m).getD k 0) - ((c : Nat) : Int)) - ((dg n).getD k 0))), 0, ha.sub (Sub.cons (t := 0) rfl (.cons (t := 1) rfl (.cons (t := 5) rfl (.cons (t := 6) (look_int (t := 6) rfl (by first | omega | simp)) (.cons (t := 13) rfl (.cons (t := 14) (look_int (t := 14) rfl (by first | omega | simp)) (.nil))))))), q26, (nw25.mono (by omega) (by omega)), rfl, by simp [hos], hlm.set k (by omega) (by omega), by omega, by omega, hv2⟩
  ·
   have gn := getD_ge (zs := dg n) (k := k) (by omega)
   refine sx_skip ?_
   refine q_n (k15 _ _ ?_)
   refine sx_seq fun K27 k27 => sx_region ?_
   refine sa rfl rfl rfl rfl ?_
   refine wl_nil (q_n (k27 _ _ ?_))
   refine sx_seq fun K28 k28 => ?_
   refine sx_seq fun K29 k29 => sx_region ?_
   refine sm rfl rfl rfl rfl ?_
   refine sx_pure rfl rfl rfl (px_lt rfl rfl) ?_
   refine wl_nil (q_n (k29 _ _ ?_))
   refine sx_condP rfl (fun h128 => ?_) (fun h128 => ?_)
   ·
    refine sx_seq fun K30 k30 => sx_region ?_
    refine sm rfl rfl rfl rfl ?_
    refine sx_pure rfl rfl rfl (px_add rfl rfl (by omega)) ?_
    refine sa rfl rfl rfl rfl ?_
    refine wl_nil (q_n (k30 _ _ ?_))
    refine sx_sub (Sub.cons (t := 0) rfl (.cons (t := 1) rfl (.cons (t := 5) rfl (.cons (t := 6) rfl (.cons (t := 7) rfl (.cons (t := 8) rfl (.cons (t := 13) rfl (.cons (t := 14) rfl (.nil))))))))) ?_
    refine sx_region ?_
    refine sa rfl rfl rfl rfl ?_
    refine wl_nil (q_n (k28 _ _ ?_))
    refine sx_region ?_
    refine sm rfl rfl rfl rfl ?_
    refine sm rfl rfl rfl rfl ?_
    refine sm rfl rfl rfl rfl ?_
    refine sx_pure rfl rfl rfl (px_index1 (j := k) rfl rfl (by omega) Tryz.underlying22 Tryz.sizeOf3 hs_s3.sv (by omega)) ?_
    refine sx_storeO rfl rfl hs_s3 (by first | omega | (simp only [List.length_map]; omega)) Tryz.sizeOf3 rfl (fun w31 sw31 fw31 cw31 => ?_)
    have zw31 := cw31.size
    have nw31 := fw31.set
    refine wl_nil ?_
    refine q_bn (q_n (k11 _ _ ?_))
    refine sx_region ?_
    refine sx_pure rfl rfl rfl (px_add rfl rfl (by omega)) ?_
    refine sm rfl rfl rfl rfl ?_
    refine wl_nil ?_
    have q32 := Chg.step (l := w.heap.size) (h := ws3.heap.size) cwl8 cw31 (by omega)
    have hs : ((dg m).getD k 0).toNat + Bs * 1 = ((dg n).getD k 0).toNat + c + (((((dg m).getD k 0) - ((c : Nat) : Int)) + 1000000000) : Int).toNat := by simp only [Bs]; omega
    have hv2 : vl ((dg m).take (k + 1)) + Bs ^ (k + 1) * 1 = vl ((os.set k (((((dg m).getD k 0) - ((c : Nat) : Int)) + 1000000000))).take (k + 1)) + vl ((dg n).take (k + 1)) := by
     rw [vl_take_set (by omega), vl_take_succ', vl_take_succ', Nat.pow_succ]
     exact sub_step hs hv
    exact fun a ha => ⟨_, by omega, (k + 1), ((os).set k ((((dg m).getD k 0) - ((c : Nat) : Int)) + 1000000000)), 1, ha.sub (Sub.cons (t := 0) rfl (.cons (t := 1) rfl (.cons (t := 5) rfl (.cons (t := 6) (look_int (t := 6) rfl (by first | omega | simp)) (.cons (t := 13) rfl (.cons (t := 14) (look_int (t := 14) rfl (by first | omega | simp)) (.nil))))))), q32, (nw31.mono (by omega) (by omega)), rfl, by simp [hos], hlm.set k (by omega) (by omega), by omega, by omega, hv2⟩
   ·
    refine sx_skip ?_
    refine q_n (k28 _ _ ?_)
    refine sx_region ?_
    refine sm rfl rfl rfl rfl ?_
    refine sm rfl rfl rfl rfl ?_
    refine sm rfl rfl rfl rfl ?_
    refine sx_pure rfl rfl rfl (px_index1 (j := k) rfl rfl (by omega) Tryz.underlying22 Tryz.sizeOf3 hs_s3.sv (by omega)) ?_
    refine sx_storeO rfl rfl hs_s3 (by first | omega | (simp only [List.length_map]; omega)) Tryz.sizeOf3 rfl (fun w33 sw33 fw33 cw33 => ?_)
    have zw33 := cw33.size
    have nw33 := fw33.set
    refine wl_nil ?_
    refine q_bn (q_n (k11 _ _ ?_))
    refine sx_sub (Sub.cons (t := 0) rfl (.cons (t := 1) rfl (.cons (t := 5) rfl (.cons (t := 6) rfl (.cons (t := 13) rfl (.cons (t := 14) rfl (.nil))))))) ?_
    refine sx_region ?_
    refine sx_pure rfl rfl rfl (px_add rfl rfl (by omega)) ?_
    refine sm rfl rfl rfl rfl ?_
    refine wl_nil ?_
    have q34 := Chg.step (l := w.heap.size) (h := ws3.heap.size) cwl8 cw33 (by omega)
    have hs : ((dg m).getD k 0).toNat + Bs * 0 = ((dg n).getD k 0).toNat + c + ((((dg m).getD k 0) - ((c : Nat) : Int)) : Int).toNat := by simp only [Bs]; omega
    have hv2 : vl ((dg m).take (k + 1)) + Bs ^ (k + 1) * 0 = vl ((os.set k ((((dg m).getD k 0) - ((c : Nat) : Int)))).take (k + 1)) + vl ((dg n).take (k + 1)) := by
     rw [vl_take_set (by omega), vl_take_succ', vl_take_succ', Nat.pow_succ]
     exact sub_step hs hv
    exact fun a ha => ⟨_, by omega, (k + 1), ((os).set k (((dg m).getD k 0) - ((c : Nat) : Int))), 0, ha.sub (Sub.cons (t := 0) rfl (.cons (t := 1) rfl (.cons (t := 5) rfl (.cons (t := 6) (look_int (t := 6) rfl (by first | omega | simp)) (.cons (t := 13) rfl (.cons (t := 14) (look_int (t := 14) rfl (by first | omega | simp)) (.nil))))))), q34, (nw33.mono (by omega) (by omega)), rfl, by simp [hos], hlm.set k (by omega) (by omega), by omega, by omega, hv2⟩
 ·
  refine sx_exit ?_
  refine q_e (q_e (q_bx (q_n (k5 _ _ ?_))))
  refine sx_seq fun K35 k35 => ?_
  have ek : k = (dg m).length := by omega
  have hnm := len_le hle
  subst ek
  rw [List.take_length, vl_dg, vl_take_ge (show (dg n).length ≤ (dg m).length from hnm), vl_dg, ← hos, List.take_length] at hv
  have hend := sub_end hv hle (vl_lt hlm) hc
  have hvv := hend.2
  have hz := hlm
  refine sx_region ?_
  refine sm rfl rfl rfl rfl ?_
  refine sx_call rfl rfl Tryz.call97 (c_trim hs_s3 (by assumption) (by first | omega | (simp only [List.length_append, List.length_set, List.length_replicate, List.length_cons, List.length_nil] at *; omega))) (fun v36 w36 p36 => ?_)
  obtain ⟨s36, rfl, os_36, c36⟩ := p36
  have zw36 := c36.size
  refine sa rfl rfl rfl rfl ?_
  refine wl_nil (q_n (k35 _ _ ?_))
  refine sx_retc ?_
  refine sx_ret1 Tryz.results105 rfl ?_
  have hr := os_36
  rw [hvv] at hr
  have q37 := Chg.step (l := 0) (h := 0) (Chg.zero (l := 0) (h := 0) cs3) cwl8 (by omega)
  have q38 := Chg.step (l := 0) (h := 0) q37 c36 (by omega)
  exact ⟨_, rfl, hr.mono (by omega) (by omega), q38⟩

theorem c_intAdd {w : World} {va : Value} {lva uva : Nat} {x : Int} {vb : Value} {lvb uvb : Nat} {y : Int} (hva : Sl w lva uva va (dg x.natAbs)) (hvb : Sl w lvb uvb vb (dg y.natAbs)) (hbx : (dg x.natAbs).length ≤ 1000) (hby : (dg y.natAbs).length ≤ 1000) :
  Ret Tryz.prog 81 [.agg #[.bool (ng x), va], .agg #[.bool (ng y), vb]] w fun v w' => ∃ s, v = .agg #[.bool (ng (x + y)), s] ∧ OwnI w' w.heap.size w'.heap.size s intT (dg (x + y).natAbs) ∧ Chg 0 0 w w' := by
 have hva0 := hva.fit
 have hvb0 := hvb.fit
 have l2 := len_add x.natAbs y.natAbs
 have l3 := len_le (Nat.sub_le x.natAbs y.natAbs)
 have l4 := len_le (Nat.sub_le y.natAbs x.natAbs)
 refine sx_enter Tryz.func81 rfl Tryz.ntmps81 (Nat.le_of_ble_eq_true rfl) ?_
 refine sx_seq fun K1 k1 => sx_region ?_
 refine sx_box [.bool (ng x), va] rfl rfl rfl (fun b2 w3 eb2 sb2 fb2 cb2 => ?_)
 have zw3 := cb2.size
 refine sx_box [.bool (ng y), vb] rfl rfl rfl (fun b4 w5 eb4 sb4 fb4 cb4 => ?_)
 have zw5 := cb4.size
 refine sx_alloc [.bool false, (.slice none 0 0)] rfl Tryz.zeroValue28 rfl (fun b6 w7 eb6 sb6 fb6 cb6 => ?_)
 have zw7 := cb6.size
 refine wl_nil (q_n (k1 _ _ ?_))
 refine sx_seq fun K8 k8 => ?_
 refine sx_seq fun K9 k9 => sx_region ?_
 refine sx_pure rfl rfl rfl (px_field rfl xfld28x0) ?_
 have f10 := fb2.ext cb4
 have f11 := f10.ext cb6
 refine sx_pure rfl rfl rfl (px_load rfl (f11.load1 rfl Tryz.isAgg4)) ?_
 refine sx_pure rfl rfl rfl (px_field rfl xfld28x0) ?_
 have f12 := fb4.ext cb6
 refine sx_pure rfl rfl rfl (px_load rfl (f12.load1 rfl Tryz.isAgg4)) ?_
 refine sx_pure rfl rfl rfl (px_eqB Tryz.underlying4 rfl rfl) ?_
 refine wl_nil (q_n (k9 _ _ ?_))
 refine sx_condB rfl (fun h46 => ?_) (fun h46 => ?_)
 ·
  refine sx_seq fun K13 k13 => ?_
  have f14 := hva0.ext cb2
  have f15 := f14.ext cb4
  have f16 := f15.ext cb6
  have f17 := hvb0.ext cb2
  have f18 := f17.ext cb4
  have f19 := f18.ext cb6
  refine dx_region (fun w' => Chg b6 (b6 + 1) w7 w') (by kernel_rfl) (Chg.zero (Chg.drew _)) ?_
  have d20 := Chg.drew w7
  have s20 : Chg b6 (b6 + 1) w7 (World.drew w7) := Chg.zero (Chg.drew _)
  have y20 : (World.drew w7).heap.size = w7.heap.size := rfl
  generalize World.drew w7 = w20 at *
  have zw20 := d20.size
  refine dx_take 0 rfl rfl rfl rfl (by kernel_rfl) (by kernel_rfl) (by kernel_rfl) s20 (fun _ hS => px_field rfl xfld28x0) ?_
  refine dx_take 1 rfl rfl rfl rfl (by kernel_rfl) (by kernel_rfl) (by kernel_rfl) s20 (fun _ hS => px_load rfl ((f11.chg hS (by omega)).load1 rfl Tryz.isAgg4)) ?_
  refine dx_take 2 rfl rfl rfl rfl (by kernel_rfl) (by kernel_rfl) (by kernel_rfl) s20 (fun _ hS => px_field rfl xfld28x1) ?_
  refine dx_take 3 rfl rfl rfl rfl (by kernel_rfl) (by kernel_rfl) (by kernel_rfl) s20 (fun _ hS => px_load rfl ((f11.chg hS (by omega)).load1 rfl Tryz.isAgg22)) ?_
  refine dx_take 4 rfl rfl rfl rfl (by kernel_rfl) (by kernel_rfl) (by kernel_rfl) s20 (fun _ hS => px_field rfl xfld28x1) ?_
  refine dx_take 5 rfl rfl rfl rfl (by kernel_rfl) (by kernel_rfl) (by kernel_rfl) s20 (fun _ hS => px_load rfl ((f12.chg hS (by omega)).load1 rfl Tryz.isAgg22)) ?_
  refine dx_eff 6 rfl (by kernel_rfl) ?_
  have f21 := f16.ext d20
  have f22 := f19.ext d20
  refine sx_call rfl rfl Tryz.call74 (c_natAdd f21 f22 (by omega) (by omega)) (fun v23 w23 p23 => ?_)
  obtain ⟨s23, rfl, os_23, c23⟩ := p23
  have zw23 := c23.size
  have s24 : Chg b6 (b6 + 1) w7 w23 := (Chg.zero (l := b6) (h := (b6 + 1)) (d20.t c23))
  refine wl_nil ?_
  refine dx_next s24 ?_
  refine dx_eff 7 rfl (by kernel_rfl) ?_
  refine sx_call rfl rfl Tryz.call76 (c_signed os_23.sv (by omega)) (fun v25 w25 p25 => ?_)
  obtain ⟨rfl, c25⟩ := p25
  have zw25 := c25.size
  have s26 : Chg b6 (b6 + 1) w7 w25 := (Chg.zero (l := b6) (h := (b6 + 1)) ((d20.t c23).t c25))
  refine wl_nil ?_
  refine dx_next s26 ?_
  refine dx_eff 8 rfl (by kernel_rfl) ?_
  have f28 := fb6.ext d20
  have f29 := f28.ext c23
  have f30 := f29.ext c25
  have f31 := os_23.ext c25
  refine sx_store (vs := [.bool (nz (ng x) (dg (x.natAbs + y.natAbs))), v23]) rfl rfl f30 rfl Tryz.sizeOf28 (Nat.le_of_ble_eq_true rfl) (one_cons rfl (one_cons f31.one one_nil)) (fun w27 sw27 fw27 cw27 => ?_)
  have zw27 := cw27.size
  have gw27 : Blk w27 b6 [.bool (nz (ng x) (dg (x.natAbs + y.natAbs))), v23] 28 := fw27
  have q33 := Chg.step (l := b6) (h := (b6 + 1)) (Chg.zero (l := b6) (h := (b6 + 1)) ((d20.t c23).t c25)) cw27 (by omega)
  have s32 : Chg b6 (b6 + 1) w7 w27 := q33
  refine wl_nil ?_
  refine dx_next s32 ?_
  refine dx_done (by kernel_rfl) ?_
  refine q_n (k13 _ _ ?_)
  refine sx_sub (Sub.cons (t := 2) rfl (.cons (t := 3) rfl (.cons (t := 4) rfl (.nil)))) ?_
  refine sx_retc ?_
  refine q_r (sx_ret1 Tryz.results81 ⟨_, rfl, gw27.loadA (vs := [.bool (nz (ng x) (dg (x.natAbs + y.natAbs))), v23]) (look_lit rfl) Tryz.isAgg28 Tryz.sizeOf28⟩ ?_)
  have hh := add_sg h46
  rw [← hh.1, ← hh.2]
  have f34 := f31.chg cw27 (by omega)
  have q35 := Chg.step (l := 0) (h := 0) (Chg.zero (l := 0) (h := 0) (((((cb2.t cb4).t cb6).t d20).t c23).t c25)) cw27 (by omega)
  exact ⟨_, rfl, (Own.mono f34 (by omega) (by omega)), q35⟩
 ·
  refine sx_skip ?_
  refine q_n (k8 _ _ ?_)
  refine sx_seq fun K36 k36 => ?_
  refine sx_seq fun K37 k37 => sx_region ?_
  refine sx_pure rfl rfl rfl (px_field rfl xfld28x1) ?_
  refine sx_pure rfl rfl rfl (px_load rfl (f11.load1 rfl Tryz.isAgg22)) ?_
  refine sx_pure rfl rfl rfl (px_field rfl xfld28x1) ?_
  refine sx_pure rfl rfl rfl (px_load rfl (f12.load1 rfl Tryz.isAgg22)) ?_
  have f38 := hva0.ext cb2
  have f39 := f38.ext cb4
  have f40 := f39.ext cb6
  have f41 := hvb0.ext cb2
  have f42 := f41.ext cb4
  have f43 := f42.ext cb6
  refine sx_call rfl rfl Tryz.call73 (c_natCmp f40 f43 (by omega)) (fun v44 w44 p44 => ?_)
  obtain ⟨rfl, c44⟩ := p44
  have zw44 := c44.size
  refine sx_pure rfl rfl rfl (px_lt rfl rfl) ?_
  refine wl_nil (q_n (k37 _ _ ?_))
  refine sx_sub (Sub.cons (t := 2) rfl (.cons (t := 3) rfl (.cons (t := 4) rfl (.cons (t := 23) rfl (.nil))))) ?_
  refine sx_condP rfl (fun h49 => ?_) (fun h49 => ?_)
  ·
   rw [cmpL_dg] at h49
   have hlt := cmpN_neg.1 h49
   refine sx_region ?_
   have f45 := f12.ext c44
   refine sx_pure rfl rfl rfl (px_load rfl (f45.loadA (vs := [.bool (ng y), vb]) (look_lit rfl) Tryz.isAgg28 Tryz.sizeOf28)) ?_
   have f46 := f11.ext c44
   refine sx_pure rfl rfl rfl (px_load rfl (f46.loadA (vs := [.bool (ng x), va]) (look_lit rfl) Tryz.isAgg28 Tryz.sizeOf28)) ?_
   have f48 := f43.ext c44
   refine sx_store (vs := [.bool (ng y), vb]) rfl rfl f46 rfl Tryz.sizeOf28 (Nat.le_of_ble_eq_true rfl) (one_cons rfl (one_cons f48.one one_nil)) (fun w47 sw47 fw47 cw47 => ?_)
   have zw47 := cw47.size
   have gw47 : Blk w47 b2 [.bool (ng y), vb] 28 := fw47
   have f50 := f45.chg cw47 (by omega)
   have f51 := f40.ext c44
   have f52 := f51.chg cw47 (by omega)
   refine sx_store (vs := [.bool (ng x), va]) rfl rfl f50 rfl Tryz.sizeOf28 (Nat.le_of_ble_eq_true rfl) (one_cons rfl (one_cons f52.one one_nil)) (fun w49 sw49 fw49 cw49 => ?_)
   have zw49 := cw49.size
   have gw49 : Blk w49 b4 [.bool (ng x), va] 28 := fw49
   refine wl_nil (q_n (k36 _ _ ?_))
   refine sx_seq fun K53 k53 => ?_
   have f54 := gw47.chg cw49 (by omega)
   have f55 := f52.chg cw49 (by omega)
   have f56 := f48.chg cw47 (by omega)
   have f57 := f56.chg cw49 (by omega)
   refine dx_region (fun w' => Chg b6 (b6 + 1) w49 w') (by kernel_rfl) (Chg.zero (Chg.drew _)) ?_
   have d58 := Chg.drew w49
   have s58 : Chg b6 (b6 + 1) w49 (World.drew w49) := Chg.zero (Chg.drew _)
   have y58 : (World.drew w49).heap.size = w49.heap.size := rfl
   generalize World.drew w49 = w58 at *
   have zw58 := d58.size
   refine dx_take 0 rfl rfl rfl rfl (by kernel_rfl) (by kernel_rfl) (by kernel_rfl) s58 (fun _ hS => px_field rfl xfld28x0) ?_
   refine dx_take 1 rfl rfl rfl rfl (by kernel_rfl) (by kernel_rfl) (by kernel_rfl) s58 (fun _ hS => px_load rfl ((f54.chg hS (by omega)).load1 rfl Tryz.isAgg4)) ?_
   refine dx_take 2 rfl rfl rfl rfl (by kernel_rfl) (by kernel_rfl) (by kernel_rfl) s58 (fun _ hS => px_field rfl xfld28x1) ?_
   refine dx_take 3 rfl rfl rfl rfl (by kernel_rfl) (by kernel_rfl) (by kernel_rfl) s58 (fun _ hS => px_load rfl ((f54.chg hS (by omega)).load1 rfl Tryz.isAgg22)) ?_
   refine dx_take 4 rfl rfl rfl rfl (by kernel_rfl) (by kernel_rfl) (by kernel_rfl) s58 (fun _ hS => px_field rfl xfld28x1) ?_
   refine dx_take 5 rfl rfl rfl rfl (by kernel_rfl) (by kernel_rfl) (by kernel_rfl) s58 (fun _ hS => px_load rfl ((gw49.chg hS (by omega)).load1 rfl Tryz.isAgg22)) ?_
   refine dx_eff 6 rfl (by kernel_rfl) ?_
   have f59 := f57.ext d58
   have f60 := f55.ext d58
   refine sx_call rfl rfl Tryz.call105 (c_natSub f59 f60 (by omega) (by omega) (by omega)) (fun v61 w61 p61 => ?_)
   obtain ⟨s61, rfl, os_61, c61⟩ := p61
   have zw61 := c61.size
   have s62 : Chg b6 (b6 + 1) w49 w61 := (Chg.zero (l := b6) (h := (b6 + 1)) (d58.t c61))
   refine wl_nil ?_
   refine dx_next s62 ?_
   refine dx_eff 7 rfl (by kernel_rfl) ?_
   refine sx_call rfl rfl Tryz.call76 (c_signed os_61.sv (by omega)) (fun v63 w63 p63 => ?_)
   obtain ⟨rfl, c63⟩ := p63
   have zw63 := c63.size
   have s64 : Chg b6 (b6 + 1) w49 w63 := (Chg.zero (l := b6) (h := (b6 + 1)) ((d58.t c61).t c63))
   refine wl_nil ?_
   refine dx_next s64 ?_
   refine dx_eff 8 rfl (by kernel_rfl) ?_
   have f66 := fb6.ext c44
   have f67 := f66.chg cw47 (by omega)
   have f68 := f67.chg cw49 (by omega)
   have f69 := f68.ext d58
   have f70 := f69.ext c61
   have f71 := f70.ext c63
   have f72 := os_61.ext c63
   refine sx_store (vs := [.bool (nz (ng y) (dg (y.natAbs - x.natAbs))), v61]) rfl rfl f71 rfl Tryz.sizeOf28 (Nat.le_of_ble_eq_true rfl) (one_cons rfl (one_cons f72.one one_nil)) (fun w65 sw65 fw65 cw65 => ?_)
   have zw65 := cw65.size
   have gw65 : Blk w65 b6 [.bool (nz (ng y) (dg (y.natAbs - x.natAbs))), v61] 28 := fw65
   have q74 := Chg.step (l := b6) (h := (b6 + 1)) (Chg.zero (l := b6) (h := (b6 + 1)) ((d58.t c61).t c63)) cw65 (by omega)
   have s73 : Chg b6 (b6 + 1) w49 w65 := q74
   refine wl_nil ?_
   refine dx_next s73 ?_
   refine dx_done (by kernel_rfl) ?_
   refine q_n (k53 _ _ ?_)
   refine sx_retc ?_
   refine sx_ret1 Tryz.results81 ⟨_, rfl, gw65.loadA (vs := [.bool (nz (ng y) (dg (y.natAbs - x.natAbs))), v61]) (look_lit rfl) Tryz.isAgg28 Tryz.sizeOf28⟩ ?_
   have hh := (sub_sg2 h46 (by omega))
   rw [← hh.1, ← hh.2]
   have f75 := f72.chg cw65 (by omega)
   have q76 := Chg.step (l := 0) (h := 0) (Chg.zero (l := 0) (h := 0) (((cb2.t cb4).t cb6).t c44)) cw47 (by omega)
   have q77 := Chg.step (l := 0) (h := 0) q76 cw49 (by omega)
   have q78 := Chg.step (l := 0) (h := 0) q77 ((d58.t c61).t c63) (by omega)
   have q79 := Chg.step (l := 0) (h := 0) q78 cw65 (by omega)
   exact ⟨_, rfl, (Own.mono f75 (by omega) (by omega)), q79⟩
  ·
   rw [cmpL_dg] at h49
   have hge := cmpN_nonneg.1 (Int.not_lt.1 h49)
   refine sx_skip ?_
   refine q_n (k36 _ _ ?_)
   refine sx_seq fun K80 k80 => ?_
   have f81 := f11.ext c44
   have f82 := f12.ext c44
   have f83 := f40.ext c44
   have f84 := f43.ext c44
   refine dx_region (fun w' => Chg b6 (b6 + 1) w44 w') (by kernel_rfl) (Chg.zero (Chg.drew _)) ?_
   have d85 := Chg.drew w44
   have s85 : Chg b6 (b6 + 1) w44 (World.drew w44) := Chg.zero (Chg.drew _)
   have y85 : (World.drew w44).heap.size = w44.heap.size := rfl
   generalize World.drew w44 = w85 at *
   have zw85 := d85.size
   refine dx_take 0 rfl rfl rfl rfl (by kernel_rfl) (by kernel_rfl) (by kernel_rfl) s85 (fun _ hS => px_field rfl xfld28x0) ?_
   refine dx_take 1 rfl rfl rfl rfl (by kernel_rfl) (by kernel_rfl) (by kernel_rfl) s85 (fun _ hS => px_load rfl ((f81.chg hS (by omega)).load1 rfl Tryz.isAgg4)) ?_
   refine dx_take 2 rfl rfl rfl rfl (by kernel_rfl) (by kernel_rfl) (by kernel_rfl) s85 (fun _ hS => px_field rfl xfld28x1) ?_
   refine dx_take 3 rfl rfl rfl rfl (by kernel_rfl) (by kernel_rfl) (by kernel_rfl) s85 (fun _ hS => px_load rfl ((f81.chg hS (by omega)).load1 rfl Tryz.isAgg22)) ?_
   refine dx_take 4 rfl rfl rfl rfl (by kernel_rfl) (by kernel_rfl) (by kernel_rfl) s85 (fun _ hS => px_field rfl xfld28x1) ?_
   refine dx_take 5 rfl rfl rfl rfl (by kernel_rfl) (by kernel_rfl) (by kernel_rfl) s85 (fun _ hS => px_load rfl ((f82.chg hS (by omega)).load1 rfl Tryz.isAgg22)) ?_
   refine dx_eff 6 rfl (by kernel_rfl) ?_
   have f86 := f83.ext d85
   have f87 := f84.ext d85
   refine sx_call rfl rfl Tryz.call105 (c_natSub f86 f87 (by omega) (by omega) (by omega)) (fun v88 w88 p88 => ?_)
   obtain ⟨s88, rfl, os_88, c88⟩ := p88
   have zw88 := c88.size
   have s89 : Chg b6 (b6 + 1) w44 w88 := (Chg.zero (l := b6) (h := (b6 + 1)) (d85.t c88))
   refine wl_nil ?_
   refine dx_next s89 ?_
   refine dx_eff 7 rfl (by kernel_rfl) ?_
   refine sx_call rfl rfl Tryz.call76 (c_signed os_88.sv (by omega)) (fun v90 w90 p90 => ?_)
   obtain ⟨rfl, c90⟩ := p90
   have zw90 := c90.size
   have s91 : Chg b6 (b6 + 1) w44 w90 := (Chg.zero (l := b6) (h := (b6 + 1)) ((d85.t c88).t c90))
   refine wl_nil ?_
   refine dx_next s91 ?_
   refine dx_eff 8 rfl (by kernel_rfl) ?_
   have f93 := fb6.ext c44
   have f94 := f93.ext d85
   have f95 := f94.ext c88
   have f96 := f95.ext c90
   have f97 := os_88.ext c90
   refine sx_store (vs := [.bool (nz (ng x) (dg (x.natAbs - y.natAbs))), v88]) rfl rfl f96 rfl Tryz.sizeOf28 (Nat.le_of_ble_eq_true rfl) (one_cons rfl (one_cons f97.one one_nil)) (fun w92 sw92 fw92 cw92 => ?_)
   have zw92 := cw92.size
   have gw92 : Blk w92 b6 [.bool (nz (ng x) (dg (x.natAbs - y.natAbs))), v88] 28 := fw92
   have q99 := Chg.step (l := b6) (h := (b6 + 1)) (Chg.zero (l := b6) (h := (b6 + 1)) ((d85.t c88).t c90)) cw92 (by omega)
   have s98 : Chg b6 (b6 + 1) w44 w92 := q99
   refine wl_nil ?_
   refine dx_next s98 ?_
   refine dx_done (by kernel_rfl) ?_
   refine q_n (k80 _ _ ?_)
   refine sx_retc ?_
   refine sx_ret1 Tryz.results81 ⟨_, rfl, gw92.loadA (vs := [.bool (nz (ng x) (dg (x.natAbs - y.natAbs))), v88]) (look_lit rfl) Tryz.isAgg28 Tryz.sizeOf28⟩ ?_
   have hh := sub_sg h46 hge
   rw [← hh.1, ← hh.2]
   have f100 := f97.chg cw92 (by omega)
   have q101 := Chg.step (l := 0) (h := 0) (Chg.zero (l := 0) (h := 0) ((((((cb2.t cb4).t cb6).t c44).t d85).t c88).t c90)) cw92 (by omega)
   exact ⟨_, rfl, (Own.mono f100 (by omega) (by omega)), q101⟩

theorem c_iRatAdd {w : World} {n1 : Bool} {v1 : Value} {lv1 uv1 : Nat} {z1 : List Int} {d1 : Value} {ld1 ud1 : Nat} {y1 : List Int} {n2 : Bool} {v2 : Value} {lv2 uv2 : Nat} {z2 : List Int} {d2 : Value} {ld2 ud2 : Nat} {y2 : List Int} (hv1 : Sl w lv1 uv1 v1 (z1)) (hd1 : Sl w ld1 ud1 d1 (y1)) (hv2 : Sl w lv2 uv2 v2 (z2)) (hd2 : Sl w ld2 ud2 d2 (y2)) (h63 : z1.length ≤ 4611686018427387904 ∧ y1.length ≤ 4611686018427387904 ∧ z2.length ≤ 4611686018427387904 ∧ y2.length ≤ 4611686018427387904) :
  Ret Tryz.prog 51 [.agg #[.bool n1, v1, d1], .agg #[.bool n2, v2, d2]] w fun v w' => ∃ s t ls us lt ut, v = .tuple #[.agg #[.bool ((rAdd n1 z1 y1 n2 z2 y2).1), s, t], .bool ((rAdd n1 z1 y1 n2 z2 y2).2.2.2)] ∧ OwnI w' (ls) (us) s intT ((rAdd n1 z1 y1 n2 z2 y2).2.1) ∧ OwnI w' (lt) (ut) t intT ((rAdd n1 z1 y1 n2 z2 y2).2.2.1) ∧ (w.heap.size ≤ ls ∧ us ≤ w'.heap.size ∧ w.heap.size ≤ lt ∧ ut ≤ w'.heap.size ∧ (us ≤ lt ∨ ut ≤ ls)) ∧ ((rAdd n1 z1 y1 n2 z2 y2).2.1.length ≤ 18 ∧ (rAdd n1 z1 y1 n2 z2 y2).2.2.1.length ≤ 18) ∧ Chg 0 0 w w' := by
 have hv10 := hv1.fit
 have hd10 := hd1.fit
 have hv20 := hv2.fit
 have hd20 := hd2.fit
 refine sx_enter Tryz.func51 rfl Tryz.ntmps51 (Nat.le_of_ble_eq_true rfl) ?_
 refine sx_seq fun K1 k1 => sx_region ?_
 refine sx_box [.bool n1, v1, d1] rfl rfl rfl (fun b2 w3 eb2 sb2 fb2 cb2 => ?_)
 have zw3 := cb2.size
 refine sx_box [.bool n2, v2, d2] rfl rfl rfl (fun b4 w5 eb4 sb4 fb4 cb4 => ?_)
 have zw5 := cb4.size
 refine sx_alloc [.bool false, (.slice none 0 0), (.slice none 0 0)] rfl Tryz.zeroValue32 rfl (fun b6 w7 eb6 sb6 fb6 cb6 => ?_)
 have zw7 := cb6.size
 refine sa rfl rfl rfl rfl ?_
 refine wl_nil (q_n (k1 _ _ ?_))
 refine sx_seq fun K8 k8 => ?_
 refine sx_seq fun K9 k9 => sx_region ?_
 have f10 := fb2.ext cb4
 have f11 := f10.ext cb6
 refine sx_pure rfl rfl rfl (px_load rfl (f11.loadA (vs := [.bool n1, v1, d1]) (look_lit rfl) Tryz.isAgg32 Tryz.sizeOf32)) ?_
 have f12 := fb4.ext cb6
 refine sx_pure rfl rfl rfl (px_load rfl (f12.loadA (vs := [.bool n2, v2, d2]) (look_lit rfl) Tryz.isAgg32 Tryz.sizeOf32)) ?_
 have f13 := hv10.ext cb2
 have f14 := f13.ext cb4
 have f15 := f14.ext cb6
 have f16 := hd10.ext cb2
 have f17 := f16.ext cb4
 have f18 := f17.ext cb6
 have f19 := hv20.ext cb2
 have f20 := f19.ext cb4
 have f21 := f20.ext cb6
 have f22 := hd20.ext cb2
 have f23 := f22.ext cb4
 have f24 := f23.ext cb6
 refine sx_call rfl rfl Tryz.call50 (c_ratsOk f15 f18 f21 f24 (by omega)) (fun v25 w25 p25 => ?_)
 obtain ⟨rfl, c25⟩ := p25
 have zw25 := c25.size
 refine sx_pure rfl rfl rfl (px_notP rfl) ?_
 refine wl_nil (q_n (k9 _ _ ?_))
 refine sx_condP rfl (fun h54 => ?_) (fun h54 => ?_)
 ·
  refine sx_seq fun K26 k26 => sx_region ?_
  refine sx_pure rfl rfl rfl (px_build rfl (xbld32x  _)) ?_
  have f28 := fb6.ext c25
  refine sx_store (vs := [.bool false, (.slice none 0 0), (.slice none 0 0)]) rfl rfl f28 rfl Tryz.sizeOf32 (Nat.le_of_ble_eq_true rfl) (one_cons rfl (one_cons rfl (one_cons rfl one_nil))) (fun w27 sw27 fw27 cw27 => ?_)
  have zw27 := cw27.size
  have gw27 : Blk w27 b6 [.bool false, (.slice none 0 0), (.slice none 0 0)] 32 := fw27
  refine sa rfl rfl rfl rfl ?_
  refine wl_nil (q_n (k26 _ _ ?_))
  refine sx_retc ?_
  refine q_r (sx_ret2 Tryz.results51 ⟨_, rfl, gw27.loadA (vs := [.bool false, (.slice none 0 0), (.slice none 0 0)]) (look_lit rfl) Tryz.isAgg32 Tryz.sizeOf32⟩ rfl ?_)
  rw [rAdd_no h54]
  have q29 := Chg.step (l := 0) (h := 0) (Chg.zero (l := 0) (h := 0) (((cb2.t cb4).t cb6).t c25)) cw27 (by omega)
  exact ⟨_, _, w.heap.size, w.heap.size, w.heap.size, w.heap.size, rfl, Own.nil _ _ _ _ _, Own.nil _ _ _ _ _, by omega, ⟨by simp [noR], by simp [noR]⟩, q29⟩
 ·
  have hR1 := (Decidable.not_not.1 h54).1
  have hR2 := (Decidable.not_not.1 h54).2
  obtain ⟨x1, e1, rfl, rfl, rfl, hp1, hx1, hy1, hg1⟩ := hR1.rat
  obtain ⟨x2, e2, rfl, rfl, rfl, hp2, hx2, hy2, hg2⟩ := hR2.rat
  have l1 := len_mul x1.natAbs e2
  have l2 := len_mul x2.natAbs e1
  have l3 := len_mul e1 e2
  have a1 : (x1 * (e2 : Int)).natAbs = x1.natAbs * e2 := by rw [Int.natAbs_mul, Int.natAbs_natCast]
  have a2 : (x2 * (e1 : Int)).natAbs = x2.natAbs * e1 := by rw [Int.natAbs_mul, Int.natAbs_natCast]
  have l4 := len_addI (x1 * (e2 : Int)) (x2 * (e1 : Int))
  rw [a1, a2] at l4
  have l5 := len_mul e1 x2.natAbs
  have l6 := len_mul x1.natAbs x2.natAbs
  refine sx_skip ?_
  refine q_n (k8 _ _ ?_)
  refine sx_seq fun K30 k30 => ?_
  have f31 := f11.ext c25
  have f32 := f12.ext c25
  have f33 := fb6.ext c25
  have f34 := f15.ext c25
  have f35 := f18.ext c25
  have f36 := f21.ext c25
  have f37 := f24.ext c25
  refine dx_region (fun w' => Chg 0 0 w25 w') (by kernel_rfl) (Chg.zero (Chg.drew _)) ?_
  have d38 := Chg.drew w25
  have s38 : Chg 0 0 w25 (World.drew w25) := Chg.zero (Chg.drew _)
  have y38 : (World.drew w25).heap.size = w25.heap.size := rfl
  generalize World.drew w25 = w38 at *
  have zw38 := d38.size
  refine dx_take 0 rfl rfl rfl rfl (by kernel_rfl) (by kernel_rfl) (by kernel_rfl) s38 (fun _ hS => px_load rfl ((f31.chg hS (by omega)).loadA (vs := [.bool (ng x1), v1, d1]) (look_lit rfl) Tryz.isAgg32 Tryz.sizeOf32)) ?_
  refine dx_take 1 rfl rfl rfl rfl (by kernel_rfl) (by kernel_rfl) (by kernel_rfl) s38 (fun _ hS => px_makeFunc rfl rfl) ?_
  refine dx_take 2 rfl rfl rfl rfl (by kernel_rfl) (by kernel_rfl) (by kernel_rfl) s38 (fun _ hS => px_load rfl ((f32.chg hS (by omega)).loadA (vs := [.bool (ng x2), v2, d2]) (look_lit rfl) Tryz.isAgg32 Tryz.sizeOf32)) ?_
  refine dx_take 3 rfl rfl rfl rfl (by kernel_rfl) (by kernel_rfl) (by kernel_rfl) s38 (fun _ hS => px_makeFunc rfl rfl) ?_
  refine dx_take 4 rfl rfl rfl rfl (by kernel_rfl) (by kernel_rfl) (by kernel_rfl) s38 (fun _ hS => px_assign rfl) ?_
  refine dx_take 5 rfl rfl rfl rfl (by kernel_rfl) (by kernel_rfl) (by kernel_rfl) s38 (fun _ hS => px_assign rfl) ?_
  refine dx_done (by kernel_rfl) ?_
  refine q_n (k30 _ _ ?_)
  refine sx_sub (Sub.cons (t := 2) rfl (.cons (t := 3) rfl (.cons (t := 4) rfl (.cons (t := 5) rfl (.cons (t := 6) rfl (.cons (t := 7) rfl (.nil))))))) ?_
  refine sx_seq fun K39 k39 => ?_
  have f40 := f31.ext d38
  have f41 := f32.ext d38
  have f42 := f34.ext d38
  have f43 := f35.ext d38
  have f44 := f36.ext d38
  have f45 := f37.ext d38
  refine dx_region (fun w' => Chg b6 (b6 + 1) w38 w') (by kernel_rfl) (Chg.zero (Chg.drew _)) ?_
  have d46 := Chg.drew w38
  have s46 : Chg b6 (b6 + 1) w38 (World.drew w38) := Chg.zero (Chg.drew _)
  have y46 : (World.drew w38).heap.size = w38.heap.size := rfl
  generalize World.drew w38 = w46 at *
  have zw46 := d46.size
  refine dx_take 0 rfl rfl rfl rfl (by kernel_rfl) (by kernel_rfl) (by kernel_rfl) s46 (fun _ hS => px_move rfl) ?_
  refine dx_take 1 rfl rfl rfl rfl (by kernel_rfl) (by kernel_rfl) (by kernel_rfl) s46 (fun _ hS => px_field rfl xfld32x1) ?_
  refine dx_take 2 rfl rfl rfl rfl (by kernel_rfl) (by kernel_rfl) (by kernel_rfl) s46 (fun _ hS => px_load rfl ((f41.chg hS (by omega)).load1 rfl Tryz.isAgg22)) ?_
  refine dx_take 4 rfl rfl rfl rfl (by kernel_rfl) (by kernel_rfl) (by kernel_rfl) s46 (fun _ hS => px_move rfl) ?_
  refine dx_take 5 rfl rfl rfl rfl (by kernel_rfl) (by kernel_rfl) (by kernel_rfl) s46 (fun _ hS => px_field rfl xfld32x1) ?_
  refine dx_take 6 rfl rfl rfl rfl (by kernel_rfl) (by kernel_rfl) (by kernel_rfl) s46 (fun _ hS => px_load rfl ((f40.chg hS (by omega)).load1 rfl Tryz.isAgg22)) ?_
  refine dx_take 9 rfl rfl rfl rfl (by kernel_rfl) (by kernel_rfl) (by kernel_rfl) s46 (fun _ hS => px_field rfl xfld32x1) ?_
  refine dx_take 10 rfl rfl rfl rfl (by kernel_rfl) (by kernel_rfl) (by kernel_rfl) s46 (fun _ hS => px_load rfl ((f40.chg hS (by omega)).load1 rfl Tryz.isAgg22)) ?_
  refine dx_take 11 rfl rfl rfl rfl (by kernel_rfl) (by kernel_rfl) (by kernel_rfl) s46 (fun _ hS => px_field rfl xfld32x1) ?_
  refine dx_take 12 rfl rfl rfl rfl (by kernel_rfl) (by kernel_rfl) (by kernel_rfl) s46 (fun _ hS => px_load rfl ((f41.chg hS (by omega)).load1 rfl Tryz.isAgg22)) ?_
  refine dx_eff 3 rfl (by kernel_rfl) ?_
  have f47 := f42.ext d46
  have f48 := f43.ext d46
  have f49 := f45.ext d46
  refine sx_callV rfl rfl rfl Tryz.call80 (c_ratNum f47 f48 f49 (by omega) (by omega)) (fun v50 w50 p50 => ?_)
  obtain ⟨s50, rfl, os_50, c50⟩ := p50
  have zw50 := c50.size
  have s51 : Chg b6 (b6 + 1) w38 w50 := (Chg.zero (l := b6) (h := (b6 + 1)) (d46.t c50))
  refine wl_nil ?_
  refine dx_next s51 ?_
  refine dx_eff 7 rfl (by kernel_rfl) ?_
  have f52 := f44.ext d46
  have f53 := f52.ext c50
  have f54 := f49.ext c50
  have f55 := f48.ext c50
  refine sx_callV rfl rfl rfl Tryz.call80 (c_ratNum f53 f54 f55 (by omega) (by omega)) (fun v56 w56 p56 => ?_)
  obtain ⟨s56, rfl, os_56, c56⟩ := p56
  have zw56 := c56.size
  have s57 : Chg b6 (b6 + 1) w38 w56 := (Chg.zero (l := b6) (h := (b6 + 1)) ((d46.t c50).t c56))
  refine wl_nil ?_
  refine dx_next s57 ?_
  refine dx_eff 8 rfl (by kernel_rfl) ?_
  have f58 := os_50.ext c56
  refine sx_call rfl rfl Tryz.call81 (c_intAdd f58.sv os_56.sv (by rw [a1]; omega) (by rw [a2]; omega)) (fun v59 w59 p59 => ?_)
  obtain ⟨s59, rfl, os_59, c59⟩ := p59
  have zw59 := c59.size
  have s60 : Chg b6 (b6 + 1) w38 w59 := (Chg.zero (l := b6) (h := (b6 + 1)) (((d46.t c50).t c56).t c59))
  refine wl_nil ?_
  refine dx_next s60 ?_
  refine dx_eff 13 rfl (by kernel_rfl) ?_
  have f61 := f55.ext c56
  have f62 := f61.ext c59
  have f63 := f54.ext c56
  have f64 := f63.ext c59
  refine sx_call rfl rfl Tryz.call82 (c_natMul f62 f64 (by omega) (by omega)) (fun v65 w65 p65 => ?_)
  obtain ⟨s65, rfl, os_65, c65⟩ := p65
  have zw65 := c65.size
  have s66 : Chg b6 (b6 + 1) w38 w65 := (Chg.zero (l := b6) (h := (b6 + 1)) ((((d46.t c50).t c56).t c59).t c65))
  refine wl_nil ?_
  refine dx_next s66 ?_
  refine dx_eff 14 rfl (by kernel_rfl) ?_
  have f67 := os_59.ext c65
  refine sx_call rfl rfl Tryz.call78 (c_reduce f67.sv os_65.sv (by omega) (by omega) (Nat.mul_pos hp1 hp2)) (fun v68 w68 p68 => ?_)
  obtain ⟨s68, t68, ls68, us68, lt68, ut68, rfl, os_68, ot_68, hd68, hl68, c68⟩ := p68
  have zw68 := c68.size
  have s69 : Chg b6 (b6 + 1) w38 w68 := (Chg.zero (l := b6) (h := (b6 + 1)) (((((d46.t c50).t c56).t c59).t c65).t c68))
  refine wl_nil ?_
  refine dx_next s69 ?_
  refine dx_take 15 rfl rfl rfl rfl (by kernel_rfl) (by kernel_rfl) (by kernel_rfl) s69 (fun _ hS => px_extract (vs := [.agg #[.bool ((rR (sgI (ng ((x1 * ((e2 : Nat) : Int)) + (x2 * ((e1 : Nat) : Int)))) (((x1 * ((e2 : Nat) : Int)) + (x2 * ((e1 : Nat) : Int))).natAbs)) (e1 * e2)).1), s68, t68], .bool ((rR (sgI (ng ((x1 * ((e2 : Nat) : Int)) + (x2 * ((e1 : Nat) : Int)))) (((x1 * ((e2 : Nat) : Int)) + (x2 * ((e1 : Nat) : Int))).natAbs)) (e1 * e2)).2.2.2)]) rfl rfl) ?_
  refine dx_take 16 rfl rfl rfl rfl (by kernel_rfl) (by kernel_rfl) (by kernel_rfl) s69 (fun _ hS => px_extract (vs := [.agg #[.bool ((rR (sgI (ng ((x1 * ((e2 : Nat) : Int)) + (x2 * ((e1 : Nat) : Int)))) (((x1 * ((e2 : Nat) : Int)) + (x2 * ((e1 : Nat) : Int))).natAbs)) (e1 * e2)).1), s68, t68], .bool ((rR (sgI (ng ((x1 * ((e2 : Nat) : Int)) + (x2 * ((e1 : Nat) : Int)))) (((x1 * ((e2 : Nat) : Int)) + (x2 * ((e1 : Nat) : Int))).natAbs)) (e1 * e2)).2.2.2)]) rfl rfl) ?_
  refine dx_eff 17 rfl (by kernel_rfl) ?_
  have f71 := f33.ext d38
  have f72 := f71.ext d46
  have f73 := f72.ext c50
  have f74 := f73.ext c56
  have f75 := f74.ext c59
  have f76 := f75.ext c65
  have f77 := f76.ext c68
  refine sx_store (vs := [.bool ((rR (sgI (ng ((x1 * ((e2 : Nat) : Int)) + (x2 * ((e1 : Nat) : Int)))) (((x1 * ((e2 : Nat) : Int)) + (x2 * ((e1 : Nat) : Int))).natAbs)) (e1 * e2)).1), s68, t68]) rfl rfl f77 rfl Tryz.sizeOf32 (Nat.le_of_ble_eq_true rfl) (one_cons rfl (one_cons os_68.one (one_cons ot_68.one one_nil))) (fun w70 sw70 fw70 cw70 => ?_)
  have zw70 := cw70.size
  have gw70 : Blk w70 b6 [.bool ((rR (sgI (ng ((x1 * ((e2 : Nat) : Int)) + (x2 * ((e1 : Nat) : Int)))) (((x1 * ((e2 : Nat) : Int)) + (x2 * ((e1 : Nat) : Int))).natAbs)) (e1 * e2)).1), s68, t68] 32 := fw70
  have q79 := Chg.step (l := b6) (h := (b6 + 1)) (Chg.zero (l := b6) (h := (b6 + 1)) (((((d46.t c50).t c56).t c59).t c65).t c68)) cw70 (by omega)
  have s78 : Chg b6 (b6 + 1) w38 w70 := q79
  refine wl_nil ?_
  refine dx_next s78 ?_
  refine dx_take 18 rfl rfl rfl rfl (by kernel_rfl) (by kernel_rfl) (by kernel_rfl) s78 (fun _ hS => px_assign rfl) ?_
  refine dx_done (by kernel_rfl) ?_
  refine q_n (k39 _ _ ?_)
  refine sx_sub (Sub.cons (t := 4) rfl (.cons (t := 5) rfl (.nil))) ?_
  refine sx_retc ?_
  refine sx_ret2 Tryz.results51 ⟨_, rfl, gw70.loadA (vs := [.bool ((rR (sgI (ng ((x1 * ((e2 : Nat) : Int)) + (x2 * ((e1 : Nat) : Int)))) (((x1 * ((e2 : Nat) : Int)) + (x2 * ((e1 : Nat) : Int))).natAbs)) (e1 * e2)).1), s68, t68]) (look_lit rfl) Tryz.isAgg32 Tryz.sizeOf32⟩ rfl ?_
  have hrl := rAdd_len (n1 := ng x1) (z1 := dg x1.natAbs) (y1 := dg e1) (n2 := ng x2) (z2 := dg x2.natAbs) (y2 := dg e2)
  have hre : rAdd (ng x1) (dg x1.natAbs) (dg e1) (ng x2) (dg x2.natAbs) (dg e2) = rR (sgI (ng (x1 * (e2 : Int) + x2 * (e1 : Int))) (x1 * (e2 : Int) + x2 * (e1 : Int)).natAbs) (e1 * e2) := by rw [rAdd_ok hR1 hR2, sgI_ng]
  rw [hre] at hrl ⊢
  have q80 := Chg.step (l := 0) (h := 0) (Chg.zero (l := 0) (h := 0) ((((((((((cb2.t cb4).t cb6).t c25).t d38).t d46).t c50).t c56).t c59).t c65).t c68)) cw70 (by omega)
  have f81 := os_68.chg cw70 (by omega)
  have f82 := ot_68.chg cw70 (by omega)
  exact ⟨_, _, _, _, _, _, rfl, f81, f82, by omega, hrl, q80⟩

theorem c_iRatSub {w : World} {n1 : Bool} {v1 : Value} {lv1 uv1 : Nat} {z1 : List Int} {d1 : Value} {ld1 ud1 : Nat} {y1 : List Int} {n2 : Bool} {v2 : Value} {lv2 uv2 : Nat} {z2 : List Int} {d2 : Value} {ld2 ud2 : Nat} {y2 : List Int} (hv1 : Sl w lv1 uv1 v1 (z1)) (hd1 : Sl w ld1 ud1 d1 (y1)) (hv2 : Sl w lv2 uv2 v2 (z2)) (hd2 : Sl w ld2 ud2 d2 (y2)) (h63 : z1.length ≤ 4611686018427387904 ∧ y1.length ≤ 4611686018427387904 ∧ z2.length ≤ 4611686018427387904 ∧ y2.length ≤ 4611686018427387904) :
  Ret Tryz.prog 34 [.agg #[.bool n1, v1, d1], .agg #[.bool n2, v2, d2]] w fun v w' => ∃ s t ls us lt ut, v = .tuple #[.agg #[.bool ((rSub n1 z1 y1 n2 z2 y2).1), s, t], .bool ((rSub n1 z1 y1 n2 z2 y2).2.2.2)] ∧ OwnI w' (ls) (us) s intT ((rSub n1 z1 y1 n2 z2 y2).2.1) ∧ OwnI w' (lt) (ut) t intT ((rSub n1 z1 y1 n2 z2 y2).2.2.1) ∧ (w.heap.size ≤ ls ∧ us ≤ w'.heap.size ∧ w.heap.size ≤ lt ∧ ut ≤ w'.heap.size ∧ (us ≤ lt ∨ ut ≤ ls)) ∧ ((rSub n1 z1 y1 n2 z2 y2).2.1.length ≤ 18 ∧ (rSub n1 z1 y1 n2 z2 y2).2.2.1.length ≤ 18) ∧ Chg 0 0 w w' := by
 have hv10 := hv1.fit
 have hd10 := hd1.fit
 have hv20 := hv2.fit
 have hd20 := hd2.fit
 refine sx_enter Tryz.func34 rfl Tryz.ntmps34 (Nat.le_of_ble_eq_true rfl) ?_
 refine sx_seq fun K1 k1 => sx_region ?_
 refine sx_box [.bool n1, v1, d1] rfl rfl rfl (fun b2 w3 eb2 sb2 fb2 cb2 => ?_)
 have zw3 := cb2.size
 refine sx_box [.bool n2, v2, d2] rfl rfl rfl (fun b4 w5 eb4 sb4 fb4 cb4 => ?_)
 have zw5 := cb4.size
 refine sx_alloc [.bool false, (.slice none 0 0), (.slice none 0 0)] rfl Tryz.zeroValue32 rfl (fun b6 w7 eb6 sb6 fb6 cb6 => ?_)
 have zw7 := cb6.size
 refine sa rfl rfl rfl rfl ?_
 refine wl_nil (q_n (k1 _ _ ?_))
 refine sx_seq fun K8 k8 => ?_
 refine sx_seq fun K9 k9 => sx_region ?_
 have f10 := fb2.ext cb4
 have f11 := f10.ext cb6
 refine sx_pure rfl rfl rfl (px_load rfl (f11.loadA (vs := [.bool n1, v1, d1]) (look_lit rfl) Tryz.isAgg32 Tryz.sizeOf32)) ?_
 have f12 := fb4.ext cb6
 refine sx_pure rfl rfl rfl (px_load rfl (f12.loadA (vs := [.bool n2, v2, d2]) (look_lit rfl) Tryz.isAgg32 Tryz.sizeOf32)) ?_
 have f13 := hv10.ext cb2
 have f14 := f13.ext cb4
 have f15 := f14.ext cb6
 have f16 := hd10.ext cb2
 have f17 := f16.ext cb4
 have f18 := f17.ext cb6
 have f19 := hv20.ext cb2
 have f20 := f19.ext cb4
 have f21 := f20.ext cb6
 have f22 := hd20.ext cb2
 have f23 := f22.ext cb4
 have f24 := f23.ext cb6
 refine sx_call rfl rfl Tryz.call50 (c_ratsOk f15 f18 f21 f24 (by omega)) (fun v25 w25 p25 => ?_)
 obtain ⟨rfl, c25⟩ := p25
 have zw25 := c25.size
 refine sx_pure rfl rfl rfl (px_notP rfl) ?_
 refine wl_nil (q_n (k9 _ _ ?_))
 refine sx_condP rfl (fun h66 => ?_) (fun h66 => ?_)
 ·
  refine sx_seq fun K26 k26 => sx_region ?_
  refine sx_pure rfl rfl rfl (px_build rfl (xbld32x  _)) ?_
  have f28 := fb6.ext c25
  refine sx_store (vs := [.bool false, (.slice none 0 0), (.slice none 0 0)]) rfl rfl f28 rfl Tryz.sizeOf32 (Nat.le_of_ble_eq_true rfl) (one_cons rfl (one_cons rfl (one_cons rfl one_nil))) (fun w27 sw27 fw27 cw27 => ?_)
  have zw27 := cw27.size
  have gw27 : Blk w27 b6 [.bool false, (.slice none 0 0), (.slice none 0 0)] 32 := fw27
  refine sa rfl rfl rfl rfl ?_
  refine wl_nil (q_n (k26 _ _ ?_))
  refine sx_retc ?_
  refine q_r (sx_ret2 Tryz.results34 ⟨_, rfl, gw27.loadA (vs := [.bool false, (.slice none 0 0), (.slice none 0 0)]) (look_lit rfl) Tryz.isAgg32 Tryz.sizeOf32⟩ rfl ?_)
  rw [rSub_no h66]
  have q29 := Chg.step (l := 0) (h := 0) (Chg.zero (l := 0) (h := 0) (((cb2.t cb4).t cb6).t c25)) cw27 (by omega)
  exact ⟨_, _, w.heap.size, w.heap.size, w.heap.size, w.heap.size, rfl, Own.nil _ _ _ _ _, Own.nil _ _ _ _ _, by omega, ⟨by simp [noR], by simp [noR]⟩, q29⟩
 ·
  have hR := Decidable.not_not.1 h66
  have hR2 := hR.2
  obtain ⟨x2, e2, rfl, rfl, rfl, hp2, hx2, hy2, hg2⟩ := hR2.rat
  have hn2 : (dg (-x2).natAbs).length ≤ 18 := by rw [Int.natAbs_neg]; exact hx2
  refine sx_skip ?_
  refine q_n (k8 _ _ ?_)
  refine sx_seq fun K30 k30 => ?_
  have f31 := f11.ext c25
  have f32 := f12.ext c25
  have f33 := f15.ext c25
  have f34 := f18.ext c25
  have f35 := f21.ext c25
  have f36 := f24.ext c25
  refine dx_region (fun w' => Chg b6 (b6 + 1) w25 w') (by kernel_rfl) (Chg.zero (Chg.drew _)) ?_
  have d37 := Chg.drew w25
  have s37 : Chg b6 (b6 + 1) w25 (World.drew w25) := Chg.zero (Chg.drew _)
  have y37 : (World.drew w25).heap.size = w25.heap.size := rfl
  generalize World.drew w25 = w37 at *
  have zw37 := d37.size
  refine dx_take 0 rfl rfl rfl rfl (by kernel_rfl) (by kernel_rfl) (by kernel_rfl) s37 (fun _ hS => px_load rfl ((f31.chg hS (by omega)).loadA (vs := [.bool n1, v1, d1]) (look_lit rfl) Tryz.isAgg32 Tryz.sizeOf32)) ?_
  refine dx_take 1 rfl rfl rfl rfl (by kernel_rfl) (by kernel_rfl) (by kernel_rfl) s37 (fun _ hS => px_load rfl ((f32.chg hS (by omega)).loadA (vs := [.bool (ng x2), v2, d2]) (look_lit rfl) Tryz.isAgg32 Tryz.sizeOf32)) ?_
  refine dx_eff 2 rfl (by kernel_rfl) ?_
  have f38 := f35.ext d37
  have f39 := f36.ext d37
  refine sx_call rfl rfl Tryz.call52 (c_ratNeg f38 f39 (by omega) (by omega)) (fun v40 w40 p40 => ?_)
  obtain ⟨s40, t40, ls40, us40, lt40, ut40, rfl, os_40, ot_40, hd40, c40⟩ := p40
  have zw40 := c40.size
  have s41 : Chg b6 (b6 + 1) w25 w40 := (Chg.zero (l := b6) (h := (b6 + 1)) (d37.t c40))
  refine wl_nil ?_
  refine dx_next s41 ?_
  refine dx_eff 3 rfl (by kernel_rfl) ?_
  have f42 := f33.ext d37
  have f43 := f42.ext c40
  have f44 := f34.ext d37
  have f45 := f44.ext c40
  refine sx_call rfl rfl Tryz.call51 (c_iRatAdd f43 f45 os_40.sv ot_40.sv (by omega)) (fun v46 w46 p46 => ?_)
  obtain ⟨s46, t46, ls46, us46, lt46, ut46, rfl, os_46, ot_46, hd46, hl46, c46⟩ := p46
  have zw46 := c46.size
  have s47 : Chg b6 (b6 + 1) w25 w46 := (Chg.zero (l := b6) (h := (b6 + 1)) ((d37.t c40).t c46))
  refine wl_nil ?_
  refine dx_next s47 ?_
  refine dx_take 4 rfl rfl rfl rfl (by kernel_rfl) (by kernel_rfl) (by kernel_rfl) s47 (fun _ hS => px_extract (vs := [.agg #[.bool ((rAdd n1 z1 y1 (ng (-x2)) (dg (-x2).natAbs) (dg e2)).1), s46, t46], .bool ((rAdd n1 z1 y1 (ng (-x2)) (dg (-x2).natAbs) (dg e2)).2.2.2)]) rfl rfl) ?_
  refine dx_take 5 rfl rfl rfl rfl (by kernel_rfl) (by kernel_rfl) (by kernel_rfl) s47 (fun _ hS => px_extract (vs := [.agg #[.bool ((rAdd n1 z1 y1 (ng (-x2)) (dg (-x2).natAbs) (dg e2)).1), s46, t46], .bool ((rAdd n1 z1 y1 (ng (-x2)) (dg (-x2).natAbs) (dg e2)).2.2.2)]) rfl rfl) ?_
  refine dx_eff 6 rfl (by kernel_rfl) ?_
  have f49 := fb6.ext c25
  have f50 := f49.ext d37
  have f51 := f50.ext c40
  have f52 := f51.ext c46
  refine sx_store (vs := [.bool ((rAdd n1 z1 y1 (ng (-x2)) (dg (-x2).natAbs) (dg e2)).1), s46, t46]) rfl rfl f52 rfl Tryz.sizeOf32 (Nat.le_of_ble_eq_true rfl) (one_cons rfl (one_cons os_46.one (one_cons ot_46.one one_nil))) (fun w48 sw48 fw48 cw48 => ?_)
  have zw48 := cw48.size
  have gw48 : Blk w48 b6 [.bool ((rAdd n1 z1 y1 (ng (-x2)) (dg (-x2).natAbs) (dg e2)).1), s46, t46] 32 := fw48
  have q54 := Chg.step (l := b6) (h := (b6 + 1)) (Chg.zero (l := b6) (h := (b6 + 1)) ((d37.t c40).t c46)) cw48 (by omega)
  have s53 : Chg b6 (b6 + 1) w25 w48 := q54
  refine wl_nil ?_
  refine dx_next s53 ?_
  refine dx_take 7 rfl rfl rfl rfl (by kernel_rfl) (by kernel_rfl) (by kernel_rfl) s53 (fun _ hS => px_assign rfl) ?_
  refine dx_done (by kernel_rfl) ?_
  refine q_n (k30 _ _ ?_)
  refine sx_sub (Sub.cons (t := 4) rfl (.cons (t := 5) rfl (.nil))) ?_
  refine sx_retc ?_
  refine sx_ret2 Tryz.results34 ⟨_, rfl, gw48.loadA (vs := [.bool ((rAdd n1 z1 y1 (ng (-x2)) (dg (-x2).natAbs) (dg e2)).1), s46, t46]) (look_lit rfl) Tryz.isAgg32 Tryz.sizeOf32⟩ rfl ?_
  have hrl := rSub_len (n1 := n1) (z1 := z1) (y1 := y1) (n2 := ng x2) (z2 := dg x2.natAbs) (y2 := dg e2)
  rw [rSub_ok hR.1 hR2] at hrl ⊢
  have q55 := Chg.step (l := 0) (h := 0) (Chg.zero (l := 0) (h := 0) ((((((cb2.t cb4).t cb6).t c25).t d37).t c40).t c46)) cw48 (by omega)
  have f56 := os_46.chg cw48 (by omega)
  have f57 := ot_46.chg cw48 (by omega)
  exact ⟨_, _, _, _, _, _, rfl, f56, f57, by omega, hrl, q55⟩

theorem c_iRatRest {w : World} {n1 : Bool} {v1 : Value} {lv1 uv1 : Nat} {z1 : List Int} {d1 : Value} {ld1 ud1 : Nat} {y1 : List Int} {m : Int} (hv1 : Sl w lv1 uv1 v1 (z1)) (hd1 : Sl w ld1 ud1 d1 (y1)) (h63 : z1.length ≤ 4611686018427387904 ∧ y1.length ≤ 4611686018427387904) :
  Ret Tryz.prog 20 [.agg #[.bool n1, v1, d1], .int .i64 m] w fun v w' => ∃ s t u ls us lt ut lu uu, v = .tuple #[.agg #[.bool ((rRest n1 z1 y1 m).1.1), s], .agg #[.bool ((rRest n1 z1 y1 m).2.1.1), t, u], .bool ((rRest n1 z1 y1 m).2.2)] ∧ OwnI w' (ls) (us) s intT ((rRest n1 z1 y1 m).1.2) ∧ OwnI w' (lt) (ut) t intT ((rRest n1 z1 y1 m).2.1.2.1) ∧ OwnI w' (lu) (uu) u intT ((rRest n1 z1 y1 m).2.1.2.2) ∧ (w.heap.size ≤ ls ∧ us ≤ w'.heap.size ∧ w.heap.size ≤ lt ∧ ut ≤ w'.heap.size ∧ w.heap.size ≤ lu ∧ uu ≤ w'.heap.size ∧ us ≤ lt ∧ us ≤ lu ∧ (ut ≤ lu ∨ uu ≤ lt)) ∧ ((rRest n1 z1 y1 m).1.2.length ≤ 19 ∧ (rRest n1 z1 y1 m).2.1.2.1.length ≤ 18 ∧ (rRest n1 z1 y1 m).2.1.2.2.length ≤ 18) ∧ Chg 0 0 w w' := by
 have hv10 := hv1.fit
 have hd10 := hd1.fit
 refine sx_enter Tryz.func20 rfl Tryz.ntmps20 (Nat.le_of_ble_eq_true rfl) ?_
 refine sx_seq fun K1 k1 => sx_region ?_
 refine sx_box [.bool n1, v1, d1] rfl rfl rfl (fun b2 w3 eb2 sb2 fb2 cb2 => ?_)
 have zw3 := cb2.size
 refine sx_alloc [.bool false, (.slice none 0 0)] rfl Tryz.zeroValue28 rfl (fun b4 w5 eb4 sb4 fb4 cb4 => ?_)
 have zw5 := cb4.size
 refine sx_alloc [.bool false, (.slice none 0 0), (.slice none 0 0)] rfl Tryz.zeroValue32 rfl (fun b6 w7 eb6 sb6 fb6 cb6 => ?_)
 have zw7 := cb6.size
 refine sa rfl rfl rfl rfl ?_
 refine wl_nil (q_n (k1 _ _ ?_))
 refine sx_seq fun K8 k8 => sx_region ?_
 have f9 := fb2.ext cb4
 have f10 := f9.ext cb6
 refine sx_pure rfl rfl rfl (px_load rfl (f10.loadA (vs := [.bool n1, v1, d1]) (look_lit rfl) Tryz.isAgg32 Tryz.sizeOf32)) ?_
 refine sm rfl rfl rfl rfl ?_
 have f11 := hv10.ext cb2
 have f12 := f11.ext cb4
 have f13 := f12.ext cb6
 have f14 := hd10.ext cb2
 have f15 := f14.ext cb4
 have f16 := f15.ext cb6
 refine sx_call rfl rfl Tryz.call32 (c_iRatRound f13 f16 (by omega)) (fun v17 w17 p17 => ?_)
 obtain ⟨s17, rfl, os_17, hl17, c17⟩ := p17
 have zw17 := c17.size
 refine sm rfl rfl rfl rfl ?_
 refine sx_pure rfl rfl rfl (px_extract (vs := [.agg #[.bool ((rRound n1 z1 y1 m).1), s17], .bool ((rRound n1 z1 y1 m).2.2)]) rfl rfl) ?_
 refine sx_pure rfl rfl rfl (px_extract (vs := [.agg #[.bool ((rRound n1 z1 y1 m).1), s17], .bool ((rRound n1 z1 y1 m).2.2)]) rfl rfl) ?_
 refine sx_alloc [.bool false, (.slice none 0 0)] rfl Tryz.zeroValue28 rfl (fun b18 w19 eb18 sb18 fb18 cb18 => ?_)
 have zw19 := cb18.size
 have f21 := os_17.ext cb18
 refine sx_store (vs := [.bool ((rRound n1 z1 y1 m).1), s17]) rfl rfl fb18 rfl Tryz.sizeOf28 (Nat.le_of_ble_eq_true rfl) (one_cons rfl (one_cons f21.one one_nil)) (fun w20 sw20 fw20 cw20 => ?_)
 have zw20 := cw20.size
 have gw20 : Blk w20 b18 [.bool ((rRound n1 z1 y1 m).1), s17] 28 := fw20
 refine sa rfl rfl rfl rfl ?_
 refine wl_nil (q_n (k8 _ _ ?_))
 refine sx_seq fun K22 k22 => ?_
 refine sx_seq fun K23 k23 => sx_region ?_
 refine sm rfl rfl rfl rfl ?_
 refine sx_pure rfl rfl rfl (px_not rfl) ?_
 refine wl_nil (q_n (k23 _ _ ?_))
 refine sx_sub (Sub.cons (t := 2) rfl (.cons (t := 4) rfl (.cons (t := 5) rfl (.cons (t := 6) rfl (.cons (t := 7) rfl (.cons (t := 20) rfl (.nil))))))) ?_
 refine sx_condB rfl (fun h83 => ?_) (fun h83 => ?_)
 ·
  refine sx_seq fun K24 k24 => sx_region ?_
  refine sx_pure rfl rfl rfl (px_build rfl (xbld28x  _)) ?_
  refine sx_pure rfl rfl rfl (px_build rfl (xbld32x  _)) ?_
  have f26 := fb4.ext cb6
  have f27 := f26.ext c17
  have f28 := f27.ext cb18
  have f29 := f28.chg cw20 (by omega)
  refine sx_store (vs := [.bool false, (.slice none 0 0)]) rfl rfl f29 rfl Tryz.sizeOf28 (Nat.le_of_ble_eq_true rfl) (one_cons rfl (one_cons rfl one_nil)) (fun w25 sw25 fw25 cw25 => ?_)
  have zw25 := cw25.size
  have gw25 : Blk w25 b4 [.bool false, (.slice none 0 0)] 28 := fw25
  have f31 := fb6.ext c17
  have f32 := f31.ext cb18
  have f33 := f32.chg cw20 (by omega)
  have f34 := f33.chg cw25 (by omega)
  refine sx_store (vs := [.bool false, (.slice none 0 0), (.slice none 0 0)]) rfl rfl f34 rfl Tryz.sizeOf32 (Nat.le_of_ble_eq_true rfl) (one_cons rfl (one_cons rfl (one_cons rfl one_nil))) (fun w30 sw30 fw30 cw30 => ?_)
  have zw30 := cw30.size
  have gw30 : Blk w30 b6 [.bool false, (.slice none 0 0), (.slice none 0 0)] 32 := fw30
  refine sa rfl rfl rfl rfl ?_
  refine wl_nil (q_n (k24 _ _ ?_))
  refine sx_retc ?_
  have f35 := gw25.chg cw30 (by omega)
  refine q_r (sx_ret3 Tryz.results20 ⟨_, rfl, f35.loadA (vs := [.bool false, (.slice none 0 0)]) (look_lit rfl) Tryz.isAgg28 Tryz.sizeOf28⟩ ⟨_, rfl, gw30.loadA (vs := [.bool false, (.slice none 0 0), (.slice none 0 0)]) (look_lit rfl) Tryz.isAgg32 Tryz.sizeOf32⟩ rfl ?_)
  rw [rRest_no (fun hh => by first | exact bcl hh.1 h83 | exact bcl hh.2.1 h88 | exact bcl hh.2.2 h88x1)]
  have q36 := Chg.step (l := 0) (h := 0) (Chg.zero (l := 0) (h := 0) ((((cb2.t cb4).t cb6).t c17).t cb18)) cw20 (by omega)
  have q37 := Chg.step (l := 0) (h := 0) q36 cw25 (by omega)
  have q38 := Chg.step (l := 0) (h := 0) q37 cw30 (by omega)
  exact ⟨_, _, _, w.heap.size, w.heap.size, w.heap.size, w.heap.size, w.heap.size, w.heap.size, rfl, Own.nil _ _ _ _ _, Own.nil _ _ _ _ _, Own.nil _ _ _ _ _, by omega, ⟨by simp, by simp, by simp⟩, q38⟩
 ·
  refine sx_skip ?_
  refine q_n (k22 _ _ ?_)
  refine sx_seq fun K39 k39 => sx_region ?_
  refine sx_pure rfl rfl rfl (px_load rfl (gw20.loadA (vs := [.bool ((rRound n1 z1 y1 m).1), s17]) (look_lit rfl) Tryz.isAgg28 Tryz.sizeOf28)) ?_
  have f40 := f21.chg cw20 (by omega)
  refine sx_call rfl rfl Tryz.call33 (c_iRatInt f40.sv (by omega)) (fun v41 w41 p41 => ?_)
  obtain ⟨s41, t41, ls41, us41, lt41, ut41, rfl, os_41, ot_41, hd41, hl41, c41⟩ := p41
  have zw41 := c41.size
  refine sm rfl rfl rfl rfl ?_
  refine sx_pure rfl rfl rfl (px_extract (vs := [.agg #[.bool ((rInt ((rRound n1 z1 y1 m).1) ((rRound n1 z1 y1 m).2.1)).1), s41, t41], .bool ((rInt ((rRound n1 z1 y1 m).1) ((rRound n1 z1 y1 m).2.1)).2.2.2)]) rfl rfl) ?_
  refine sx_pure rfl rfl rfl (px_extract (vs := [.agg #[.bool ((rInt ((rRound n1 z1 y1 m).1) ((rRound n1 z1 y1 m).2.1)).1), s41, t41], .bool ((rInt ((rRound n1 z1 y1 m).1) ((rRound n1 z1 y1 m).2.1)).2.2.2)]) rfl rfl) ?_
  refine sx_alloc [.bool false, (.slice none 0 0), (.slice none 0 0)] rfl Tryz.zeroValue32 rfl (fun b42 w43 eb42 sb42 fb42 cb42 => ?_)
  have zw43 := cb42.size
  have f45 := ot_41.ext cb42
  have f46 := os_41.ext cb42
  refine sx_store (vs := [.bool ((rInt ((rRound n1 z1 y1 m).1) ((rRound n1 z1 y1 m).2.1)).1), s41, t41]) rfl rfl fb42 rfl Tryz.sizeOf32 (Nat.le_of_ble_eq_true rfl) (one_cons rfl (one_cons f46.one (one_cons f45.one one_nil))) (fun w44 sw44 fw44 cw44 => ?_)
  have zw44 := cw44.size
  have gw44 : Blk w44 b42 [.bool ((rInt ((rRound n1 z1 y1 m).1) ((rRound n1 z1 y1 m).2.1)).1), s41, t41] 32 := fw44
  refine sa rfl rfl rfl rfl ?_
  refine wl_nil (q_n (k39 _ _ ?_))
  refine sx_seq fun K47 k47 => sx_region ?_
  have f48 := f10.ext c17
  have f49 := f48.ext cb18
  have f50 := f49.chg cw20 (by omega)
  have f51 := f50.ext c41
  have f52 := f51.ext cb42
  have f53 := f52.chg cw44 (by omega)
  refine sx_pure rfl rfl rfl (px_load rfl (f53.loadA (vs := [.bool n1, v1, d1]) (look_lit rfl) Tryz.isAgg32 Tryz.sizeOf32)) ?_
  refine sx_pure rfl rfl rfl (px_load rfl (gw44.loadA (vs := [.bool ((rInt ((rRound n1 z1 y1 m).1) ((rRound n1 z1 y1 m).2.1)).1), s41, t41]) (look_lit rfl) Tryz.isAgg32 Tryz.sizeOf32)) ?_
  have f54 := f13.ext c17
  have f55 := f54.ext cb18
  have f56 := f55.chg cw20 (by omega)
  have f57 := f56.ext c41
  have f58 := f57.ext cb42
  have f59 := f58.chg cw44 (by omega)
  have f60 := f16.ext c17
  have f61 := f60.ext cb18
  have f62 := f61.chg cw20 (by omega)
  have f63 := f62.ext c41
  have f64 := f63.ext cb42
  have f65 := f64.chg cw44 (by omega)
  have f66 := f46.chg cw44 (by omega)
  have f67 := f45.chg cw44 (by omega)
  refine sx_call rfl rfl Tryz.call34 (c_iRatSub f59 f65 f66.sv f67.sv (by omega)) (fun v68 w68 p68 => ?_)
  obtain ⟨s68, t68, ls68, us68, lt68, ut68, rfl, os_68, ot_68, hd68, hl68, c68⟩ := p68
  have zw68 := c68.size
  refine sm rfl rfl rfl rfl ?_
  refine sx_pure rfl rfl rfl (px_extract (vs := [.agg #[.bool ((rSub n1 z1 y1 ((rInt ((rRound n1 z1 y1 m).1) ((rRound n1 z1 y1 m).2.1)).1) ((rInt ((rRound n1 z1 y1 m).1) ((rRound n1 z1 y1 m).2.1)).2.1) ((rInt ((rRound n1 z1 y1 m).1) ((rRound n1 z1 y1 m).2.1)).2.2.1)).1), s68, t68], .bool ((rSub n1 z1 y1 ((rInt ((rRound n1 z1 y1 m).1) ((rRound n1 z1 y1 m).2.1)).1) ((rInt ((rRound n1 z1 y1 m).1) ((rRound n1 z1 y1 m).2.1)).2.1) ((rInt ((rRound n1 z1 y1 m).1) ((rRound n1 z1 y1 m).2.1)).2.2.1)).2.2.2)]) rfl rfl) ?_
  refine sx_pure rfl rfl rfl (px_extract (vs := [.agg #[.bool ((rSub n1 z1 y1 ((rInt ((rRound n1 z1 y1 m).1) ((rRound n1 z1 y1 m).2.1)).1) ((rInt ((rRound n1 z1 y1 m).1) ((rRound n1 z1 y1 m).2.1)).2.1) ((rInt ((rRound n1 z1 y1 m).1) ((rRound n1 z1 y1 m).2.1)).2.2.1)).1), s68, t68], .bool ((rSub n1 z1 y1 ((rInt ((rRound n1 z1 y1 m).1) ((rRound n1 z1 y1 m).2.1)).1) ((rInt ((rRound n1 z1 y1 m).1) ((rRound n1 z1 y1 m).2.1)).2.1) ((rInt ((rRound n1 z1 y1 m).1) ((rRound n1 z1 y1 m).2.1)).2.2.1)).2.2.2)]) rfl rfl) ?_
  refine sx_alloc [.bool false, (.slice none 0 0), (.slice none 0 0)] rfl Tryz.zeroValue32 rfl (fun b69 w70 eb69 sb69 fb69 cb69 => ?_)
  have zw70 := cb69.size
  have f72 := ot_68.ext cb69
  have f73 := os_68.ext cb69
  refine sx_store (vs := [.bool ((rSub n1 z1 y1 ((rInt ((rRound n1 z1 y1 m).1) ((rRound n1 z1 y1 m).2.1)).1) ((rInt ((rRound n1 z1 y1 m).1) ((rRound n1 z1 y1 m).2.1)).2.1) ((rInt ((rRound n1 z1 y1 m).1) ((rRound n1 z1 y1 m).2.1)).2.2.1)).1), s68, t68]) rfl rfl fb69 rfl Tryz.sizeOf32 (Nat.le_of_ble_eq_true rfl) (one_cons rfl (one_cons f73.one (one_cons f72.one one_nil))) (fun w71 sw71 fw71 cw71 => ?_)
  have zw71 := cw71.size
  have gw71 : Blk w71 b69 [.bool ((rSub n1 z1 y1 ((rInt ((rRound n1 z1 y1 m).1) ((rRound n1 z1 y1 m).2.1)).1) ((rInt ((rRound n1 z1 y1 m).1) ((rRound n1 z1 y1 m).2.1)).2.1) ((rInt ((rRound n1 z1 y1 m).1) ((rRound n1 z1 y1 m).2.1)).2.2.1)).1), s68, t68] 32 := fw71
  refine sa rfl rfl rfl rfl ?_
  refine wl_nil (q_n (k47 _ _ ?_))
  refine sx_sub (Sub.cons (t := 4) rfl (.cons (t := 5) rfl (.cons (t := 6) rfl (.cons (t := 7) rfl (.cons (t := 10) rfl (.cons (t := 11) rfl (.cons (t := 12) rfl (.nil)))))))) ?_
  refine sx_seq fun K74 k74 => ?_
  refine sx_seq fun K75 k75 => sx_region ?_
  refine sm rfl rfl rfl rfl ?_
  refine sx_pure rfl rfl rfl (px_not rfl) ?_
  refine sm rfl rfl rfl rfl ?_
  refine sx_tmpB (t := 36) rfl (fun h88 => ?_) (fun h88 => ?_)
  ·
   refine sx_guardF rfl rfl rfl rfl rfl rfl ?_
   refine sx_guardF rfl rfl rfl rfl rfl rfl ?_
   refine sx_pure rfl rfl rfl (px_pick rfl rfl) ?_
   refine wl_nil (q_n (k75 _ _ ?_))
   refine sx_condT rfl ?_
   refine sx_seq fun K76 k76 => sx_region ?_
   refine sx_pure rfl rfl rfl (px_build rfl (xbld28x  _)) ?_
   refine sx_pure rfl rfl rfl (px_build rfl (xbld32x  _)) ?_
   have f78 := fb4.ext cb6
   have f79 := f78.ext c17
   have f80 := f79.ext cb18
   have f81 := f80.chg cw20 (by omega)
   have f82 := f81.ext c41
   have f83 := f82.ext cb42
   have f84 := f83.chg cw44 (by omega)
   have f85 := f84.ext c68
   have f86 := f85.ext cb69
   have f87 := f86.chg cw71 (by omega)
   refine sx_store (vs := [.bool false, (.slice none 0 0)]) rfl rfl f87 rfl Tryz.sizeOf28 (Nat.le_of_ble_eq_true rfl) (one_cons rfl (one_cons rfl one_nil)) (fun w77 sw77 fw77 cw77 => ?_)
   have zw77 := cw77.size
   have gw77 : Blk w77 b4 [.bool false, (.slice none 0 0)] 28 := fw77
   have f89 := fb6.ext c17
   have f90 := f89.ext cb18
   have f91 := f90.chg cw20 (by omega)
   have f92 := f91.ext c41
   have f93 := f92.ext cb42
   have f94 := f93.chg cw44 (by omega)
   have f95 := f94.ext c68
   have f96 := f95.ext cb69
   have f97 := f96.chg cw71 (by omega)
   have f98 := f97.chg cw77 (by omega)
   refine sx_store (vs := [.bool false, (.slice none 0 0), (.slice none 0 0)]) rfl rfl f98 rfl Tryz.sizeOf32 (Nat.le_of_ble_eq_true rfl) (one_cons rfl (one_cons rfl (one_cons rfl one_nil))) (fun w88 sw88 fw88 cw88 => ?_)
   have zw88 := cw88.size
   have gw88 : Blk w88 b6 [.bool false, (.slice none 0 0), (.slice none 0 0)] 32 := fw88
   refine sa rfl rfl rfl rfl ?_
   refine wl_nil (q_n (k76 _ _ ?_))
   refine sx_sub (Sub.cons (t := 4) rfl (.cons (t := 5) rfl (.cons (t := 6) rfl (.cons (t := 7) rfl (.cons (t := 11) rfl (.nil)))))) ?_
   refine sx_retc ?_
   have f99 := gw77.chg cw88 (by omega)
   refine q_r (sx_ret3 Tryz.results20 ⟨_, rfl, f99.loadA (vs := [.bool false, (.slice none 0 0)]) (look_lit rfl) Tryz.isAgg28 Tryz.sizeOf28⟩ ⟨_, rfl, gw88.loadA (vs := [.bool false, (.slice none 0 0), (.slice none 0 0)]) (look_lit rfl) Tryz.isAgg32 Tryz.sizeOf32⟩ rfl ?_)
   rw [rRest_no (fun hh => by first | exact bcl hh.1 h83 | exact bcl hh.2.1 h88 | exact bcl hh.2.2 h88x1)]
   have q100 := Chg.step (l := 0) (h := 0) (Chg.zero (l := 0) (h := 0) ((((cb2.t cb4).t cb6).t c17).t cb18)) cw20 (by omega)
   have q101 := Chg.step (l := 0) (h := 0) q100 (c41.t cb42) (by omega)
   have q102 := Chg.step (l := 0) (h := 0) q101 cw44 (by omega)
   have q103 := Chg.step (l := 0) (h := 0) q102 (c68.t cb69) (by omega)
   have q104 := Chg.step (l := 0) (h := 0) q103 cw71 (by omega)
   have q105 := Chg.step (l := 0) (h := 0) q104 cw77 (by omega)
   have q106 := Chg.step (l := 0) (h := 0) q105 cw88 (by omega)
   exact ⟨_, _, _, w.heap.size, w.heap.size, w.heap.size, w.heap.size, w.heap.size, w.heap.size, rfl, Own.nil _ _ _ _ _, Own.nil _ _ _ _ _, Own.nil _ _ _ _ _, by omega, ⟨by simp, by simp, by simp⟩, q106⟩
  ·
   refine sx_guardT rfl rfl rfl ?_
   refine sm rfl rfl rfl rfl ?_
   refine sx_guardT rfl rfl rfl ?_
   refine sx_pure rfl rfl rfl (px_not rfl) ?_
   refine sx_pure rfl rfl rfl (px_pick rfl rfl) ?_
   refine wl_nil (q_n (k75 _ _ ?_))
   refine sx_condB rfl (fun h88x1 => ?_) (fun h88x1 => ?_)
   ·
    refine sx_seq fun K107 k107 => sx_region ?_
    refine sx_pure rfl rfl rfl (px_build rfl (xbld28x  _)) ?_
    refine sx_pure rfl rfl rfl (px_build rfl (xbld32x  _)) ?_
    have f109 := fb4.ext cb6
    have f110 := f109.ext c17
    have f111 := f110.ext cb18
    have f112 := f111.chg cw20 (by omega)
    have f113 := f112.ext c41
    have f114 := f113.ext cb42
    have f115 := f114.chg cw44 (by omega)
    have f116 := f115.ext c68
    have f117 := f116.ext cb69
    have f118 := f117.chg cw71 (by omega)
    refine sx_store (vs := [.bool false, (.slice none 0 0)]) rfl rfl f118 rfl Tryz.sizeOf28 (Nat.le_of_ble_eq_true rfl) (one_cons rfl (one_cons rfl one_nil)) (fun w108 sw108 fw108 cw108 => ?_)
    have zw108 := cw108.size
    have gw108 : Blk w108 b4 [.bool false, (.slice none 0 0)] 28 := fw108
    have f120 := fb6.ext c17
    have f121 := f120.ext cb18
    have f122 := f121.chg cw20 (by omega)
    have f123 := f122.ext c41
    have f124 := f123.ext cb42
    have f125 := f124.chg cw44 (by omega)
    have f126 := f125.ext c68
    have f127 := f126.ext cb69
    have f128 := f127.chg cw71 (by omega)
    have f129 := f128.chg cw108 (by omega)
    refine sx_store (vs := [.bool false, (.slice none 0 0), (.slice none 0 0)]) rfl rfl f129 rfl Tryz.sizeOf32 (Nat.le_of_ble_eq_true rfl) (one_cons rfl (one_cons rfl (one_cons rfl one_nil))) (fun w119 sw119 fw119 cw119 => ?_)
    have zw119 := cw119.size
    have gw119 : Blk w119 b6 [.bool false, (.slice none 0 0), (.slice none 0 0)] 32 := fw119
    refine sa rfl rfl rfl rfl ?_
    refine wl_nil (q_n (k107 _ _ ?_))
    refine sx_sub (Sub.cons (t := 4) rfl (.cons (t := 5) rfl (.cons (t := 6) rfl (.cons (t := 7) rfl (.cons (t := 11) rfl (.nil)))))) ?_
    refine sx_retc ?_
    have f130 := gw108.chg cw119 (by omega)
    refine q_r (sx_ret3 Tryz.results20 ⟨_, rfl, f130.loadA (vs := [.bool false, (.slice none 0 0)]) (look_lit rfl) Tryz.isAgg28 Tryz.sizeOf28⟩ ⟨_, rfl, gw119.loadA (vs := [.bool false, (.slice none 0 0), (.slice none 0 0)]) (look_lit rfl) Tryz.isAgg32 Tryz.sizeOf32⟩ rfl ?_)
    rw [rRest_no (fun hh => by first | exact bcl hh.1 h83 | exact bcl hh.2.1 h88 | exact bcl hh.2.2 h88x1)]
    have q131 := Chg.step (l := 0) (h := 0) (Chg.zero (l := 0) (h := 0) ((((cb2.t cb4).t cb6).t c17).t cb18)) cw20 (by omega)
    have q132 := Chg.step (l := 0) (h := 0) q131 (c41.t cb42) (by omega)
    have q133 := Chg.step (l := 0) (h := 0) q132 cw44 (by omega)
    have q134 := Chg.step (l := 0) (h := 0) q133 (c68.t cb69) (by omega)
    have q135 := Chg.step (l := 0) (h := 0) q134 cw71 (by omega)
    have q136 := Chg.step (l := 0) (h := 0) q135 cw108 (by omega)
    have q137 := Chg.step (l := 0) (h := 0) q136 cw119 (by omega)
    exact ⟨_, _, _, w.heap.size, w.heap.size, w.heap.size, w.heap.size, w.heap.size, w.heap.size, rfl, Own.nil _ _ _ _ _, Own.nil _ _ _ _ _, Own.nil _ _ _ _ _, by omega, ⟨by simp, by simp, by simp⟩, q137⟩
   ·
    refine sx_skip ?_
    refine q_n (k74 _ _ ?_)
    refine sx_seq fun K138 k138 => ?_
    have f139 := f53.ext c68
    have f140 := f139.ext cb69
    have f141 := f140.chg cw71 (by omega)
    have f142 := gw20.ext c41
    have f143 := f142.ext cb42
    have f144 := f143.chg cw44 (by omega)
    have f145 := f144.ext c68
    have f146 := f145.ext cb69
    have f147 := f146.chg cw71 (by omega)
    have f148 := gw44.ext c68
    have f149 := f148.ext cb69
    have f150 := f149.chg cw71 (by omega)
    have f151 := f59.ext c68
    have f152 := f151.ext cb69
    have f153 := f152.chg cw71 (by omega)
    have f154 := f65.ext c68
    have f155 := f154.ext cb69
    have f156 := f155.chg cw71 (by omega)
    have f157 := f40.ext c41
    have f158 := f157.ext cb42
    have f159 := f158.chg cw44 (by omega)
    have f160 := f159.ext c68
    have f161 := f160.ext cb69
    have f162 := f161.chg cw71 (by omega)
    have f163 := f66.ext c68
    have f164 := f163.ext cb69
    have f165 := f164.chg cw71 (by omega)
    have f166 := f67.ext c68
    have f167 := f166.ext cb69
    have f168 := f167.chg cw71 (by omega)
    have f169 := f73.chg cw71 (by omega)
    have f170 := f72.chg cw71 (by omega)
    refine dx_region (fun w' => Chg b4 (b6 + 1) w71 w') (by kernel_rfl) (Chg.zero (Chg.drew _)) ?_
    have d171 := Chg.drew w71
    have s171 : Chg b4 (b6 + 1) w71 (World.drew w71) := Chg.zero (Chg.drew _)
    have y171 : (World.drew w71).heap.size = w71.heap.size := rfl
    generalize World.drew w71 = w171 at *
    have zw171 := d171.size
    refine dx_take 0 rfl rfl rfl rfl (by kernel_rfl) (by kernel_rfl) (by kernel_rfl) s171 (fun _ hS => px_load rfl ((f147.chg hS (by omega)).loadA (vs := [.bool ((rRound n1 z1 y1 m).1), s17]) (look_lit rfl) Tryz.isAgg28 Tryz.sizeOf28)) ?_
    refine dx_take 1 rfl rfl rfl rfl (by kernel_rfl) (by kernel_rfl) (by kernel_rfl) s171 (fun _ hS => px_load rfl ((gw71.chg hS (by omega)).loadA (vs := [.bool ((rSub n1 z1 y1 ((rInt ((rRound n1 z1 y1 m).1) ((rRound n1 z1 y1 m).2.1)).1) ((rInt ((rRound n1 z1 y1 m).1) ((rRound n1 z1 y1 m).2.1)).2.1) ((rInt ((rRound n1 z1 y1 m).1) ((rRound n1 z1 y1 m).2.1)).2.2.1)).1), s68, t68]) (look_lit rfl) Tryz.isAgg32 Tryz.sizeOf32)) ?_
    refine dx_eff 2 rfl (by kernel_rfl) ?_
    have f173 := fb4.ext cb6
    have f174 := f173.ext c17
    have f175 := f174.ext cb18
    have f176 := f175.chg cw20 (by omega)
    have f177 := f176.ext c41
    have f178 := f177.ext cb42
    have f179 := f178.chg cw44 (by omega)
    have f180 := f179.ext c68
    have f181 := f180.ext cb69
    have f182 := f181.chg cw71 (by omega)
    have f183 := f182.ext d171
    have f184 := f162.ext d171
    refine sx_store (vs := [.bool ((rRound n1 z1 y1 m).1), s17]) rfl rfl f183 rfl Tryz.sizeOf28 (Nat.le_of_ble_eq_true rfl) (one_cons rfl (one_cons f184.one one_nil)) (fun w172 sw172 fw172 cw172 => ?_)
    have zw172 := cw172.size
    have gw172 : Blk w172 b4 [.bool ((rRound n1 z1 y1 m).1), s17] 28 := fw172
    have q186 := Chg.step (l := b4) (h := (b6 + 1)) (Chg.zero (l := b4) (h := (b6 + 1)) d171) cw172 (by omega)
    have s185 : Chg b4 (b6 + 1) w71 w172 := q186
    refine wl_nil ?_
    refine dx_next s185 ?_
    refine dx_eff 3 rfl (by kernel_rfl) ?_
    have f188 := fb6.ext c17
    have f189 := f188.ext cb18
    have f190 := f189.chg cw20 (by omega)
    have f191 := f190.ext c41
    have f192 := f191.ext cb42
    have f193 := f192.chg cw44 (by omega)
    have f194 := f193.ext c68
    have f195 := f194.ext cb69
    have f196 := f195.chg cw71 (by omega)
    have f197 := f196.ext d171
    have f198 := f197.chg cw172 (by omega)
    have f199 := f170.ext d171
    have f200 := f199.chg cw172 (by omega)
    have f201 := f169.ext d171
    have f202 := f201.chg cw172 (by omega)
    refine sx_store (vs := [.bool ((rSub n1 z1 y1 ((rInt ((rRound n1 z1 y1 m).1) ((rRound n1 z1 y1 m).2.1)).1) ((rInt ((rRound n1 z1 y1 m).1) ((rRound n1 z1 y1 m).2.1)).2.1) ((rInt ((rRound n1 z1 y1 m).1) ((rRound n1 z1 y1 m).2.1)).2.2.1)).1), s68, t68]) rfl rfl f198 rfl Tryz.sizeOf32 (Nat.le_of_ble_eq_true rfl) (one_cons rfl (one_cons f202.one (one_cons f200.one one_nil))) (fun w187 sw187 fw187 cw187 => ?_)
    have zw187 := cw187.size
    have gw187 : Blk w187 b6 [.bool ((rSub n1 z1 y1 ((rInt ((rRound n1 z1 y1 m).1) ((rRound n1 z1 y1 m).2.1)).1) ((rInt ((rRound n1 z1 y1 m).1) ((rRound n1 z1 y1 m).2.1)).2.1) ((rInt ((rRound n1 z1 y1 m).1) ((rRound n1 z1 y1 m).2.1)).2.2.1)).1), s68, t68] 32 := fw187
    have q204 := Chg.step (l := b4) (h := (b6 + 1)) (Chg.zero (l := b4) (h := (b6 + 1)) d171) cw172 (by omega)
    have q205 := Chg.step (l := b4) (h := (b6 + 1)) q204 cw187 (by omega)
    have s203 : Chg b4 (b6 + 1) w71 w187 := q205
    refine wl_nil ?_
    refine dx_next s203 ?_
    refine dx_take 4 rfl rfl rfl rfl (by kernel_rfl) (by kernel_rfl) (by kernel_rfl) s203 (fun _ hS => px_assign rfl) ?_
    refine dx_done (by kernel_rfl) ?_
    refine q_n (k138 _ _ ?_)
    refine sx_sub (Sub.cons (t := 4) rfl (.cons (t := 5) rfl (.cons (t := 6) rfl (.nil)))) ?_
    refine sx_retc ?_
    have f206 := gw172.chg cw187 (by omega)
    refine sx_ret3 Tryz.results20 ⟨_, rfl, f206.loadA (vs := [.bool ((rRound n1 z1 y1 m).1), s17]) (look_lit rfl) Tryz.isAgg28 Tryz.sizeOf28⟩ ⟨_, rfl, gw187.loadA (vs := [.bool ((rSub n1 z1 y1 ((rInt ((rRound n1 z1 y1 m).1) ((rRound n1 z1 y1 m).2.1)).1) ((rInt ((rRound n1 z1 y1 m).1) ((rRound n1 z1 y1 m).2.1)).2.1) ((rInt ((rRound n1 z1 y1 m).1) ((rRound n1 z1 y1 m).2.1)).2.2.1)).1), s68, t68]) (look_lit rfl) Tryz.isAgg32 Tryz.sizeOf32⟩ rfl ?_
    have hrl := rRest_len (n := n1) (z := z1) (y := y1) (m := m)
    rw [rRest_ok (bnot_f h83) (bnot_f h88) (bnot_f h88x1)] at hrl ⊢
    have q207 := Chg.step (l := 0) (h := 0) (Chg.zero (l := 0) (h := 0) ((((cb2.t cb4).t cb6).t c17).t cb18)) cw20 (by omega)
    have q208 := Chg.step (l := 0) (h := 0) q207 (c41.t cb42) (by omega)
    have q209 := Chg.step (l := 0) (h := 0) q208 cw44 (by omega)
    have q210 := Chg.step (l := 0) (h := 0) q209 (c68.t cb69) (by omega)
    have q211 := Chg.step (l := 0) (h := 0) q210 cw71 (by omega)
    have q212 := Chg.step (l := 0) (h := 0) q211 d171 (by omega)
    have q213 := Chg.step (l := 0) (h := 0) q212 cw172 (by omega)
    have q214 := Chg.step (l := 0) (h := 0) q213 cw187 (by omega)
    have f215 := f184.chg cw172 (by omega)
    have f216 := f215.chg cw187 (by omega)
    have f217 := f202.chg cw187 (by omega)
    have f218 := f200.chg cw187 (by omega)
    exact ⟨_, _, _, _, _, _, _, _, _, rfl, f216, f217, f218, by omega, hrl, q214⟩

theorem c_currencyOf {w : World} {s : ByteArray} (hG0 : Glob w) :
  Ret Tryz.prog 85 [.string s] w fun v w' => v = .tuple #[.agg #[.string ((curOf s).code), .string ((curOf s).number), .int .i64 ((curOf s).places), .int .i64 ((curOf s).cash)], .bool (decide (Known s))] ∧ Chg 0 0 w w' := by
 refine sx_enter Tryz.func85 rfl Tryz.ntmps85 (Nat.le_of_ble_eq_true rfl) ?_
 refine sx_seq fun K1 k1 => sx_region ?_
 refine sx_alloc [.string (⟨#[]⟩), .string (⟨#[]⟩), .int .i64 0, .int .i64 0] rfl Tryz.zeroValue93 rfl (fun b2 w3 eb2 sb2 fb2 cb2 => ?_)
 have zw3 := cb2.size
 refine sa rfl rfl rfl rfl ?_
 refine wl_nil (q_n (k1 _ _ ?_))
 refine sx_seq fun K4 k4 => ?_
 refine sx_seq fun K5 k5 => sx_region ?_
 have f6 := hG0.ext cb2
 refine sx_pure rfl rfl rfl (px_load rfl (Glob.load f6 Tryz.isAgg100 Tryz.sizeOf100)) ?_
 refine sm rfl rfl rfl rfl ?_
 refine wl_nil (q_n (k5 _ _ ?_))
 refine sx_block ?_
 refine sx_loop (fun mm aa w' => ∃ (k : Nat), Agr 17 [(0, .string s), (2, .pointer (some ⟨b2, 0, none⟩)), (6, .agg (crCells tabI).toArray), (7, .int .i64 ↑k)] aa ∧ Chg 0 0 w3 w' ∧ (mm = 20 - k) ∧ (k ≤ 20) ∧ (∀ i, i < k → ¬ (tabI.getD i cr0).code = s)) (20) (fun a ha => ⟨0, ha.sub (Sub.cons (t := 0) rfl (.cons (t := 2) rfl (.cons (t := 6) rfl (.cons (t := 7) (look_int (t := 7) rfl (by first | omega | simp)) (.nil))))), Chg.refl _ _ _, rfl, by omega, fun i h => by omega⟩) ?_
 rintro mm aa wl7 ⟨k, hAwl7, cwl7, hm, hk, hn⟩
 refine (show cw Tryz.prog 17 _ _ _ wl7 from ?_) aa hAwl7
 clear hAwl7
 have zwl7 := cwl7.size
 refine sx_seq fun K8 k8 => sx_region ?_
 refine sx_pure rfl rfl rfl (px_lt rfl rfl) ?_
 refine wl_nil (q_n (k8 _ _ ?_))
 refine sx_seq fun K9 k9 => ?_
 refine sx_condP rfl (fun h39 => ?_) (fun h39 => ?_)
 ·
  refine sx_skip ?_
  refine q_n (k9 _ _ ?_)
  refine sx_seq fun K10 k10 => ?_
  refine sx_block ?_
  refine sx_seq fun K11 k11 => sx_region ?_
  refine sx_pure rfl rfl rfl (px_indexCr (l := tabI) (j := k) rfl rfl (by omega) Tryz.underlying100 rfl Tryz.sizeOf93 Tryz.isAgg93 (by rw [show tabI.length = 20 from rfl]; omega)) ?_
  refine sx_alloc [.string (⟨#[]⟩), .string (⟨#[]⟩), .int .i64 0, .int .i64 0] rfl Tryz.zeroValue93 rfl (fun b12 w13 eb12 sb12 fb12 cb12 => ?_)
  have zw13 := cb12.size
  refine sx_store (vs := [.string ((tabI.getD k cr0).code), .string ((tabI.getD k cr0).number), .int .i64 ((tabI.getD k cr0).places), .int .i64 ((tabI.getD k cr0).cash)]) rfl rfl fb12 rfl Tryz.sizeOf93 (Nat.le_of_ble_eq_true rfl) (one_cons rfl (one_cons rfl (one_cons rfl (one_cons rfl one_nil)))) (fun w14 sw14 fw14 cw14 => ?_)
  have zw14 := cw14.size
  have gw14 : Blk w14 b12 [.string ((tabI.getD k cr0).code), .string ((tabI.getD k cr0).number), .int .i64 ((tabI.getD k cr0).places), .int .i64 ((tabI.getD k cr0).cash)] 93 := fw14
  refine wl_nil (q_n (k11 _ _ ?_))
  refine sx_seq fun K15 k15 => sx_region ?_
  refine sx_pure rfl rfl rfl (px_field rfl xfld93x0) ?_
  refine sx_pure rfl rfl rfl (px_load rfl (gw14.load1 rfl Tryz.isAgg9)) ?_
  refine sm rfl rfl rfl rfl ?_
  refine sx_pure rfl rfl rfl (px_eqS rfl rfl) ?_
  refine wl_nil (q_n (k15 _ _ ?_))
  refine sx_condP rfl (fun h40 => ?_) (fun h40 => ?_)
  ·
   refine sx_seq fun K16 k16 => sx_region ?_
   refine sx_pure rfl rfl rfl (px_load rfl (gw14.loadA (vs := [.string ((tabI.getD k cr0).code), .string ((tabI.getD k cr0).number), .int .i64 ((tabI.getD k cr0).places), .int .i64 ((tabI.getD k cr0).cash)]) (look_lit rfl) Tryz.isAgg93 Tryz.sizeOf93)) ?_
   have f18 := fb2.ext cwl7
   have f19 := f18.ext cb12
   have f20 := f19.chg cw14 (by omega)
   refine sx_store (vs := [.string ((tabI.getD k cr0).code), .string ((tabI.getD k cr0).number), .int .i64 ((tabI.getD k cr0).places), .int .i64 ((tabI.getD k cr0).cash)]) rfl rfl f20 rfl Tryz.sizeOf93 (Nat.le_of_ble_eq_true rfl) (one_cons rfl (one_cons rfl (one_cons rfl (one_cons rfl one_nil)))) (fun w17 sw17 fw17 cw17 => ?_)
   have zw17 := cw17.size
   have gw17 : Blk w17 b2 [.string ((tabI.getD k cr0).code), .string ((tabI.getD k cr0).number), .int .i64 ((tabI.getD k cr0).places), .int .i64 ((tabI.getD k cr0).cash)] 93 := fw17
   refine sa rfl rfl rfl rfl ?_
   refine wl_nil (q_n (k16 _ _ ?_))
   refine sx_retc ?_
   refine q_br (q_r (q_r (q_br (q_r (sx_ret2 Tryz.results85 ⟨_, rfl, gw17.loadA (vs := [.string ((tabI.getD k cr0).code), .string ((tabI.getD k cr0).number), .int .i64 ((tabI.getD k cr0).places), .int .i64 ((tabI.getD k cr0).cash)]) (look_lit rfl) Tryz.isAgg93 Tryz.sizeOf93⟩ rfl ?_)))))
   have e := curOf_some (by rw [show tabI.length = 20 from rfl]; omega) hn h40
   have e2 := known_some (by rw [show tabI.length = 20 from rfl]; omega) hn h40
   rw [e]
   have q21 := Chg.step (l := 0) (h := 0) (Chg.zero (l := 0) (h := 0) ((cb2.t cwl7).t cb12)) cw14 (by omega)
   have q22 := Chg.step (l := 0) (h := 0) q21 cw17 (by omega)
   exact ⟨by simp [e2], q22⟩
  ·
   refine sx_skip ?_
   refine q_bn (q_n (k10 _ _ ?_))
   refine sx_region ?_
   refine sx_pure rfl rfl rfl (px_add rfl rfl (by omega)) ?_
   refine sm rfl rfl rfl rfl ?_
   refine wl_nil ?_
   have q23 := Chg.step (l := 0) (h := 0) (Chg.zero (l := 0) (h := 0) (cwl7.t cb12)) cw14 (by omega)
   exact fun a ha => ⟨_, by omega, (k + 1), ha.sub (Sub.cons (t := 0) rfl (.cons (t := 2) rfl (.cons (t := 6) rfl (.cons (t := 7) (look_int (t := 7) rfl (by first | omega | simp)) (.nil))))), q23, rfl, by omega, upto_succ hn h40⟩
 ·
  refine sx_exit ?_
  refine q_e (q_e (q_bx (q_n (k4 _ _ ?_))))
  refine sx_seq fun K24 k24 => sx_region ?_
  refine sx_pure rfl rfl rfl (px_build rfl (xbld93x  _)) ?_
  have f26 := fb2.ext cwl7
  refine sx_store (vs := [.string (⟨#[]⟩), .string (⟨#[]⟩), .int .i64 0, .int .i64 0]) rfl rfl f26 rfl Tryz.sizeOf93 (Nat.le_of_ble_eq_true rfl) (one_cons rfl (one_cons rfl (one_cons rfl (one_cons rfl one_nil)))) (fun w25 sw25 fw25 cw25 => ?_)
  have zw25 := cw25.size
  have gw25 : Blk w25 b2 [.string (⟨#[]⟩), .string (⟨#[]⟩), .int .i64 0, .int .i64 0] 93 := fw25
  refine sa rfl rfl rfl rfl ?_
  refine wl_nil (q_n (k24 _ _ ?_))
  refine sx_retc ?_
  refine sx_ret2 Tryz.results85 ⟨_, rfl, gw25.loadA (vs := [.string (⟨#[]⟩), .string (⟨#[]⟩), .int .i64 0, .int .i64 0]) (look_lit rfl) Tryz.isAgg93 Tryz.sizeOf93⟩ rfl ?_
  have e := curOf_none (s := s) (fun i hi => hn i (by rw [show tabI.length = 20 from rfl] at hi; omega))
  have e2 := known_none (s := s) (fun i hi => hn i (by rw [show tabI.length = 20 from rfl] at hi; omega))
  rw [e]
  have q27 := Chg.step (l := 0) (h := 0) (Chg.zero (l := 0) (h := 0) (cb2.t cwl7)) cw25 (by omega)
  exact ⟨by simp [e2, cr0], q27⟩

theorem c_iCurKnown {w : World} {s : ByteArray} (hG0 : Glob w) :
  Ret Tryz.prog 53 [.string s] w fun v w' => v = .bool (decide (Known s)) ∧ Chg 0 0 w w' := by
 refine sx_enter Tryz.func53 rfl Tryz.ntmps53 (Nat.le_of_ble_eq_true rfl) ?_
 refine sx_seq fun K1 k1 => sx_region ?_
 refine sa rfl rfl rfl rfl ?_
 refine wl_nil (q_n (k1 _ _ ?_))
 refine sx_seq fun K2 k2 => sx_region ?_
 refine sm rfl rfl rfl rfl ?_
 refine sx_call rfl rfl Tryz.call85 (c_currencyOf hG0) (fun v3 w3 p3 => ?_)
 obtain ⟨rfl, c3⟩ := p3
 have zw3 := c3.size
 refine sm rfl rfl rfl rfl ?_
 refine sx_pure rfl rfl rfl (px_extract (vs := [.agg #[.string ((curOf s).code), .string ((curOf s).number), .int .i64 ((curOf s).places), .int .i64 ((curOf s).cash)], .bool (decide (Known s))]) rfl rfl) ?_
 refine sx_pure rfl rfl rfl (px_extract (vs := [.agg #[.string ((curOf s).code), .string ((curOf s).number), .int .i64 ((curOf s).places), .int .i64 ((curOf s).cash)], .bool (decide (Known s))]) rfl rfl) ?_
 refine sx_alloc [.string (⟨#[]⟩), .string (⟨#[]⟩), .int .i64 0, .int .i64 0] rfl Tryz.zeroValue93 rfl (fun b4 w5 eb4 sb4 fb4 cb4 => ?_)
 have zw5 := cb4.size
 refine sx_store (vs := [.string ((curOf s).code), .string ((curOf s).number), .int .i64 ((curOf s).places), .int .i64 ((curOf s).cash)]) rfl rfl fb4 rfl Tryz.sizeOf93 (Nat.le_of_ble_eq_true rfl) (one_cons rfl (one_cons rfl (one_cons rfl (one_cons rfl one_nil)))) (fun w6 sw6 fw6 cw6 => ?_)
 have zw6 := cw6.size
 have gw6 : Blk w6 b4 [.string ((curOf s).code), .string ((curOf s).number), .int .i64 ((curOf s).places), .int .i64 ((curOf s).cash)] 93 := fw6
 refine sa rfl rfl rfl rfl ?_
 refine wl_nil (q_n (k2 _ _ ?_))
 refine sx_seq fun K7 k7 => sx_region ?_
 refine sm rfl rfl rfl rfl ?_
 refine sa rfl rfl rfl rfl ?_
 refine wl_nil (q_n (k7 _ _ ?_))
 refine sx_retc ?_
 refine sx_ret1 Tryz.results53 rfl ?_
 have q8 := Chg.step (l := 0) (h := 0) (Chg.zero (l := 0) (h := 0) (c3.t cb4)) cw6 (by omega)
 exact ⟨rfl, q8⟩

theorem c_iMoneyOk {w : World} {c1 : ByteArray} {n1 : Bool} {v1 : Value} {lv1 uv1 : Nat} {z1 : List Int} (hG0 : Glob w) (hv1 : Sl w lv1 uv1 v1 (z1)) (h63 : z1.length ≤ 4611686018427387904) :
  Ret Tryz.prog 35 [.agg #[.string c1, .bool n1, v1]] w fun v w' => v = .bool (decide (MOk c1 n1 z1)) ∧ Chg 0 0 w w' := by
 have hv10 := hv1.fit
 refine sx_enter Tryz.func35 rfl Tryz.ntmps35 (Nat.le_of_ble_eq_true rfl) ?_
 refine sx_seq fun K1 k1 => sx_region ?_
 refine sx_box [.string c1, .bool n1, v1] rfl rfl rfl (fun b2 w3 eb2 sb2 fb2 cb2 => ?_)
 have zw3 := cb2.size
 refine sa rfl rfl rfl rfl ?_
 refine wl_nil (q_n (k1 _ _ ?_))
 refine sx_seq fun K4 k4 => sx_region ?_
 refine sx_pure rfl rfl rfl (px_field rfl xfld30x0) ?_
 refine sx_pure rfl rfl rfl (px_load rfl (fb2.load1 rfl Tryz.isAgg9)) ?_
 have f5 := hG0.ext cb2
 refine sx_call rfl rfl Tryz.call53 (c_iCurKnown f5) (fun v6 w6 p6 => ?_)
 obtain ⟨rfl, c6⟩ := p6
 have zw6 := c6.size
 refine sm rfl rfl rfl rfl ?_
 refine sx_tmpP (t := 6) rfl (fun h14 => ?_) (fun h14 => ?_)
 ·
  refine sx_guardT rfl rfl rfl ?_
  refine sx_pure rfl rfl rfl (px_field rfl xfld30x1) ?_
  refine sx_guardT rfl rfl rfl ?_
  have f7 := fb2.ext c6
  refine sx_pure rfl rfl rfl (px_load rfl (f7.loadA (vs := [.bool n1, v1]) (look_lit rfl) Tryz.isAgg28 Tryz.sizeOf28)) ?_
  refine sx_guardT rfl rfl rfl ?_
  have f8 := hv10.ext cb2
  have f9 := f8.ext c6
  refine sx_call rfl rfl Tryz.call54 (c_iIntOk f9 (by omega)) (fun v10 w10 p10 => ?_)
  obtain ⟨rfl, c10⟩ := p10
  have zw10 := c10.size
  refine sx_pure rfl rfl rfl (px_pick rfl rfl) ?_
  refine sm rfl rfl rfl rfl ?_
  refine sx_tmpP (t := 11) rfl (fun h14x1 => ?_) (fun h14x1 => ?_)
  ·
   refine sx_guardT rfl rfl rfl ?_
   refine sx_pure rfl rfl rfl (px_field rfl xfld30x1) ?_
   refine sx_guardT rfl rfl rfl ?_
   refine sx_pure rfl rfl rfl (px_field rfl xfld28x1) ?_
   refine sx_guardT rfl rfl rfl ?_
   have f11 := f7.ext c10
   refine sx_pure rfl rfl rfl (px_load rfl (f11.load1 rfl Tryz.isAgg22)) ?_
   refine sx_guardT rfl rfl rfl ?_
   have f12 := f9.ext c10
   refine sx_pure rfl rfl rfl (px_len rfl Tryz.underlying22 f12) ?_
   refine sx_guardT rfl rfl rfl ?_
   refine sx_pure rfl rfl rfl (px_le rfl rfl) ?_
   refine sx_pure rfl rfl rfl (px_pick rfl rfl) ?_
   refine sa rfl rfl rfl rfl ?_
   refine wl_nil (q_n (k4 _ _ ?_))
   refine sx_sub (Sub.cons (t := 2) rfl (.nil)) ?_
   refine sx_retc ?_
   refine sx_ret1 Tryz.results35 rfl ?_
   exact ⟨(by first | exact bTrue (by grind [MOk]) | exact bFalse (by grind [MOk]) | exact bIff (by grind [MOk])), ((cb2.t c6).t c10)⟩
  ·
   refine sx_guardF rfl rfl rfl rfl rfl rfl ?_
   refine sx_guardF rfl rfl rfl rfl rfl rfl ?_
   refine sx_guardF rfl rfl rfl rfl rfl rfl ?_
   refine sx_guardF rfl rfl rfl rfl rfl rfl ?_
   refine sx_guardF rfl rfl rfl rfl rfl rfl ?_
   refine sx_pure rfl rfl rfl (px_pick rfl rfl) ?_
   refine sa rfl rfl rfl rfl ?_
   refine wl_nil (q_n (k4 _ _ ?_))
   refine sx_sub (Sub.cons (t := 2) rfl (.nil)) ?_
   refine sx_retc ?_
   refine sx_ret1 Tryz.results35 rfl ?_
   exact ⟨(by first | exact bTrue (by grind [MOk]) | exact bFalse (by grind [MOk]) | exact bIff (by grind [MOk])), ((cb2.t c6).t c10)⟩
 ·
  refine sx_guardF rfl rfl rfl rfl rfl rfl ?_
  refine sx_guardF rfl rfl rfl rfl rfl rfl ?_
  refine sx_guardF rfl rfl rfl rfl rfl rfl ?_
  refine sx_pure rfl rfl rfl (px_pick rfl rfl) ?_
  refine sm rfl rfl rfl rfl ?_
  refine sx_guardF rfl rfl rfl rfl rfl rfl ?_
  refine sx_guardF rfl rfl rfl rfl rfl rfl ?_
  refine sx_guardF rfl rfl rfl rfl rfl rfl ?_
  refine sx_guardF rfl rfl rfl rfl rfl rfl ?_
  refine sx_guardF rfl rfl rfl rfl rfl rfl ?_
  refine sx_pure rfl rfl rfl (px_pick rfl rfl) ?_
  refine sa rfl rfl rfl rfl ?_
  refine wl_nil (q_n (k4 _ _ ?_))
  refine sx_sub (Sub.cons (t := 2) rfl (.nil)) ?_
  refine sx_retc ?_
  refine sx_ret1 Tryz.results35 rfl ?_
  exact ⟨(by first | exact bTrue (by grind [MOk]) | exact bFalse (by grind [MOk]) | exact bIff (by grind [MOk])), (cb2.t c6)⟩

theorem c_moneyOf {w : World} {c : ByteArray} {va : Value} {lva uva : Nat} {x : Int} (hG0 : Glob w) (hva : OwnI w lva uva va intT (dg x.natAbs)) (hbx : (dg x.natAbs).length ≤ 1000) (hu : uva ≤ w.heap.size) :
  Ret Tryz.prog 21 [.string c, .agg #[.bool (ng x), va]] w fun v w' => ∃ s, v = .tuple #[.agg #[.string ((mR c x).1), .bool ((mR c x).2.1), s], .bool ((mR c x).2.2.2)] ∧ OwnI w' (lva) (uva) s intT ((mR c x).2.2.1) ∧ Chg 0 0 w w' := by
 refine sx_enter Tryz.func21 rfl Tryz.ntmps21 (Nat.le_of_ble_eq_true rfl) ?_
 refine sx_seq fun K1 k1 => sx_region ?_
 refine sx_box [.bool (ng x), va] rfl rfl rfl (fun b2 w3 eb2 sb2 fb2 cb2 => ?_)
 have zw3 := cb2.size
 refine sx_alloc [.string (⟨#[]⟩), .bool false, (.slice none 0 0)] rfl Tryz.zeroValue30 rfl (fun b4 w5 eb4 sb4 fb4 cb4 => ?_)
 have zw5 := cb4.size
 refine sa rfl rfl rfl rfl ?_
 refine wl_nil (q_n (k1 _ _ ?_))
 refine sx_seq fun K6 k6 => ?_
 refine sx_seq fun K7 k7 => sx_region ?_
 refine sm rfl rfl rfl rfl ?_
 have f8 := fb2.ext cb4
 refine sx_pure rfl rfl rfl (px_load rfl (f8.loadA (vs := [.bool (ng x), va]) (look_lit rfl) Tryz.isAgg28 Tryz.sizeOf28)) ?_
 refine sx_pure rfl rfl rfl (px_build rfl (xbld30x0x1 rfl _)) ?_
 refine sx_alloc [.string (⟨#[]⟩), .bool false, (.slice none 0 0)] rfl Tryz.zeroValue30 rfl (fun b9 w10 eb9 sb9 fb9 cb9 => ?_)
 have zw10 := cb9.size
 have f12 := hva.ext cb2
 have f13 := f12.ext cb4
 have f14 := f13.ext cb9
 refine sx_store (vs := [.string c, .bool (ng x), va]) rfl rfl fb9 rfl Tryz.sizeOf30 (Nat.le_of_ble_eq_true rfl) (one_cons rfl (one_cons rfl (one_cons f14.one one_nil))) (fun w11 sw11 fw11 cw11 => ?_)
 have zw11 := cw11.size
 have gw11 : Blk w11 b9 [.string c, .bool (ng x), va] 30 := fw11
 refine wl_nil (q_n (k7 _ _ ?_))
 refine sx_seq fun K15 k15 => sx_region ?_
 refine sx_pure rfl rfl rfl (px_load rfl (gw11.loadA (vs := [.string c, .bool (ng x), va]) (look_lit rfl) Tryz.isAgg30 Tryz.sizeOf30)) ?_
 have f16 := hG0.ext cb2
 have f17 := f16.ext cb4
 have f18 := f17.ext cb9
 have f19 := f18.chg cw11 (by omega)
 have f20 := f14.chg cw11 (by omega)
 refine sx_call rfl rfl Tryz.call35 (c_iMoneyOk f19 f20.sv (by omega)) (fun v21 w21 p21 => ?_)
 obtain ⟨rfl, c21⟩ := p21
 have zw21 := c21.size
 refine wl_nil (q_n (k15 _ _ ?_))
 refine sx_condP rfl (fun h19 => ?_) (fun h19 => ?_)
 ·
  refine sx_seq fun K22 k22 => sx_region ?_
  have f23 := gw11.ext c21
  refine sx_pure rfl rfl rfl (px_load rfl (f23.loadA (vs := [.string c, .bool (ng x), va]) (look_lit rfl) Tryz.isAgg30 Tryz.sizeOf30)) ?_
  have f25 := fb4.ext cb9
  have f26 := f25.chg cw11 (by omega)
  have f27 := f26.ext c21
  have f28 := f20.ext c21
  refine sx_store (vs := [.string c, .bool (ng x), va]) rfl rfl f27 rfl Tryz.sizeOf30 (Nat.le_of_ble_eq_true rfl) (one_cons rfl (one_cons rfl (one_cons f28.one one_nil))) (fun w24 sw24 fw24 cw24 => ?_)
  have zw24 := cw24.size
  have gw24 : Blk w24 b4 [.string c, .bool (ng x), va] 30 := fw24
  refine sa rfl rfl rfl rfl ?_
  refine wl_nil (q_n (k22 _ _ ?_))
  refine sx_retc ?_
  refine q_r (sx_ret2 Tryz.results21 ⟨_, rfl, gw24.loadA (vs := [.string c, .bool (ng x), va]) (look_lit rfl) Tryz.isAgg30 Tryz.sizeOf30⟩ rfl ?_)
  rw [mR_ok (by first | exact h19 | exact Decidable.not_not.1 h19)]
  have q29 := Chg.step (l := 0) (h := 0) (Chg.zero (l := 0) (h := 0) ((cb2.t cb4).t cb9)) cw11 (by omega)
  have q30 := Chg.step (l := 0) (h := 0) q29 c21 (by omega)
  have q31 := Chg.step (l := 0) (h := 0) q30 cw24 (by omega)
  have f32 := f28.chg cw24 (by omega)
  exact ⟨_, rfl, (Own.mono f32 (by omega) (by omega)), q31⟩
 ·
  refine sx_skip ?_
  refine q_n (k6 _ _ ?_)
  refine sx_seq fun K33 k33 => sx_region ?_
  refine sx_pure rfl rfl rfl (px_build rfl (xbld30x  _)) ?_
  have f35 := fb4.ext cb9
  have f36 := f35.chg cw11 (by omega)
  have f37 := f36.ext c21
  refine sx_store (vs := [.string (⟨#[]⟩), .bool false, (.slice none 0 0)]) rfl rfl f37 rfl Tryz.sizeOf30 (Nat.le_of_ble_eq_true rfl) (one_cons rfl (one_cons rfl (one_cons rfl one_nil))) (fun w34 sw34 fw34 cw34 => ?_)
  have zw34 := cw34.size
  have gw34 : Blk w34 b4 [.string (⟨#[]⟩), .bool false, (.slice none 0 0)] 30 := fw34
  refine sa rfl rfl rfl rfl ?_
  refine wl_nil (q_n (k33 _ _ ?_))
  refine sx_retc ?_
  refine sx_ret2 Tryz.results21 ⟨_, rfl, gw34.loadA (vs := [.string (⟨#[]⟩), .bool false, (.slice none 0 0)]) (look_lit rfl) Tryz.isAgg30 Tryz.sizeOf30⟩ rfl ?_
  rw [mR_no (by first | exact h19 | assumption)]
  have q38 := Chg.step (l := 0) (h := 0) (Chg.zero (l := 0) (h := 0) ((cb2.t cb4).t cb9)) cw11 (by omega)
  have q39 := Chg.step (l := 0) (h := 0) q38 c21 (by omega)
  have q40 := Chg.step (l := 0) (h := 0) q39 cw34 (by omega)
  exact ⟨_, rfl, Own.nil _ _ _ _ _, q40⟩

theorem c_iRatMoney {w : World} {cc : ByteArray} {n1 : Bool} {v1 : Value} {lv1 uv1 : Nat} {z1 : List Int} {d1 : Value} {ld1 ud1 : Nat} {y1 : List Int} {m : Int} (hG0 : Glob w) (hv1 : Sl w lv1 uv1 v1 (z1)) (hd1 : Sl w ld1 ud1 d1 (y1)) (h63 : z1.length ≤ 4611686018427387904 ∧ y1.length ≤ 4611686018427387904) :
  Ret Tryz.prog 7 [.string cc, .agg #[.bool n1, v1, d1], .int .i64 m] w fun v w' => ∃ s t u ls us lt ut lu uu, v = .tuple #[.agg #[.string ((rMon cc n1 z1 y1 m).1.1), .bool ((rMon cc n1 z1 y1 m).1.2.1), s], .agg #[.bool ((rMon cc n1 z1 y1 m).2.1.1), t, u], .bool ((rMon cc n1 z1 y1 m).2.2)] ∧ OwnI w' (ls) (us) s intT ((rMon cc n1 z1 y1 m).1.2.2) ∧ OwnI w' (lt) (ut) t intT ((rMon cc n1 z1 y1 m).2.1.2.1) ∧ OwnI w' (lu) (uu) u intT ((rMon cc n1 z1 y1 m).2.1.2.2) ∧ (w.heap.size ≤ ls ∧ us ≤ w'.heap.size ∧ w.heap.size ≤ lt ∧ ut ≤ w'.heap.size ∧ w.heap.size ≤ lu ∧ uu ≤ w'.heap.size ∧ us ≤ lt ∧ us ≤ lu ∧ (ut ≤ lu ∨ uu ≤ lt)) ∧ ((rMon cc n1 z1 y1 m).1.2.2.length ≤ 4 ∧ (rMon cc n1 z1 y1 m).2.1.2.1.length ≤ 18 ∧ (rMon cc n1 z1 y1 m).2.1.2.2.length ≤ 18) ∧ Chg 0 0 w w' := by
 have hv10 := hv1.fit
 have hd10 := hd1.fit
 obtain ⟨Q, hQ1, hQ2⟩ := rRest_int n1 z1 y1 m
 have hQl := (rRest_len (n := n1) (z := z1) (y := y1) (m := m)).1
 rw [hQ2] at hQl
 refine sx_enter Tryz.func7 rfl Tryz.ntmps7 (Nat.le_of_ble_eq_true rfl) ?_
 refine sx_seq fun K1 k1 => sx_region ?_
 refine sx_box [.bool n1, v1, d1] rfl rfl rfl (fun b2 w3 eb2 sb2 fb2 cb2 => ?_)
 have zw3 := cb2.size
 refine sx_alloc [.string (⟨#[]⟩), .bool false, (.slice none 0 0)] rfl Tryz.zeroValue30 rfl (fun b4 w5 eb4 sb4 fb4 cb4 => ?_)
 have zw5 := cb4.size
 refine sx_alloc [.bool false, (.slice none 0 0), (.slice none 0 0)] rfl Tryz.zeroValue32 rfl (fun b6 w7 eb6 sb6 fb6 cb6 => ?_)
 have zw7 := cb6.size
 refine sa rfl rfl rfl rfl ?_
 refine wl_nil (q_n (k1 _ _ ?_))
 refine sx_seq fun K8 k8 => sx_region ?_
 have f9 := fb2.ext cb4
 have f10 := f9.ext cb6
 refine sx_pure rfl rfl rfl (px_load rfl (f10.loadA (vs := [.bool n1, v1, d1]) (look_lit rfl) Tryz.isAgg32 Tryz.sizeOf32)) ?_
 refine sm rfl rfl rfl rfl ?_
 have f11 := hv10.ext cb2
 have f12 := f11.ext cb4
 have f13 := f12.ext cb6
 have f14 := hd10.ext cb2
 have f15 := f14.ext cb4
 have f16 := f15.ext cb6
 refine sx_call rfl rfl Tryz.call20 (c_iRatRest f13 f16 (by omega)) (fun v17 w17 p17 => ?_)
 obtain ⟨s17, t17, u17, ls17, us17, lt17, ut17, lu17, uu17, rfl, os_17, ot_17, ou_17, hd17, hl17, c17⟩ := p17
 have zw17 := c17.size
 refine sm rfl rfl rfl rfl ?_
 refine sx_pure rfl rfl rfl (px_extract (vs := [.agg #[.bool ((rRest n1 z1 y1 m).1.1), s17], .agg #[.bool ((rRest n1 z1 y1 m).2.1.1), t17, u17], .bool ((rRest n1 z1 y1 m).2.2)]) rfl rfl) ?_
 refine sx_pure rfl rfl rfl (px_extract (vs := [.agg #[.bool ((rRest n1 z1 y1 m).1.1), s17], .agg #[.bool ((rRest n1 z1 y1 m).2.1.1), t17, u17], .bool ((rRest n1 z1 y1 m).2.2)]) rfl rfl) ?_
 refine sx_pure rfl rfl rfl (px_extract (vs := [.agg #[.bool ((rRest n1 z1 y1 m).1.1), s17], .agg #[.bool ((rRest n1 z1 y1 m).2.1.1), t17, u17], .bool ((rRest n1 z1 y1 m).2.2)]) rfl rfl) ?_
 refine sx_alloc [.bool false, (.slice none 0 0)] rfl Tryz.zeroValue28 rfl (fun b18 w19 eb18 sb18 fb18 cb18 => ?_)
 have zw19 := cb18.size
 refine sx_alloc [.bool false, (.slice none 0 0), (.slice none 0 0)] rfl Tryz.zeroValue32 rfl (fun b20 w21 eb20 sb20 fb20 cb20 => ?_)
 have zw21 := cb20.size
 have f23 := fb18.ext cb20
 have f24 := os_17.ext cb18
 have f25 := f24.ext cb20
 refine sx_store (vs := [.bool ((rRest n1 z1 y1 m).1.1), s17]) rfl rfl f23 rfl Tryz.sizeOf28 (Nat.le_of_ble_eq_true rfl) (one_cons rfl (one_cons f25.one one_nil)) (fun w22 sw22 fw22 cw22 => ?_)
 have zw22 := cw22.size
 have gw22 : Blk w22 b18 [.bool ((rRest n1 z1 y1 m).1.1), s17] 28 := fw22
 have f27 := fb20.chg cw22 (by omega)
 have f28 := ou_17.ext cb18
 have f29 := f28.ext cb20
 have f30 := f29.chg cw22 (by omega)
 have f31 := ot_17.ext cb18
 have f32 := f31.ext cb20
 have f33 := f32.chg cw22 (by omega)
 refine sx_store (vs := [.bool ((rRest n1 z1 y1 m).2.1.1), t17, u17]) rfl rfl f27 rfl Tryz.sizeOf32 (Nat.le_of_ble_eq_true rfl) (one_cons rfl (one_cons f33.one (one_cons f30.one one_nil))) (fun w26 sw26 fw26 cw26 => ?_)
 have zw26 := cw26.size
 have gw26 : Blk w26 b20 [.bool ((rRest n1 z1 y1 m).2.1.1), t17, u17] 32 := fw26
 refine sa rfl rfl rfl rfl ?_
 refine wl_nil (q_n (k8 _ _ ?_))
 refine sx_sub (Sub.cons (t := 0) rfl (.cons (t := 6) rfl (.cons (t := 7) rfl (.cons (t := 8) rfl (.cons (t := 9) rfl (.cons (t := 10) rfl (.cons (t := 11) rfl (.nil)))))))) ?_
 refine sx_seq fun K34 k34 => ?_
 refine sx_seq fun K35 k35 => sx_region ?_
 refine sm rfl rfl rfl rfl ?_
 refine sx_pure rfl rfl rfl (px_not rfl) ?_
 refine wl_nil (q_n (k35 _ _ ?_))
 refine sx_condB rfl (fun h107 => ?_) (fun h107 => ?_)
 ·
  refine sx_seq fun K36 k36 => sx_region ?_
  refine sx_pure rfl rfl rfl (px_build rfl (xbld30x  _)) ?_
  refine sx_pure rfl rfl rfl (px_build rfl (xbld32x  _)) ?_
  have f38 := fb4.ext cb6
  have f39 := f38.ext c17
  have f40 := f39.ext cb18
  have f41 := f40.ext cb20
  have f42 := f41.chg cw22 (by omega)
  have f43 := f42.chg cw26 (by omega)
  refine sx_store (vs := [.string (⟨#[]⟩), .bool false, (.slice none 0 0)]) rfl rfl f43 rfl Tryz.sizeOf30 (Nat.le_of_ble_eq_true rfl) (one_cons rfl (one_cons rfl (one_cons rfl one_nil))) (fun w37 sw37 fw37 cw37 => ?_)
  have zw37 := cw37.size
  have gw37 : Blk w37 b4 [.string (⟨#[]⟩), .bool false, (.slice none 0 0)] 30 := fw37
  have f45 := fb6.ext c17
  have f46 := f45.ext cb18
  have f47 := f46.ext cb20
  have f48 := f47.chg cw22 (by omega)
  have f49 := f48.chg cw26 (by omega)
  have f50 := f49.chg cw37 (by omega)
  refine sx_store (vs := [.bool false, (.slice none 0 0), (.slice none 0 0)]) rfl rfl f50 rfl Tryz.sizeOf32 (Nat.le_of_ble_eq_true rfl) (one_cons rfl (one_cons rfl (one_cons rfl one_nil))) (fun w44 sw44 fw44 cw44 => ?_)
  have zw44 := cw44.size
  have gw44 : Blk w44 b6 [.bool false, (.slice none 0 0), (.slice none 0 0)] 32 := fw44
  refine sa rfl rfl rfl rfl ?_
  refine wl_nil (q_n (k36 _ _ ?_))
  refine sx_retc ?_
  have f51 := gw37.chg cw44 (by omega)
  refine q_r (sx_ret3 Tryz.results7 ⟨_, rfl, f51.loadA (vs := [.string (⟨#[]⟩), .bool false, (.slice none 0 0)]) (look_lit rfl) Tryz.isAgg30 Tryz.sizeOf30⟩ ⟨_, rfl, gw44.loadA (vs := [.bool false, (.slice none 0 0), (.slice none 0 0)]) (look_lit rfl) Tryz.isAgg32 Tryz.sizeOf32⟩ rfl ?_)
  rw [rMon_no hQ1 hQ2 (fun hh => by first | exact bcl hh.1 h107 | exact bcl hh.2 h111)]
  have q52 := Chg.step (l := 0) (h := 0) (Chg.zero (l := 0) (h := 0) (((((cb2.t cb4).t cb6).t c17).t cb18).t cb20)) cw22 (by omega)
  have q53 := Chg.step (l := 0) (h := 0) q52 cw26 (by omega)
  have q54 := Chg.step (l := 0) (h := 0) q53 cw37 (by omega)
  have q55 := Chg.step (l := 0) (h := 0) q54 cw44 (by omega)
  exact ⟨_, _, _, w.heap.size, w.heap.size, w.heap.size, w.heap.size, w.heap.size, w.heap.size, rfl, Own.nil _ _ _ _ _, Own.nil _ _ _ _ _, Own.nil _ _ _ _ _, by omega, ⟨by simp, by simp, by simp⟩, q55⟩
 ·
  refine sx_skip ?_
  refine q_n (k34 _ _ ?_)
  refine sx_seq fun K56 k56 => ?_
  have f57 := f25.chg cw22 (by omega)
  have f58 := f57.chg cw26 (by omega)
  have f59 := f58
  rw [hQ2] at f59
  have f60 := gw22.chg cw26 (by omega)
  have f61 := f60
  rw [hQ1] at f61
  refine sx_region ?_
  refine sm rfl rfl rfl rfl ?_
  refine sx_pure rfl rfl rfl (px_load rfl (f61.loadA (vs := [.bool (ng Q), s17]) (look_lit rfl) Tryz.isAgg28 Tryz.sizeOf28)) ?_
  have f62 := hG0.ext cb2
  have f63 := f62.ext cb4
  have f64 := f63.ext cb6
  have f65 := f64.ext c17
  have f66 := f65.ext cb18
  have f67 := f66.ext cb20
  have f68 := f67.chg cw22 (by omega)
  have f69 := f68.chg cw26 (by omega)
  refine sx_call rfl rfl Tryz.call21 (c_moneyOf f69 f59 (by omega) (by omega)) (fun v70 w70 p70 => ?_)
  obtain ⟨s70, rfl, os_70, c70⟩ := p70
  have zw70 := c70.size
  refine sm rfl rfl rfl rfl ?_
  refine sx_pure rfl rfl rfl (px_extract (vs := [.agg #[.string ((mR cc (Q)).1), .bool ((mR cc (Q)).2.1), s70], .bool ((mR cc (Q)).2.2.2)]) rfl rfl) ?_
  refine sx_pure rfl rfl rfl (px_extract (vs := [.agg #[.string ((mR cc (Q)).1), .bool ((mR cc (Q)).2.1), s70], .bool ((mR cc (Q)).2.2.2)]) rfl rfl) ?_
  refine sx_alloc [.string (⟨#[]⟩), .bool false, (.slice none 0 0)] rfl Tryz.zeroValue30 rfl (fun b71 w72 eb71 sb71 fb71 cb71 => ?_)
  have zw72 := cb71.size
  have f74 := os_70.ext cb71
  refine sx_store (vs := [.string ((mR cc (Q)).1), .bool ((mR cc (Q)).2.1), s70]) rfl rfl fb71 rfl Tryz.sizeOf30 (Nat.le_of_ble_eq_true rfl) (one_cons rfl (one_cons rfl (one_cons f74.one one_nil))) (fun w73 sw73 fw73 cw73 => ?_)
  have zw73 := cw73.size
  have gw73 : Blk w73 b71 [.string ((mR cc (Q)).1), .bool ((mR cc (Q)).2.1), s70] 30 := fw73
  refine sa rfl rfl rfl rfl ?_
  refine wl_nil (q_n (k56 _ _ ?_))
  refine sx_sub (Sub.cons (t := 6) rfl (.cons (t := 7) rfl (.cons (t := 8) rfl (.cons (t := 10) rfl (.cons (t := 11) rfl (.cons (t := 12) rfl (.nil))))))) ?_
  refine sx_seq fun K75 k75 => ?_
  refine sx_seq fun K76 k76 => sx_region ?_
  refine sm rfl rfl rfl rfl ?_
  refine sx_pure rfl rfl rfl (px_not rfl) ?_
  refine wl_nil (q_n (k76 _ _ ?_))
  refine sx_condB rfl (fun h111 => ?_) (fun h111 => ?_)
  ·
   refine sx_seq fun K77 k77 => sx_region ?_
   refine sx_pure rfl rfl rfl (px_build rfl (xbld30x  _)) ?_
   refine sx_pure rfl rfl rfl (px_build rfl (xbld32x  _)) ?_
   have f79 := fb4.ext cb6
   have f80 := f79.ext c17
   have f81 := f80.ext cb18
   have f82 := f81.ext cb20
   have f83 := f82.chg cw22 (by omega)
   have f84 := f83.chg cw26 (by omega)
   have f85 := f84.ext c70
   have f86 := f85.ext cb71
   have f87 := f86.chg cw73 (by omega)
   refine sx_store (vs := [.string (⟨#[]⟩), .bool false, (.slice none 0 0)]) rfl rfl f87 rfl Tryz.sizeOf30 (Nat.le_of_ble_eq_true rfl) (one_cons rfl (one_cons rfl (one_cons rfl one_nil))) (fun w78 sw78 fw78 cw78 => ?_)
   have zw78 := cw78.size
   have gw78 : Blk w78 b4 [.string (⟨#[]⟩), .bool false, (.slice none 0 0)] 30 := fw78
   have f89 := fb6.ext c17
   have f90 := f89.ext cb18
   have f91 := f90.ext cb20
   have f92 := f91.chg cw22 (by omega)
   have f93 := f92.chg cw26 (by omega)
   have f94 := f93.ext c70
   have f95 := f94.ext cb71
   have f96 := f95.chg cw73 (by omega)
   have f97 := f96.chg cw78 (by omega)
   refine sx_store (vs := [.bool false, (.slice none 0 0), (.slice none 0 0)]) rfl rfl f97 rfl Tryz.sizeOf32 (Nat.le_of_ble_eq_true rfl) (one_cons rfl (one_cons rfl (one_cons rfl one_nil))) (fun w88 sw88 fw88 cw88 => ?_)
   have zw88 := cw88.size
   have gw88 : Blk w88 b6 [.bool false, (.slice none 0 0), (.slice none 0 0)] 32 := fw88
   refine sa rfl rfl rfl rfl ?_
   refine wl_nil (q_n (k77 _ _ ?_))
   refine sx_retc ?_
   have f98 := gw78.chg cw88 (by omega)
   refine q_r (sx_ret3 Tryz.results7 ⟨_, rfl, f98.loadA (vs := [.string (⟨#[]⟩), .bool false, (.slice none 0 0)]) (look_lit rfl) Tryz.isAgg30 Tryz.sizeOf30⟩ ⟨_, rfl, gw88.loadA (vs := [.bool false, (.slice none 0 0), (.slice none 0 0)]) (look_lit rfl) Tryz.isAgg32 Tryz.sizeOf32⟩ rfl ?_)
   rw [rMon_no hQ1 hQ2 (fun hh => by first | exact bcl hh.1 h107 | exact bcl hh.2 h111)]
   have q99 := Chg.step (l := 0) (h := 0) (Chg.zero (l := 0) (h := 0) (((((cb2.t cb4).t cb6).t c17).t cb18).t cb20)) cw22 (by omega)
   have q100 := Chg.step (l := 0) (h := 0) q99 cw26 (by omega)
   have q101 := Chg.step (l := 0) (h := 0) q100 (c70.t cb71) (by omega)
   have q102 := Chg.step (l := 0) (h := 0) q101 cw73 (by omega)
   have q103 := Chg.step (l := 0) (h := 0) q102 cw78 (by omega)
   have q104 := Chg.step (l := 0) (h := 0) q103 cw88 (by omega)
   exact ⟨_, _, _, w.heap.size, w.heap.size, w.heap.size, w.heap.size, w.heap.size, w.heap.size, rfl, Own.nil _ _ _ _ _, Own.nil _ _ _ _ _, Own.nil _ _ _ _ _, by omega, ⟨by simp, by simp, by simp⟩, q104⟩
  ·
   refine sx_skip ?_
   refine q_n (k75 _ _ ?_)
   refine sx_seq fun K105 k105 => ?_
   have f106 := f69.ext c70
   have f107 := f106.ext cb71
   have f108 := f107.chg cw73 (by omega)
   have f109 := f10.ext c17
   have f110 := f109.ext cb18
   have f111 := f110.ext cb20
   have f112 := f111.chg cw22 (by omega)
   have f113 := f112.chg cw26 (by omega)
   have f114 := f113.ext c70
   have f115 := f114.ext cb71
   have f116 := f115.chg cw73 (by omega)
   have f117 := f61.ext c70
   have f118 := f117.ext cb71
   have f119 := f118.chg cw73 (by omega)
   have f120 := gw26.ext c70
   have f121 := f120.ext cb71
   have f122 := f121.chg cw73 (by omega)
   have f123 := f13.ext c17
   have f124 := f123.ext cb18
   have f125 := f124.ext cb20
   have f126 := f125.chg cw22 (by omega)
   have f127 := f126.chg cw26 (by omega)
   have f128 := f127.ext c70
   have f129 := f128.ext cb71
   have f130 := f129.chg cw73 (by omega)
   have f131 := f16.ext c17
   have f132 := f131.ext cb18
   have f133 := f132.ext cb20
   have f134 := f133.chg cw22 (by omega)
   have f135 := f134.chg cw26 (by omega)
   have f136 := f135.ext c70
   have f137 := f136.ext cb71
   have f138 := f137.chg cw73 (by omega)
   have f139 := f59.ext c70
   have f140 := f139.ext cb71
   have f141 := f140.chg cw73 (by omega)
   have f142 := f33.chg cw26 (by omega)
   have f143 := f142.ext c70
   have f144 := f143.ext cb71
   have f145 := f144.chg cw73 (by omega)
   have f146 := f30.chg cw26 (by omega)
   have f147 := f146.ext c70
   have f148 := f147.ext cb71
   have f149 := f148.chg cw73 (by omega)
   have f150 := f74.chg cw73 (by omega)
   refine dx_region (fun w' => Chg b4 (b6 + 1) w73 w') (by kernel_rfl) (Chg.zero (Chg.drew _)) ?_
   have d151 := Chg.drew w73
   have s151 : Chg b4 (b6 + 1) w73 (World.drew w73) := Chg.zero (Chg.drew _)
   have y151 : (World.drew w73).heap.size = w73.heap.size := rfl
   generalize World.drew w73 = w151 at *
   have zw151 := d151.size
   refine dx_take 0 rfl rfl rfl rfl (by kernel_rfl) (by kernel_rfl) (by kernel_rfl) s151 (fun _ hS => px_load rfl ((gw73.chg hS (by omega)).loadA (vs := [.string ((mR cc (Q)).1), .bool ((mR cc (Q)).2.1), s70]) (look_lit rfl) Tryz.isAgg30 Tryz.sizeOf30)) ?_
   refine dx_take 1 rfl rfl rfl rfl (by kernel_rfl) (by kernel_rfl) (by kernel_rfl) s151 (fun _ hS => px_load rfl ((f122.chg hS (by omega)).loadA (vs := [.bool ((rRest n1 z1 y1 m).2.1.1), t17, u17]) (look_lit rfl) Tryz.isAgg32 Tryz.sizeOf32)) ?_
   refine dx_eff 2 rfl (by kernel_rfl) ?_
   have f153 := fb4.ext cb6
   have f154 := f153.ext c17
   have f155 := f154.ext cb18
   have f156 := f155.ext cb20
   have f157 := f156.chg cw22 (by omega)
   have f158 := f157.chg cw26 (by omega)
   have f159 := f158.ext c70
   have f160 := f159.ext cb71
   have f161 := f160.chg cw73 (by omega)
   have f162 := f161.ext d151
   have f163 := f150.ext d151
   refine sx_store (vs := [.string ((mR cc (Q)).1), .bool ((mR cc (Q)).2.1), s70]) rfl rfl f162 rfl Tryz.sizeOf30 (Nat.le_of_ble_eq_true rfl) (one_cons rfl (one_cons rfl (one_cons f163.one one_nil))) (fun w152 sw152 fw152 cw152 => ?_)
   have zw152 := cw152.size
   have gw152 : Blk w152 b4 [.string ((mR cc (Q)).1), .bool ((mR cc (Q)).2.1), s70] 30 := fw152
   have q165 := Chg.step (l := b4) (h := (b6 + 1)) (Chg.zero (l := b4) (h := (b6 + 1)) d151) cw152 (by omega)
   have s164 : Chg b4 (b6 + 1) w73 w152 := q165
   refine wl_nil ?_
   refine dx_next s164 ?_
   refine dx_eff 3 rfl (by kernel_rfl) ?_
   have f167 := fb6.ext c17
   have f168 := f167.ext cb18
   have f169 := f168.ext cb20
   have f170 := f169.chg cw22 (by omega)
   have f171 := f170.chg cw26 (by omega)
   have f172 := f171.ext c70
   have f173 := f172.ext cb71
   have f174 := f173.chg cw73 (by omega)
   have f175 := f174.ext d151
   have f176 := f175.chg cw152 (by omega)
   have f177 := f149.ext d151
   have f178 := f177.chg cw152 (by omega)
   have f179 := f145.ext d151
   have f180 := f179.chg cw152 (by omega)
   refine sx_store (vs := [.bool ((rRest n1 z1 y1 m).2.1.1), t17, u17]) rfl rfl f176 rfl Tryz.sizeOf32 (Nat.le_of_ble_eq_true rfl) (one_cons rfl (one_cons f180.one (one_cons f178.one one_nil))) (fun w166 sw166 fw166 cw166 => ?_)
   have zw166 := cw166.size
   have gw166 : Blk w166 b6 [.bool ((rRest n1 z1 y1 m).2.1.1), t17, u17] 32 := fw166
   have q182 := Chg.step (l := b4) (h := (b6 + 1)) (Chg.zero (l := b4) (h := (b6 + 1)) d151) cw152 (by omega)
   have q183 := Chg.step (l := b4) (h := (b6 + 1)) q182 cw166 (by omega)
   have s181 : Chg b4 (b6 + 1) w73 w166 := q183
   refine wl_nil ?_
   refine dx_next s181 ?_
   refine dx_take 4 rfl rfl rfl rfl (by kernel_rfl) (by kernel_rfl) (by kernel_rfl) s181 (fun _ hS => px_assign rfl) ?_
   refine dx_done (by kernel_rfl) ?_
   refine q_n (k105 _ _ ?_)
   refine sx_retc ?_
   have f184 := gw152.chg cw166 (by omega)
   refine sx_ret3 Tryz.results7 ⟨_, rfl, f184.loadA (vs := [.string ((mR cc (Q)).1), .bool ((mR cc (Q)).2.1), s70]) (look_lit rfl) Tryz.isAgg30 Tryz.sizeOf30⟩ ⟨_, rfl, gw166.loadA (vs := [.bool ((rRest n1 z1 y1 m).2.1.1), t17, u17]) (look_lit rfl) Tryz.isAgg32 Tryz.sizeOf32⟩ rfl ?_
   have hrl := rMon_len (c := cc) (n := n1) (z := z1) (y := y1) (m := m)
   rw [rMon_ok hQ1 hQ2 (bnot_f h107) (bnot_f h111)] at hrl ⊢
   have q185 := Chg.step (l := 0) (h := 0) (Chg.zero (l := 0) (h := 0) (((((cb2.t cb4).t cb6).t c17).t cb18).t cb20)) cw22 (by omega)
   have q186 := Chg.step (l := 0) (h := 0) q185 cw26 (by omega)
   have q187 := Chg.step (l := 0) (h := 0) q186 (c70.t cb71) (by omega)
   have q188 := Chg.step (l := 0) (h := 0) q187 cw73 (by omega)
   have q189 := Chg.step (l := 0) (h := 0) q188 d151 (by omega)
   have q190 := Chg.step (l := 0) (h := 0) q189 cw152 (by omega)
   have q191 := Chg.step (l := 0) (h := 0) q190 cw166 (by omega)
   have f192 := f163.chg cw152 (by omega)
   have f193 := f192.chg cw166 (by omega)
   have f194 := f180.chg cw166 (by omega)
   have f195 := f178.chg cw166 (by omega)
   exact ⟨_, _, _, _, _, _, _, _, _, rfl, f193, f194, f195, by omega, hrl, q191⟩

theorem c_eqIntS {w : World} {va : Value} {lva uva : Nat} {zs : List Int} {vb : Value} {lvb uvb : Nat} {ys : List Int} (hva : Sl w lva uva va (zs)) (hvb : Sl w lvb uvb vb (ys)) (h63 : zs.length ≤ 4611686018427387904 ∧ ys.length ≤ 4611686018427387904) :
  Ret Tryz.prog 23 [va, vb] w fun v w' => v = .bool (decide (zs = ys)) ∧ Chg 0 0 w w' := by
 have hva0 := hva.fit
 have hvb0 := hvb.fit
 have hneq : zs.length ≠ ys.length → zs ≠ ys := fun h e => h (by rw [e])
 refine sx_enter Tryz.func23 rfl Tryz.ntmps23 (Nat.le_of_ble_eq_true rfl) ?_
 refine sx_seq fun K1 k1 => sx_region ?_
 refine sa rfl rfl rfl rfl ?_
 refine wl_nil (q_n (k1 _ _ ?_))
 refine sx_seq fun K2 k2 => ?_
 refine sx_seq fun K3 k3 => sx_region ?_
 refine sm rfl rfl rfl rfl ?_
 refine sx_pure rfl rfl rfl (px_len rfl Tryz.underlying22 hva0) ?_
 refine sm rfl rfl rfl rfl ?_
 refine sx_pure rfl rfl rfl (px_len rfl Tryz.underlying22 hvb0) ?_
 refine sx_pure rfl rfl rfl (px_ne rfl rfl) ?_
 refine wl_nil (q_n (k3 _ _ ?_))
 refine sx_condP rfl (fun h210 => ?_) (fun h210 => ?_)
 ·
  refine sx_seq fun K4 k4 => sx_region ?_
  refine sa rfl rfl rfl rfl ?_
  refine wl_nil (q_n (k4 _ _ ?_))
  refine sx_retc ?_
  refine q_r (sx_ret1 Tryz.results23 rfl ?_)
  exact ⟨bFalse (hneq (by omega)), (Chg.refl 0 0 _)⟩
 ·
  refine sx_skip ?_
  refine q_n (k2 _ _ ?_)
  refine sx_seq fun K5 k5 => ?_
  refine sx_seq fun K6 k6 => sx_region ?_
  refine sa rfl rfl rfl rfl ?_
  refine wl_nil (q_n (k6 _ _ ?_))
  refine sx_block ?_
  refine sx_loop (fun mm aa w' => ∃ (k : Nat), Agr 26 [(0, va), (1, vb), (5, .int .i64 ↑k)] aa ∧ Chg 0 0 w w' ∧ (mm = zs.length - k) ∧ (k ≤ zs.length) ∧ (zs.take k = ys.take k)) (_) (fun a ha => ⟨0, ha.sub (Sub.cons (t := 0) rfl (.cons (t := 1) rfl (.cons (t := 5) (look_int (t := 5) rfl (by first | omega | simp)) (.nil)))), Chg.refl _ _ _, rfl, by omega, by simp⟩) ?_
  rintro mm aa wl7 ⟨k, hAwl7, cwl7, hm, hk, he⟩
  refine (show cw Tryz.prog 26 _ _ _ wl7 from ?_) aa hAwl7
  clear hAwl7
  have zwl7 := cwl7.size
  refine sx_seq fun K8 k8 => ?_
  refine sx_seq fun K9 k9 => sx_region ?_
  refine sm rfl rfl rfl rfl ?_
  refine sm rfl rfl rfl rfl ?_
  have f10 := hva0.ext cwl7
  refine sx_pure rfl rfl rfl (px_len rfl Tryz.underlying22 f10) ?_
  refine sx_pure rfl rfl rfl (px_lt rfl rfl) ?_
  refine wl_nil (q_n (k9 _ _ ?_))
  refine sx_condP rfl (fun h213 => ?_) (fun h213 => ?_)
  ·
   refine sx_skip ?_
   refine q_n (k8 _ _ ?_)
   refine sx_seq fun K11 k11 => ?_
   refine sx_block ?_
   refine sx_seq fun K12 k12 => ?_
   have f13 := hvb0.ext cwl7
   refine dx_region (fun w' => Chg 0 0 wl7 w') (by kernel_rfl) (Chg.zero (Chg.drew _)) ?_
   have d14 := Chg.drew wl7
   have s14 : Chg 0 0 wl7 (World.drew wl7) := Chg.zero (Chg.drew _)
   have y14 : (World.drew wl7).heap.size = wl7.heap.size := rfl
   generalize World.drew wl7 = w14 at *
   have zw14 := d14.size
   refine dx_take 0 rfl rfl rfl rfl (by kernel_rfl) (by kernel_rfl) (by kernel_rfl) s14 (fun _ hS => px_move rfl) ?_
   refine dx_take 1 rfl rfl rfl rfl (by kernel_rfl) (by kernel_rfl) (by kernel_rfl) s14 (fun _ hS => px_move rfl) ?_
   refine dx_take 2 rfl rfl rfl rfl (by kernel_rfl) (by kernel_rfl) (by kernel_rfl) s14 (fun _ hS => px_index1 (j := k) rfl rfl (by omega) Tryz.underlying22 Tryz.sizeOf3 ((f10).chg hS (by omega)) (by omega)) ?_
   refine dx_take 3 rfl rfl rfl rfl (by kernel_rfl) (by kernel_rfl) (by kernel_rfl) s14 (fun _ hS => px_load rfl (((f10).chg hS (by omega)).load1 (at_int (by omega)) Tryz.isAgg3)) ?_
   refine dx_take 4 rfl rfl rfl rfl (by kernel_rfl) (by kernel_rfl) (by kernel_rfl) s14 (fun _ hS => px_move rfl) ?_
   refine dx_take 5 rfl rfl rfl rfl (by kernel_rfl) (by kernel_rfl) (by kernel_rfl) s14 (fun _ hS => px_move rfl) ?_
   refine dx_take 6 rfl rfl rfl rfl (by kernel_rfl) (by kernel_rfl) (by kernel_rfl) s14 (fun _ hS => px_index1 (j := k) rfl rfl (by omega) Tryz.underlying22 Tryz.sizeOf3 ((f13).chg hS (by omega)) (by omega)) ?_
   refine dx_take 7 rfl rfl rfl rfl (by kernel_rfl) (by kernel_rfl) (by kernel_rfl) s14 (fun _ hS => px_load rfl (((f13).chg hS (by omega)).load1 (at_int (by omega)) Tryz.isAgg3)) ?_
   refine dx_take 8 rfl rfl rfl rfl (by kernel_rfl) (by kernel_rfl) (by kernel_rfl) s14 (fun _ hS => px_ne rfl rfl) ?_
   refine dx_done (by kernel_rfl) ?_
   refine q_n (k12 _ _ ?_)
   refine sx_sub (Sub.cons (t := 0) rfl (.cons (t := 1) rfl (.cons (t := 5) rfl (.cons (t := 25) rfl (.nil))))) ?_
   refine sx_condP rfl (fun h214 => ?_) (fun h214 => ?_)
   ·
    refine sx_seq fun K15 k15 => sx_region ?_
    refine sa rfl rfl rfl rfl ?_
    refine wl_nil (q_n (k15 _ _ ?_))
    refine sx_retc ?_
    refine q_br (q_r (q_r (q_br (q_r (sx_ret1 Tryz.results23 rfl ?_)))))
    exact ⟨bFalse (ne_of_getD h214), (cwl7.t d14)⟩
   ·
    refine sx_skip ?_
    refine q_bn (q_n (k11 _ _ ?_))
    refine sx_region ?_
    refine sm rfl rfl rfl rfl ?_
    refine sx_pure rfl rfl rfl (px_add rfl rfl (by omega)) ?_
    refine sa rfl rfl rfl rfl ?_
    refine wl_nil ?_
    exact fun a ha => ⟨_, by omega, (k + 1), ha.sub (Sub.cons (t := 0) rfl (.cons (t := 1) rfl (.cons (t := 5) (look_int (t := 5) rfl (by first | omega | simp)) (.nil)))), (cwl7.t d14), rfl, by omega, take_succ_eq he (by omega) (by omega) (Decidable.not_not.1 h214)⟩
  ·
   refine sx_exit ?_
   refine q_e (q_e (q_bx (q_n (k5 _ _ ?_))))
   refine sx_seq fun K16 k16 => sx_region ?_
   refine sa rfl rfl rfl rfl ?_
   refine wl_nil (q_n (k16 _ _ ?_))
   refine sx_retc ?_
   refine sx_ret1 Tryz.results23 rfl ?_
   have e1 : k = zs.length := by omega
   rw [e1, List.take_length, List.take_of_length_le (by omega)] at he
   exact ⟨bTrue he, cwl7⟩

theorem c_eqSigned {w : World} {n1 : Bool} {v1 : Value} {lv1 uv1 : Nat} {z1 : List Int} {n2 : Bool} {v2 : Value} {lv2 uv2 : Nat} {z2 : List Int} (hv1 : Sl w lv1 uv1 v1 (z1)) (hv2 : Sl w lv2 uv2 v2 (z2)) (h63 : z1.length ≤ 4611686018427387904 ∧ z2.length ≤ 4611686018427387904) :
  Ret Tryz.prog 22 [.agg #[.bool n1, v1], .agg #[.bool n2, v2]] w fun v w' => v = .bool (decide (n1 = n2 ∧ z1 = z2)) ∧ Chg 0 0 w w' := by
 have hv10 := hv1.fit
 have hv20 := hv2.fit
 refine sx_enter Tryz.func22 rfl Tryz.ntmps22 (Nat.le_of_ble_eq_true rfl) ?_
 refine sx_seq fun K1 k1 => sx_region ?_
 refine sx_box [.bool n1, v1] rfl rfl rfl (fun b2 w3 eb2 sb2 fb2 cb2 => ?_)
 have zw3 := cb2.size
 refine sx_box [.bool n2, v2] rfl rfl rfl (fun b4 w5 eb4 sb4 fb4 cb4 => ?_)
 have zw5 := cb4.size
 refine sa rfl rfl rfl rfl ?_
 refine wl_nil (q_n (k1 _ _ ?_))
 refine sx_seq fun K6 k6 => ?_
 refine sx_seq fun K7 k7 => sx_region ?_
 refine sx_pure rfl rfl rfl (px_field rfl xfld28x0) ?_
 have f8 := fb2.ext cb4
 refine sx_pure rfl rfl rfl (px_load rfl (f8.load1 rfl Tryz.isAgg4)) ?_
 refine sx_pure rfl rfl rfl (px_field rfl xfld28x0) ?_
 refine sx_pure rfl rfl rfl (px_load rfl (fb4.load1 rfl Tryz.isAgg4)) ?_
 refine sx_pure rfl rfl rfl (px_neB Tryz.underlying4 rfl rfl) ?_
 refine wl_nil (q_n (k7 _ _ ?_))
 refine sx_condB rfl (fun h263 => ?_) (fun h263 => ?_)
 ·
  refine sx_seq fun K9 k9 => sx_region ?_
  refine sa rfl rfl rfl rfl ?_
  refine wl_nil (q_n (k9 _ _ ?_))
  refine sx_retc ?_
  refine q_r (sx_ret1 Tryz.results22 rfl ?_)
  exact ⟨(by first | exact bTrue (by grind) | exact bFalse (by grind) | exact bIff (by grind)), (cb2.t cb4)⟩
 ·
  refine sx_skip ?_
  refine q_n (k6 _ _ ?_)
  refine sx_seq fun K10 k10 => ?_
  refine sx_seq fun K11 k11 => sx_region ?_
  refine sx_pure rfl rfl rfl (px_field rfl xfld28x1) ?_
  refine sx_pure rfl rfl rfl (px_load rfl (f8.load1 rfl Tryz.isAgg22)) ?_
  refine sx_pure rfl rfl rfl (px_field rfl xfld28x1) ?_
  refine sx_pure rfl rfl rfl (px_load rfl (fb4.load1 rfl Tryz.isAgg22)) ?_
  have f12 := hv10.ext cb2
  have f13 := f12.ext cb4
  have f14 := hv20.ext cb2
  have f15 := f14.ext cb4
  refine sx_call rfl rfl Tryz.call23 (c_eqIntS f13 f15 (by omega)) (fun v16 w16 p16 => ?_)
  obtain ⟨rfl, c16⟩ := p16
  have zw16 := c16.size
  refine sx_pure rfl rfl rfl (px_notP rfl) ?_
  refine wl_nil (q_n (k11 _ _ ?_))
  refine sx_sub (Sub.cons (t := 4) rfl (.cons (t := 15) rfl (.nil))) ?_
  refine sx_condP rfl (fun h266 => ?_) (fun h266 => ?_)
  ·
   refine sx_seq fun K17 k17 => sx_region ?_
   refine sa rfl rfl rfl rfl ?_
   refine wl_nil (q_n (k17 _ _ ?_))
   refine sx_retc ?_
   refine q_r (sx_ret1 Tryz.results22 rfl ?_)
   exact ⟨(by first | exact bTrue (by grind) | exact bFalse (by grind) | exact bIff (by grind)), ((cb2.t cb4).t c16)⟩
  ·
   refine sx_skip ?_
   refine q_n (k10 _ _ ?_)
   refine sx_seq fun K18 k18 => sx_region ?_
   refine sa rfl rfl rfl rfl ?_
   refine wl_nil (q_n (k18 _ _ ?_))
   refine sx_retc ?_
   refine sx_ret1 Tryz.results22 rfl ?_
   exact ⟨(by first | exact bTrue (by grind) | exact bFalse (by grind) | exact bIff (by grind)), ((cb2.t cb4).t c16)⟩

theorem c_eqMoney {w : World} {c1 : ByteArray} {n1 : Bool} {v1 : Value} {lv1 uv1 : Nat} {z1 : List Int} {c2 : ByteArray} {n2 : Bool} {v2 : Value} {lv2 uv2 : Nat} {z2 : List Int} (hv1 : Sl w lv1 uv1 v1 (z1)) (hv2 : Sl w lv2 uv2 v2 (z2)) (h63 : z1.length ≤ 4611686018427387904 ∧ z2.length ≤ 4611686018427387904) :
  Ret Tryz.prog 8 [.agg #[.string c1, .bool n1, v1], .agg #[.string c2, .bool n2, v2]] w fun v w' => v = .bool (decide (c1 = c2 ∧ n1 = n2 ∧ z1 = z2)) ∧ Chg 0 0 w w' := by
 have hv10 := hv1.fit
 have hv20 := hv2.fit
 refine sx_enter Tryz.func8 rfl Tryz.ntmps8 (Nat.le_of_ble_eq_true rfl) ?_
 refine sx_seq fun K1 k1 => sx_region ?_
 refine sx_box [.string c1, .bool n1, v1] rfl rfl rfl (fun b2 w3 eb2 sb2 fb2 cb2 => ?_)
 have zw3 := cb2.size
 refine sx_box [.string c2, .bool n2, v2] rfl rfl rfl (fun b4 w5 eb4 sb4 fb4 cb4 => ?_)
 have zw5 := cb4.size
 refine sa rfl rfl rfl rfl ?_
 refine wl_nil (q_n (k1 _ _ ?_))
 refine sx_seq fun K6 k6 => ?_
 refine sx_seq fun K7 k7 => sx_region ?_
 refine sx_pure rfl rfl rfl (px_field rfl xfld30x0) ?_
 have f8 := fb2.ext cb4
 refine sx_pure rfl rfl rfl (px_load rfl (f8.load1 rfl Tryz.isAgg9)) ?_
 refine sx_pure rfl rfl rfl (px_field rfl xfld30x0) ?_
 refine sx_pure rfl rfl rfl (px_load rfl (fb4.load1 rfl Tryz.isAgg9)) ?_
 refine sx_pure rfl rfl rfl (px_neS rfl rfl) ?_
 refine wl_nil (q_n (k7 _ _ ?_))
 refine sx_condP rfl (fun h447 => ?_) (fun h447 => ?_)
 ·
  refine sx_seq fun K9 k9 => sx_region ?_
  refine sa rfl rfl rfl rfl ?_
  refine wl_nil (q_n (k9 _ _ ?_))
  refine sx_retc ?_
  refine q_r (sx_ret1 Tryz.results8 rfl ?_)
  exact ⟨(by first | exact bTrue (by grind) | exact bFalse (by grind) | exact bIff (by grind)), (cb2.t cb4)⟩
 ·
  refine sx_skip ?_
  refine q_n (k6 _ _ ?_)
  refine sx_seq fun K10 k10 => ?_
  refine sx_seq fun K11 k11 => sx_region ?_
  refine sx_pure rfl rfl rfl (px_field rfl xfld30x1) ?_
  refine sx_pure rfl rfl rfl (px_load rfl (f8.loadA (vs := [.bool n1, v1]) (look_lit rfl) Tryz.isAgg28 Tryz.sizeOf28)) ?_
  refine sx_pure rfl rfl rfl (px_field rfl xfld30x1) ?_
  refine sx_pure rfl rfl rfl (px_load rfl (fb4.loadA (vs := [.bool n2, v2]) (look_lit rfl) Tryz.isAgg28 Tryz.sizeOf28)) ?_
  have f12 := hv10.ext cb2
  have f13 := f12.ext cb4
  have f14 := hv20.ext cb2
  have f15 := f14.ext cb4
  refine sx_call rfl rfl Tryz.call22 (c_eqSigned f13 f15 (by omega)) (fun v16 w16 p16 => ?_)
  obtain ⟨rfl, c16⟩ := p16
  have zw16 := c16.size
  refine sx_pure rfl rfl rfl (px_notP rfl) ?_
  refine wl_nil (q_n (k11 _ _ ?_))
  refine sx_sub (Sub.cons (t := 4) rfl (.cons (t := 15) rfl (.nil))) ?_
  refine sx_condP rfl (fun h450 => ?_) (fun h450 => ?_)
  ·
   refine sx_seq fun K17 k17 => sx_region ?_
   refine sa rfl rfl rfl rfl ?_
   refine wl_nil (q_n (k17 _ _ ?_))
   refine sx_retc ?_
   refine q_r (sx_ret1 Tryz.results8 rfl ?_)
   exact ⟨(by first | exact bTrue (by grind) | exact bFalse (by grind) | exact bIff (by grind)), ((cb2.t cb4).t c16)⟩
  ·
   refine sx_skip ?_
   refine q_n (k10 _ _ ?_)
   refine sx_seq fun K18 k18 => sx_region ?_
   refine sa rfl rfl rfl rfl ?_
   refine wl_nil (q_n (k18 _ _ ?_))
   refine sx_retc ?_
   refine sx_ret1 Tryz.results8 rfl ?_
   exact ⟨(by first | exact bTrue (by grind) | exact bFalse (by grind) | exact bIff (by grind)), ((cb2.t cb4).t c16)⟩

theorem c_eqRat {w : World} {n1 : Bool} {v1 : Value} {lv1 uv1 : Nat} {z1 : List Int} {d1 : Value} {ld1 ud1 : Nat} {y1 : List Int} {n2 : Bool} {v2 : Value} {lv2 uv2 : Nat} {z2 : List Int} {d2 : Value} {ld2 ud2 : Nat} {y2 : List Int} (hv1 : Sl w lv1 uv1 v1 (z1)) (hd1 : Sl w ld1 ud1 d1 (y1)) (hv2 : Sl w lv2 uv2 v2 (z2)) (hd2 : Sl w ld2 ud2 d2 (y2)) (h63 : z1.length ≤ 4611686018427387904 ∧ y1.length ≤ 4611686018427387904 ∧ z2.length ≤ 4611686018427387904 ∧ y2.length ≤ 4611686018427387904) :
  Ret Tryz.prog 9 [.agg #[.bool n1, v1, d1], .agg #[.bool n2, v2, d2]] w fun v w' => v = .bool (decide (n1 = n2 ∧ z1 = z2 ∧ y1 = y2)) ∧ Chg 0 0 w w' := by
 have hv10 := hv1.fit
 have hd10 := hd1.fit
 have hv20 := hv2.fit
 have hd20 := hd2.fit
 refine sx_enter Tryz.func9 rfl Tryz.ntmps9 (Nat.le_of_ble_eq_true rfl) ?_
 refine sx_seq fun K1 k1 => sx_region ?_
 refine sx_box [.bool n1, v1, d1] rfl rfl rfl (fun b2 w3 eb2 sb2 fb2 cb2 => ?_)
 have zw3 := cb2.size
 refine sx_box [.bool n2, v2, d2] rfl rfl rfl (fun b4 w5 eb4 sb4 fb4 cb4 => ?_)
 have zw5 := cb4.size
 refine sa rfl rfl rfl rfl ?_
 refine wl_nil (q_n (k1 _ _ ?_))
 refine sx_seq fun K6 k6 => ?_
 refine sx_seq fun K7 k7 => sx_region ?_
 refine sx_pure rfl rfl rfl (px_field rfl xfld32x0) ?_
 have f8 := fb2.ext cb4
 refine sx_pure rfl rfl rfl (px_load rfl (f8.loadA (vs := [.bool n1, v1]) (look_lit rfl) Tryz.isAgg28 Tryz.sizeOf28)) ?_
 refine sx_pure rfl rfl rfl (px_field rfl xfld32x0) ?_
 refine sx_pure rfl rfl rfl (px_load rfl (fb4.loadA (vs := [.bool n2, v2]) (look_lit rfl) Tryz.isAgg28 Tryz.sizeOf28)) ?_
 have f9 := hv10.ext cb2
 have f10 := f9.ext cb4
 have f11 := hv20.ext cb2
 have f12 := f11.ext cb4
 refine sx_call rfl rfl Tryz.call22 (c_eqSigned f10 f12 (by omega)) (fun v13 w13 p13 => ?_)
 obtain ⟨rfl, c13⟩ := p13
 have zw13 := c13.size
 refine sx_pure rfl rfl rfl (px_notP rfl) ?_
 refine wl_nil (q_n (k7 _ _ ?_))
 refine sx_condP rfl (fun h362 => ?_) (fun h362 => ?_)
 ·
  refine sx_seq fun K14 k14 => sx_region ?_
  refine sa rfl rfl rfl rfl ?_
  refine wl_nil (q_n (k14 _ _ ?_))
  refine sx_retc ?_
  refine q_r (sx_ret1 Tryz.results9 rfl ?_)
  exact ⟨(by first | exact bTrue (by grind) | exact bFalse (by grind) | exact bIff (by grind)), ((cb2.t cb4).t c13)⟩
 ·
  refine sx_skip ?_
  refine q_n (k6 _ _ ?_)
  refine sx_seq fun K15 k15 => ?_
  refine sx_seq fun K16 k16 => sx_region ?_
  refine sx_pure rfl rfl rfl (px_field rfl xfld32x1) ?_
  have f17 := f8.ext c13
  refine sx_pure rfl rfl rfl (px_load rfl (f17.load1 rfl Tryz.isAgg22)) ?_
  refine sx_pure rfl rfl rfl (px_field rfl xfld32x1) ?_
  have f18 := fb4.ext c13
  refine sx_pure rfl rfl rfl (px_load rfl (f18.load1 rfl Tryz.isAgg22)) ?_
  have f19 := hd10.ext cb2
  have f20 := f19.ext cb4
  have f21 := f20.ext c13
  have f22 := hd20.ext cb2
  have f23 := f22.ext cb4
  have f24 := f23.ext c13
  refine sx_call rfl rfl Tryz.call23 (c_eqIntS f21 f24 (by omega)) (fun v25 w25 p25 => ?_)
  obtain ⟨rfl, c25⟩ := p25
  have zw25 := c25.size
  refine sx_pure rfl rfl rfl (px_notP rfl) ?_
  refine wl_nil (q_n (k16 _ _ ?_))
  refine sx_sub (Sub.cons (t := 4) rfl (.cons (t := 16) rfl (.nil))) ?_
  refine sx_condP rfl (fun h365 => ?_) (fun h365 => ?_)
  ·
   refine sx_seq fun K26 k26 => sx_region ?_
   refine sa rfl rfl rfl rfl ?_
   refine wl_nil (q_n (k26 _ _ ?_))
   refine sx_retc ?_
   refine q_r (sx_ret1 Tryz.results9 rfl ?_)
   exact ⟨(by first | exact bTrue (by grind) | exact bFalse (by grind) | exact bIff (by grind)), (((cb2.t cb4).t c13).t c25)⟩
  ·
   refine sx_skip ?_
   refine q_n (k15 _ _ ?_)
   refine sx_seq fun K27 k27 => sx_region ?_
   refine sa rfl rfl rfl rfl ?_
   refine wl_nil (q_n (k27 _ _ ?_))
   refine sx_retc ?_
   refine sx_ret1 Tryz.results9 rfl ?_
   exact ⟨(by first | exact bTrue (by grind) | exact bFalse (by grind) | exact bIff (by grind)), (((cb2.t cb4).t c13).t c25)⟩

theorem c_markIntS {w : World} {va : Value} {lva uva : Nat} {zs : List Int} {n : Int} (hva : OwnI w lva uva va intT (zs)) (h63 : zs.length ≤ 1048576) (hn : 0 ≤ n ∧ n ≤ 4611686018427387904) :
  Ret Tryz.prog 25 [va, .int .i64 n] w fun v w' => v = .int .i64 (n + ↑(zs).length) ∧ OwnI w' (lva) (uva) va intT (mk n (zs).length) ∧ Chg lva uva w w' := by
 refine sx_enter Tryz.func25 rfl Tryz.ntmps25 (Nat.le_of_ble_eq_true rfl) ?_
 refine sx_seq fun K1 k1 => sx_region ?_
 refine sa rfl rfl rfl rfl ?_
 refine wl_nil (q_n (k1 _ _ ?_))
 refine sx_seq fun K2 k2 => ?_
 refine sx_seq fun K3 k3 => sx_region ?_
 refine sa rfl rfl rfl rfl ?_
 refine wl_nil (q_n (k3 _ _ ?_))
 refine sx_block ?_
 refine sx_loop (fun mm aa w' => ∃ (k : Nat) (os : List Int), Agr 19 [(0, va), (1, .int .i64 (n + ↑k)), (5, .int .i64 ↑k)] aa ∧ Chg lva uva w w' ∧ Own w' lva uva va intT os.length 1 (os.map (Value.int .i64)) ∧ (mm = zs.length - k) ∧ (k ≤ zs.length) ∧ (os.length = zs.length) ∧ (os.take k = mk n k)) (_) (fun a ha => ⟨0, zs, ha.sub (Sub.cons (t := 0) rfl (.cons (t := 1) (look_int (t := 1) rfl (by first | omega | simp)) (.cons (t := 5) (look_int (t := 5) rfl (by first | omega | simp)) (.nil)))), Chg.refl _ _ _, hva, rfl, by omega, rfl, rfl⟩) ?_
 rintro mm aa wl4 ⟨k, os, hAwl4, cwl4, hs_va, hm, hk, ho, he⟩
 refine (show cw Tryz.prog 19 _ _ _ wl4 from ?_) aa hAwl4
 clear hAwl4
 have zwl4 := cwl4.size
 refine sx_seq fun K5 k5 => ?_
 refine sx_seq fun K6 k6 => sx_region ?_
 refine sm rfl rfl rfl rfl ?_
 refine sm rfl rfl rfl rfl ?_
 refine sx_pure rfl rfl rfl (px_len rfl Tryz.underlying22 hs_va.sv) ?_
 refine sx_pure rfl rfl rfl (px_lt rfl rfl) ?_
 refine wl_nil (q_n (k6 _ _ ?_))
 refine sx_condP rfl (fun h222 => ?_) (fun h222 => ?_)
 ·
  refine sx_skip ?_
  refine q_n (k5 _ _ ?_)
  refine sx_seq fun K7 k7 => ?_
  refine sx_block ?_
  refine sx_seq fun K8 k8 => sx_region ?_
  refine sm rfl rfl rfl rfl ?_
  refine sm rfl rfl rfl rfl ?_
  refine sm rfl rfl rfl rfl ?_
  refine sx_pure rfl rfl rfl (px_index1 (j := k) rfl rfl (by omega) Tryz.underlying22 Tryz.sizeOf3 hs_va.sv (by omega)) ?_
  refine sx_storeO rfl rfl hs_va (by first | omega | (simp only [List.length_map]; omega)) Tryz.sizeOf3 rfl (fun w9 sw9 fw9 cw9 => ?_)
  have zw9 := cw9.size
  have nw9 := fw9.set
  refine wl_nil (q_n (k8 _ _ ?_))
  refine sx_region ?_
  refine sm rfl rfl rfl rfl ?_
  refine sx_pure rfl rfl rfl (px_add rfl rfl (by omega)) ?_
  refine sa rfl rfl rfl rfl ?_
  refine wl_nil ?_
  refine q_bn (q_n (k7 _ _ ?_))
  refine sx_region ?_
  refine sm rfl rfl rfl rfl ?_
  refine sx_pure rfl rfl rfl (px_add rfl rfl (by omega)) ?_
  refine sa rfl rfl rfl rfl ?_
  refine wl_nil ?_
  have q10 := Chg.step (l := lva) (h := uva) cwl4 cw9 (by omega)
  exact fun a ha => ⟨_, by omega, (k + 1), (os.set k (n + ↑k)), ha.sub (Sub.cons (t := 0) rfl (.cons (t := 1) (look_int (t := 1) rfl (by first | omega | simp)) (.cons (t := 5) (look_int (t := 5) rfl (by first | omega | simp)) (.nil)))), q10, (nw9.mono (by omega) (by omega)), rfl, by omega, by simp [ho], mk_set he (by omega)⟩
 ·
  refine sx_exit ?_
  refine q_e (q_e (q_bx (q_n (k2 _ _ ?_))))
  refine sx_seq fun K11 k11 => sx_region ?_
  refine sm rfl rfl rfl rfl ?_
  refine sa rfl rfl rfl rfl ?_
  refine wl_nil (q_n (k11 _ _ ?_))
  refine sx_retc ?_
  refine sx_ret1 Tryz.results25 rfl ?_
  have ek : k = zs.length := by omega
  subst ek
  rw [← ho, List.take_length, ho] at he
  subst he
  exact ⟨rfl, hs_va, cwl4⟩

theorem c_markSigned {w : World} {n1 : Bool} {v1 : Value} {lv1 uv1 : Nat} {z1 : List Int} {n : Int} (hv1 : OwnI w lv1 uv1 v1 intT (z1)) (h63 : z1.length ≤ 1048576) (hn : 0 ≤ n ∧ n ≤ 4611686018427387904) :
  Ret Tryz.prog 24 [.agg #[.bool n1, v1], .int .i64 n] w fun v w' => v = .int .i64 (n + ↑(z1).length) ∧ OwnI w' (lv1) (uv1) v1 intT (mk n (z1).length) ∧ Chg lv1 uv1 w w' := by
 refine sx_enter Tryz.func24 rfl Tryz.ntmps24 (Nat.le_of_ble_eq_true rfl) ?_
 refine sx_seq fun K1 k1 => sx_region ?_
 refine sx_box [.bool n1, v1] rfl rfl rfl (fun b2 w3 eb2 sb2 fb2 cb2 => ?_)
 have zw3 := cb2.size
 refine sa rfl rfl rfl rfl ?_
 refine wl_nil (q_n (k1 _ _ ?_))
 refine sx_seq fun K4 k4 => sx_region ?_
 refine sx_pure rfl rfl rfl (px_field rfl xfld28x1) ?_
 refine sx_pure rfl rfl rfl (px_load rfl (fb2.load1 rfl Tryz.isAgg22)) ?_
 refine sm rfl rfl rfl rfl ?_
 have f5 := hv1.ext cb2
 refine sx_call rfl rfl Tryz.call25 (c_markIntS f5 (by omega) (by omega)) (fun v6 w6 p6 => ?_)
 obtain ⟨rfl, ova_6, c6⟩ := p6
 have zw6 := c6.size
 refine sa rfl rfl rfl rfl ?_
 refine wl_nil (q_n (k4 _ _ ?_))
 refine sx_seq fun K7 k7 => sx_region ?_
 refine sm rfl rfl rfl rfl ?_
 refine sa rfl rfl rfl rfl ?_
 refine wl_nil (q_n (k7 _ _ ?_))
 refine sx_retc ?_
 refine sx_ret1 Tryz.results24 rfl ?_
 have q8 := Chg.step (l := lv1) (h := uv1) (Chg.zero (l := lv1) (h := uv1) cb2) c6 (by omega)
 exact ⟨rfl, ova_6, q8⟩

theorem c_markRat {w : World} {n1 : Bool} {v1 : Value} {lv1 uv1 : Nat} {z1 : List Int} {d1 : Value} {ld1 ud1 : Nat} {y1 : List Int} {n : Int} (hv1 : OwnI w lv1 uv1 v1 intT (z1)) (hd1 : OwnI w ld1 ud1 d1 intT (y1)) (h63 : z1.length ≤ 1048576 ∧ y1.length ≤ 1048576) (hn : 0 ≤ n ∧ n ≤ 4000000000000000000) (hdd : (uv1 ≤ ld1 ∨ ud1 ≤ lv1) ∧ uv1 ≤ w.heap.size ∧ ud1 ≤ w.heap.size) :
  Ret Tryz.prog 10 [.agg #[.bool n1, v1, d1], .int .i64 n] w fun v w' => v = .int .i64 (n + ↑(z1).length + ↑(y1).length) ∧ OwnI w' (lv1) (uv1) v1 intT (mk n (z1).length) ∧ OwnI w' (ld1) (ud1) d1 intT (mk (n + ↑(z1).length) (y1).length) ∧ Chg (min lv1 ld1) (max uv1 ud1) w w' := by
 refine sx_enter Tryz.func10 rfl Tryz.ntmps10 (Nat.le_of_ble_eq_true rfl) ?_
 refine sx_seq fun K1 k1 => sx_region ?_
 refine sx_box [.bool n1, v1, d1] rfl rfl rfl (fun b2 w3 eb2 sb2 fb2 cb2 => ?_)
 have zw3 := cb2.size
 refine sa rfl rfl rfl rfl ?_
 refine wl_nil (q_n (k1 _ _ ?_))
 refine sx_seq fun K4 k4 => sx_region ?_
 refine sx_pure rfl rfl rfl (px_field rfl xfld32x0) ?_
 refine sx_pure rfl rfl rfl (px_load rfl (fb2.loadA (vs := [.bool n1, v1]) (look_lit rfl) Tryz.isAgg28 Tryz.sizeOf28)) ?_
 refine sm rfl rfl rfl rfl ?_
 have f5 := hv1.ext cb2
 refine sx_call rfl rfl Tryz.call24 (c_markSigned f5 (by omega) (by omega)) (fun v6 w6 p6 => ?_)
 obtain ⟨rfl, ov1_6, c6⟩ := p6
 have zw6 := c6.size
 refine sa rfl rfl rfl rfl ?_
 refine wl_nil (q_n (k4 _ _ ?_))
 refine sx_seq fun K7 k7 => sx_region ?_
 refine sx_pure rfl rfl rfl (px_field rfl xfld32x1) ?_
 have f8 := fb2.chg c6 (by omega)
 refine sx_pure rfl rfl rfl (px_load rfl (f8.load1 rfl Tryz.isAgg22)) ?_
 refine sm rfl rfl rfl rfl ?_
 have f9 := hd1.ext cb2
 have f10 := f9.chg c6 (by omega)
 refine sx_call rfl rfl Tryz.call25 (c_markIntS f10 (by omega) (by omega)) (fun v11 w11 p11 => ?_)
 obtain ⟨rfl, ova_11, c11⟩ := p11
 have zw11 := c11.size
 refine sa rfl rfl rfl rfl ?_
 refine wl_nil (q_n (k7 _ _ ?_))
 refine sx_seq fun K12 k12 => sx_region ?_
 refine sm rfl rfl rfl rfl ?_
 refine sa rfl rfl rfl rfl ?_
 refine wl_nil (q_n (k12 _ _ ?_))
 refine sx_retc ?_
 refine sx_ret1 Tryz.results10 rfl ?_
 have f13 := ov1_6.chg c11 (by omega)
 have q14 := Chg.step (l := (min lv1 ld1)) (h := (max uv1 ud1)) (Chg.zero (l := (min lv1 ld1)) (h := (max uv1 ud1)) cb2) c6 (by omega)
 have q15 := Chg.step (l := (min lv1 ld1)) (h := (max uv1 ud1)) q14 c11 (by omega)
 exact ⟨rfl, f13, ova_11, q15⟩

theorem c_markMoney {w : World} {c1 : ByteArray} {n1 : Bool} {v1 : Value} {lv1 uv1 : Nat} {z1 : List Int} {n : Int} (hv1 : OwnI w lv1 uv1 v1 intT (z1)) (h63 : z1.length ≤ 1048576) (hn : 0 ≤ n ∧ n ≤ 4611686018427387904) :
  Ret Tryz.prog 11 [.agg #[.string c1, .bool n1, v1], .int .i64 n] w fun v w' => v = .int .i64 (n + ↑(z1).length) ∧ OwnI w' (lv1) (uv1) v1 intT (mk n (z1).length) ∧ Chg lv1 uv1 w w' := by
 refine sx_enter Tryz.func11 rfl Tryz.ntmps11 (Nat.le_of_ble_eq_true rfl) ?_
 refine sx_seq fun K1 k1 => sx_region ?_
 refine sx_box [.string c1, .bool n1, v1] rfl rfl rfl (fun b2 w3 eb2 sb2 fb2 cb2 => ?_)
 have zw3 := cb2.size
 refine sa rfl rfl rfl rfl ?_
 refine wl_nil (q_n (k1 _ _ ?_))
 refine sx_seq fun K4 k4 => sx_region ?_
 refine sx_pure rfl rfl rfl (px_field rfl xfld30x1) ?_
 refine sx_pure rfl rfl rfl (px_load rfl (fb2.loadA (vs := [.bool n1, v1]) (look_lit rfl) Tryz.isAgg28 Tryz.sizeOf28)) ?_
 refine sm rfl rfl rfl rfl ?_
 have f5 := hv1.ext cb2
 refine sx_call rfl rfl Tryz.call24 (c_markSigned f5 (by omega) (by omega)) (fun v6 w6 p6 => ?_)
 obtain ⟨rfl, ov1_6, c6⟩ := p6
 have zw6 := c6.size
 refine sa rfl rfl rfl rfl ?_
 refine wl_nil (q_n (k4 _ _ ?_))
 refine sx_seq fun K7 k7 => sx_region ?_
 refine sm rfl rfl rfl rfl ?_
 refine sa rfl rfl rfl rfl ?_
 refine wl_nil (q_n (k7 _ _ ?_))
 refine sx_retc ?_
 refine sx_ret1 Tryz.results11 rfl ?_
 have q8 := Chg.step (l := lv1) (h := uv1) (Chg.zero (l := lv1) (h := uv1) cb2) c6 (by omega)
 exact ⟨rfl, ov1_6, q8⟩

theorem c_heldIntS {w : World} {va : Value} {lva uva : Nat} {zs : List Int} {n : Int} (hva : Sl w lva uva va (zs)) (h63 : zs.length ≤ 1048576) (hn : 0 ≤ n ∧ n ≤ 4611686018427387904) (hz : zs = mk n zs.length) :
  Ret Tryz.prog 27 [va, .int .i64 n] w fun v w' => v = .int .i64 (n + ↑(zs).length) ∧ Chg 0 0 w w' := by
 have hva0 := hva.fit
 refine sx_enter Tryz.func27 rfl Tryz.ntmps27 (Nat.le_of_ble_eq_true rfl) ?_
 refine sx_seq fun K1 k1 => sx_region ?_
 refine sa rfl rfl rfl rfl ?_
 refine wl_nil (q_n (k1 _ _ ?_))
 refine sx_seq fun K2 k2 => ?_
 refine sx_seq fun K3 k3 => sx_region ?_
 refine sa rfl rfl rfl rfl ?_
 refine wl_nil (q_n (k3 _ _ ?_))
 refine sx_block ?_
 refine sx_loop (fun mm aa w' => ∃ (k : Nat), Agr 21 [(0, va), (1, .int .i64 (n + ↑k)), (5, .int .i64 ↑k)] aa ∧ Chg 0 0 w w' ∧ (mm = zs.length - k) ∧ (k ≤ zs.length)) (_) (fun a ha => ⟨0, ha.sub (Sub.cons (t := 0) rfl (.cons (t := 1) (look_int (t := 1) rfl (by first | omega | simp)) (.cons (t := 5) (look_int (t := 5) rfl (by first | omega | simp)) (.nil)))), Chg.refl _ _ _, rfl, by omega⟩) ?_
 rintro mm aa wl4 ⟨k, hAwl4, cwl4, hm, hk⟩
 refine (show cw Tryz.prog 21 _ _ _ wl4 from ?_) aa hAwl4
 clear hAwl4
 have zwl4 := cwl4.size
 refine sx_seq fun K5 k5 => ?_
 refine sx_seq fun K6 k6 => sx_region ?_
 refine sm rfl rfl rfl rfl ?_
 refine sm rfl rfl rfl rfl ?_
 have f7 := hva0.ext cwl4
 refine sx_pure rfl rfl rfl (px_len rfl Tryz.underlying22 f7) ?_
 refine sx_pure rfl rfl rfl (px_lt rfl rfl) ?_
 refine wl_nil (q_n (k6 _ _ ?_))
 refine sx_condP rfl (fun h230 => ?_) (fun h230 => ?_)
 ·
  refine sx_skip ?_
  refine q_n (k5 _ _ ?_)
  refine sx_seq fun K8 k8 => ?_
  refine sx_block ?_
  refine sx_seq fun K9 k9 => ?_
  refine sx_seq fun K10 k10 => sx_region ?_
  refine sm rfl rfl rfl rfl ?_
  refine sm rfl rfl rfl rfl ?_
  refine sx_pure rfl rfl rfl (px_index1 (j := k) rfl rfl (by omega) Tryz.underlying22 Tryz.sizeOf3 f7 (by omega)) ?_
  refine sx_pure rfl rfl rfl (px_load rfl (f7.load1 (at_int (by omega)) Tryz.isAgg3)) ?_
  refine sm rfl rfl rfl rfl ?_
  refine sx_pure rfl rfl rfl (px_ne rfl rfl) ?_
  refine wl_nil (q_n (k10 _ _ ?_))
  have h231 : ¬ (((zs).getD k 0 : Int) ≠ n + ↑k) := fun h => h (by rw [hz]; exact mk_getD (by omega))
  refine sx_condPF rfl h231 ?_
  refine sx_skip ?_
  refine q_n (k9 _ _ ?_)
  refine sx_region ?_
  refine sm rfl rfl rfl rfl ?_
  refine sx_pure rfl rfl rfl (px_add rfl rfl (by omega)) ?_
  refine sa rfl rfl rfl rfl ?_
  refine wl_nil ?_
  refine q_bn (q_n (k8 _ _ ?_))
  refine sx_sub (Sub.cons (t := 0) rfl (.cons (t := 1) rfl (.cons (t := 5) rfl (.nil)))) ?_
  refine sx_region ?_
  refine sm rfl rfl rfl rfl ?_
  refine sx_pure rfl rfl rfl (px_add rfl rfl (by omega)) ?_
  refine sa rfl rfl rfl rfl ?_
  refine wl_nil ?_
  exact fun a ha => ⟨_, by omega, (k + 1), ha.sub (Sub.cons (t := 0) rfl (.cons (t := 1) (look_int (t := 1) rfl (by first | omega | simp)) (.cons (t := 5) (look_int (t := 5) rfl (by first | omega | simp)) (.nil)))), cwl4, rfl, by omega⟩
 ·
  refine sx_exit ?_
  refine q_e (q_e (q_bx (q_n (k2 _ _ ?_))))
  refine sx_seq fun K11 k11 => sx_region ?_
  refine sm rfl rfl rfl rfl ?_
  refine sa rfl rfl rfl rfl ?_
  refine wl_nil (q_n (k11 _ _ ?_))
  refine sx_retc ?_
  refine sx_ret1 Tryz.results27 rfl ?_
  have ek : k = zs.length := by omega
  subst ek
  exact ⟨rfl, cwl4⟩

theorem c_heldSigned {w : World} {n1 : Bool} {v1 : Value} {lv1 uv1 : Nat} {z1 : List Int} {n : Int} (hv1 : Sl w lv1 uv1 v1 (z1)) (h63 : z1.length ≤ 1048576) (hn : 0 ≤ n ∧ n ≤ 4611686018427387904) (hz : z1 = mk n z1.length) :
  Ret Tryz.prog 26 [.agg #[.bool n1, v1], .int .i64 n] w fun v w' => v = .int .i64 (n + ↑(z1).length) ∧ Chg 0 0 w w' := by
 have hv10 := hv1.fit
 refine sx_enter Tryz.func26 rfl Tryz.ntmps26 (Nat.le_of_ble_eq_true rfl) ?_
 refine sx_seq fun K1 k1 => sx_region ?_
 refine sx_box [.bool n1, v1] rfl rfl rfl (fun b2 w3 eb2 sb2 fb2 cb2 => ?_)
 have zw3 := cb2.size
 refine sa rfl rfl rfl rfl ?_
 refine wl_nil (q_n (k1 _ _ ?_))
 refine sx_seq fun K4 k4 => sx_region ?_
 refine sx_pure rfl rfl rfl (px_field rfl xfld28x1) ?_
 refine sx_pure rfl rfl rfl (px_load rfl (fb2.load1 rfl Tryz.isAgg22)) ?_
 refine sm rfl rfl rfl rfl ?_
 have f5 := hv10.ext cb2
 refine sx_call rfl rfl Tryz.call27 (c_heldIntS f5 (by omega) (by omega) (by first | assumption | simp [mk_length])) (fun v6 w6 p6 => ?_)
 obtain ⟨rfl, c6⟩ := p6
 have zw6 := c6.size
 refine sa rfl rfl rfl rfl ?_
 refine wl_nil (q_n (k4 _ _ ?_))
 refine sx_seq fun K7 k7 => ?_
 refine sx_seq fun K8 k8 => sx_region ?_
 refine sm rfl rfl rfl rfl ?_
 refine sx_pure rfl rfl rfl (px_lt rfl rfl) ?_
 refine wl_nil (q_n (k8 _ _ ?_))
 have h279 : ¬ ((n + ↑(z1).length : Int) < 0) := by omega
 refine sx_condPF rfl h279 ?_
 refine sx_skip ?_
 refine q_n (k7 _ _ ?_)
 refine sx_seq fun K9 k9 => sx_region ?_
 refine sm rfl rfl rfl rfl ?_
 refine sa rfl rfl rfl rfl ?_
 refine wl_nil (q_n (k9 _ _ ?_))
 refine sx_retc ?_
 refine sx_ret1 Tryz.results26 rfl ?_
 exact ⟨rfl, (cb2.t c6)⟩

theorem c_heldMoney {w : World} {c1 : ByteArray} {n1 : Bool} {v1 : Value} {lv1 uv1 : Nat} {z1 : List Int} {n : Int} (hv1 : Sl w lv1 uv1 v1 (z1)) (h63 : z1.length ≤ 1048576) (hn : 0 ≤ n ∧ n ≤ 4611686018427387904) (hz : z1 = mk n z1.length) :
  Ret Tryz.prog 12 [.agg #[.string c1, .bool n1, v1], .int .i64 n] w fun v w' => v = .int .i64 (n + ↑(z1).length) ∧ Chg 0 0 w w' := by
 have hv10 := hv1.fit
 refine sx_enter Tryz.func12 rfl Tryz.ntmps12 (Nat.le_of_ble_eq_true rfl) ?_
 refine sx_seq fun K1 k1 => sx_region ?_
 refine sx_box [.string c1, .bool n1, v1] rfl rfl rfl (fun b2 w3 eb2 sb2 fb2 cb2 => ?_)
 have zw3 := cb2.size
 refine sa rfl rfl rfl rfl ?_
 refine wl_nil (q_n (k1 _ _ ?_))
 refine sx_seq fun K4 k4 => sx_region ?_
 refine sx_pure rfl rfl rfl (px_field rfl xfld30x1) ?_
 refine sx_pure rfl rfl rfl (px_load rfl (fb2.loadA (vs := [.bool n1, v1]) (look_lit rfl) Tryz.isAgg28 Tryz.sizeOf28)) ?_
 refine sm rfl rfl rfl rfl ?_
 have f5 := hv10.ext cb2
 refine sx_call rfl rfl Tryz.call26 (c_heldSigned f5 (by first | omega | (simp only [mk_length]; omega)) (by omega) (by first | assumption | simp [mk_length])) (fun v6 w6 p6 => ?_)
 obtain ⟨rfl, c6⟩ := p6
 have zw6 := c6.size
 refine sa rfl rfl rfl rfl ?_
 refine wl_nil (q_n (k4 _ _ ?_))
 refine sx_seq fun K7 k7 => ?_
 refine sx_seq fun K8 k8 => sx_region ?_
 refine sm rfl rfl rfl rfl ?_
 refine sx_pure rfl rfl rfl (px_lt rfl rfl) ?_
 refine wl_nil (q_n (k8 _ _ ?_))
 have h463 : ¬ ((n + ↑(z1).length : Int) < 0) := by omega
 refine sx_condPF rfl h463 ?_
 refine sx_skip ?_
 refine q_n (k7 _ _ ?_)
 refine sx_seq fun K9 k9 => sx_region ?_
 refine sm rfl rfl rfl rfl ?_
 refine sa rfl rfl rfl rfl ?_
 refine wl_nil (q_n (k9 _ _ ?_))
 refine sx_retc ?_
 refine sx_ret1 Tryz.results12 rfl ?_
 exact ⟨rfl, (cb2.t c6)⟩

theorem c_heldRat {w : World} {n1 : Bool} {v1 : Value} {lv1 uv1 : Nat} {z1 : List Int} {d1 : Value} {ld1 ud1 : Nat} {y1 : List Int} {n : Int} (hv1 : Sl w lv1 uv1 v1 (z1)) (hd1 : Sl w ld1 ud1 d1 (y1)) (h63 : z1.length ≤ 1048576 ∧ y1.length ≤ 1048576) (hn : 0 ≤ n ∧ n ≤ 4000000000000000000) (hz : z1 = mk n z1.length ∧ y1 = mk (n + ↑z1.length) y1.length) :
  Ret Tryz.prog 13 [.agg #[.bool n1, v1, d1], .int .i64 n] w fun v w' => v = .int .i64 (n + ↑(z1).length + ↑(y1).length) ∧ Chg 0 0 w w' := by
 have hv10 := hv1.fit
 have hd10 := hd1.fit
 have hz1 := hz.1
 have hz2 := hz.2
 refine sx_enter Tryz.func13 rfl Tryz.ntmps13 (Nat.le_of_ble_eq_true rfl) ?_
 refine sx_seq fun K1 k1 => sx_region ?_
 refine sx_box [.bool n1, v1, d1] rfl rfl rfl (fun b2 w3 eb2 sb2 fb2 cb2 => ?_)
 have zw3 := cb2.size
 refine sa rfl rfl rfl rfl ?_
 refine wl_nil (q_n (k1 _ _ ?_))
 refine sx_seq fun K4 k4 => sx_region ?_
 refine sx_pure rfl rfl rfl (px_field rfl xfld32x0) ?_
 refine sx_pure rfl rfl rfl (px_load rfl (fb2.loadA (vs := [.bool n1, v1]) (look_lit rfl) Tryz.isAgg28 Tryz.sizeOf28)) ?_
 refine sm rfl rfl rfl rfl ?_
 have f5 := hv10.ext cb2
 refine sx_call rfl rfl Tryz.call26 (c_heldSigned f5 (by first | omega | (simp only [mk_length]; omega)) (by omega) (by first | assumption | simp [mk_length])) (fun v6 w6 p6 => ?_)
 obtain ⟨rfl, c6⟩ := p6
 have zw6 := c6.size
 refine sa rfl rfl rfl rfl ?_
 refine wl_nil (q_n (k4 _ _ ?_))
 refine sx_seq fun K7 k7 => ?_
 refine sx_seq fun K8 k8 => sx_region ?_
 refine sm rfl rfl rfl rfl ?_
 refine sx_pure rfl rfl rfl (px_lt rfl rfl) ?_
 refine wl_nil (q_n (k8 _ _ ?_))
 have h379 : ¬ ((n + ↑(z1).length : Int) < 0) := by omega
 refine sx_condPF rfl h379 ?_
 refine sx_skip ?_
 refine q_n (k7 _ _ ?_)
 refine sx_seq fun K9 k9 => sx_region ?_
 refine sx_pure rfl rfl rfl (px_field rfl xfld32x1) ?_
 have f10 := fb2.ext c6
 refine sx_pure rfl rfl rfl (px_load rfl (f10.load1 rfl Tryz.isAgg22)) ?_
 refine sm rfl rfl rfl rfl ?_
 have f11 := hd10.ext cb2
 have f12 := f11.ext c6
 refine sx_call rfl rfl Tryz.call27 (c_heldIntS f12 (by omega) (by omega) (by first | assumption | simp [mk_length])) (fun v13 w13 p13 => ?_)
 obtain ⟨rfl, c13⟩ := p13
 have zw13 := c13.size
 refine sa rfl rfl rfl rfl ?_
 refine wl_nil (q_n (k9 _ _ ?_))
 refine sx_seq fun K14 k14 => ?_
 refine sx_seq fun K15 k15 => sx_region ?_
 refine sm rfl rfl rfl rfl ?_
 refine sx_pure rfl rfl rfl (px_lt rfl rfl) ?_
 refine wl_nil (q_n (k15 _ _ ?_))
 refine sx_sub (Sub.cons (t := 1) rfl (.cons (t := 4) rfl (.cons (t := 16) rfl (.nil)))) ?_
 have h383 : ¬ (((n + ↑(z1).length) + ↑(y1).length : Int) < 0) := by omega
 refine sx_condPF rfl h383 ?_
 refine sx_skip ?_
 refine q_n (k14 _ _ ?_)
 refine sx_seq fun K16 k16 => sx_region ?_
 refine sm rfl rfl rfl rfl ?_
 refine sa rfl rfl rfl rfl ?_
 refine wl_nil (q_n (k16 _ _ ?_))
 refine sx_retc ?_
 refine sx_ret1 Tryz.results13 rfl ?_
 exact ⟨rfl, ((cb2.t c6).t c13)⟩

end Go.Proofs.YtfoceofnldnbgaaGreatDoor
