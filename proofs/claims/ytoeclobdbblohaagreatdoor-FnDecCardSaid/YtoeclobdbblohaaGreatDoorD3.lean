/- Contracts of functions of the program: what each call returns, and that it changes nothing that was. Conditions: as each says. -/
import Derived.Test.YtoeclobdbblohaaGreatDoorTy
import Derived.Test.YtoeclobdbblohaaGreatDoorNatJ
import Derived.Test.YtoeclobdbblohaaGreatDoorSxB
import Derived.Test.YtoeclobdbblohaaGreatDoorPair
import Derived.Test.YtoeclobdbblohaaGreatDoorSxW
import Derived.Test.YtoeclobdbblohaaGreatDoorNatI
import Derived.Test.YtoeclobdbblohaaGreatDoorTab
import Derived.Test.YtoeclobdbblohaaGreatDoorLay
import Derived.Test.YtoeclobdbblohaaGreatDoorLayB
import Derived.Test.YtoeclobdbblohaaGreatDoorNatX
import Derived.Test.YtoeclobdbblohaaGreatDoorSxP
import Derived.Test.YtoeclobdbblohaaGreatDoorD0
import Derived.Test.YtoeclobdbblohaaGreatDoorD1
import Derived.Test.YtoeclobdbblohaaGreatDoorD2
import Derived.Test.YtoeclobdbblohaaGreatDoorNatDx
set_option linter.unusedVariables false
set_option linter.unusedSimpArgs false
namespace Go.Proofs.YtoeclobdbblohaaGreatDoor
open Go Go.RowKit
set_option maxRecDepth 100000
theorem c_ratNum {w : World} {va : Value} {lva uva : Nat} {x : Int} {vd : Value} {lvd uvd : Nat} {yy : List Int} {vb : Value} {lvb uvb : Nat} {b : Nat} (hva : Sl w lva uva va (dg x.natAbs)) (hvd : Sl w lvd uvd vd (yy)) (hvb : Sl w lvb uvb vb (dg b)) (hbx : (dg x.natAbs).length ≤ 1000) (hbb : (dg b).length ≤ 1000) :
  Ret Tryz.prog 48 [.agg #[.bool (ng x), va, vd], vb] w fun v w' => ∃ s, v = .agg #[.bool (ng (x * ((b : Nat) : Int))), s] ∧ OwnI w' w.heap.size w'.heap.size s intT (dg (x * ((b : Nat) : Int)).natAbs) ∧ Chg 0 0 w w' := by
 have hva0 := hva.fit
 have hvd0 := hvd.fit
 have hvb0 := hvb.fit
 have lmb := len_mul x.natAbs b
 refine sx_enter Tryz.func48 rfl Tryz.ntmps48 (nbl rfl) ?_
 refine sx_seq fun K1 k1 => sx_region ?_
 refine sx_box [.bool (ng x), va, vd] rfl rfl rfl (fun b2 w3 eb2 sb2 fb2 cb2 => ?_)
 have zw3 := cb2.size
 refine sx_alloc [.bool false, (.slice none 0 0)] rfl Tryz.zeroValue25 rfl (fun b4 w5 eb4 sb4 fb4 cb4 => ?_)
 have zw5 := cb4.size
 refine wl_nil (q_n (k1 _ _ ?_))
 refine sx_seq fun K6 k6 => ?_
 have f7 := fb2.ext cb4
 have f8 := hva0.ext cb2
 have f9 := f8.ext cb4
 have f10 := hvd0.ext cb2
 have f11 := f10.ext cb4
 have f12 := hvb0.ext cb2
 have f13 := f12.ext cb4
 refine dx_region (fun w' => Chg b4 (b4 + 1) w5 w') (by kernel_rfl) (Chg.zero (Chg.drew _)) ?_
 have d14 := Chg.drew w5
 have s14 : Chg b4 (b4 + 1) w5 (World.drew w5) := Chg.zero (Chg.drew _)
 have y14 : (World.drew w5).heap.size = w5.heap.size := rfl
 generalize World.drew w5 = w14 at *
 have zw14 := d14.size
 refine dt 0 rfl rfl rfl rfl s14 (fun _ hS => px_field rfl xfld37x0) ?_
 refine dt 1 rfl rfl rfl rfl s14 (fun _ hS => px_field rfl xfld25x0) ?_
 refine dt 2 rfl rfl rfl rfl s14 (fun _ hS => px_load rfl ((f7.chg hS (by omega)).load1 rfl Tryz.isAgg4)) ?_
 refine dt 3 rfl rfl rfl rfl s14 (fun _ hS => px_field rfl xfld37x0) ?_
 refine dt 4 rfl rfl rfl rfl s14 (fun _ hS => px_field rfl xfld25x1) ?_
 refine dt 5 rfl rfl rfl rfl s14 (fun _ hS => px_load rfl ((f7.chg hS (by omega)).load1 rfl Tryz.isAgg23)) ?_
 refine dt 6 rfl rfl rfl rfl s14 (fun _ hS => px_move rfl) ?_
 refine dx_eff 7 rfl (by kernel_rfl) ?_
 have f15 := f9.ext d14
 have f16 := f13.ext d14
 refine sx_call rfl rfl Tryz.call49 (c_natMul f15 f16 (by omega) (by omega)) (fun v17 w17 p17 => ?_)
 obtain ⟨s17, rfl, os_17, c17⟩ := p17
 have zw17 := c17.size
 have s18 : Chg b4 (b4 + 1) w5 w17 := (Chg.zero (l := b4) (h := (b4 + 1)) (d14.t c17))
 refine wl_nil ?_
 refine dx_next s18 ?_
 refine dx_eff 8 rfl (by kernel_rfl) ?_
 refine sx_call rfl rfl Tryz.call33 (c_signed os_17.sv (by omega)) (fun v19 w19 p19 => ?_)
 obtain ⟨rfl, c19⟩ := p19
 have zw19 := c19.size
 have s20 : Chg b4 (b4 + 1) w5 w19 := (Chg.zero (l := b4) (h := (b4 + 1)) ((d14.t c17).t c19))
 refine wl_nil ?_
 refine dx_next s20 ?_
 refine dx_eff 9 rfl (by kernel_rfl) ?_
 have f24 := ((fb4.ext d14).ext c17).ext c19
 have f25 := os_17.ext c19
 refine sx_store (vs := [.bool (nz (ng x) (dg (x.natAbs * b))), v17]) rfl rfl f24 rfl Tryz.sizeOf25 (nbl rfl) (one_cons rfl (one_cons f25.one one_nil)) (fun w21 sw21 fw21 cw21 => ?_)
 have zw21 := cw21.size
 have gw21 : Blk w21 b4 [.bool (nz (ng x) (dg (x.natAbs * b))), v17] 25 := fw21
 have q27 := Chg.step (l := b4) (h := (b4 + 1)) (Chg.zero (l := b4) (h := (b4 + 1)) ((d14.t c17).t c19)) cw21 (by omega)
 have s26 : Chg b4 (b4 + 1) w5 w21 := q27
 refine wl_nil ?_
 refine dx_next s26 ?_
 refine dx_done (by kernel_rfl) ?_
 refine q_n (k6 _ _ ?_)
 refine sx_retc ?_
 refine sx_ret1 Tryz.results48 ⟨_, rfl, gw21.loadA (vs := [.bool (nz (ng x) (dg (x.natAbs * b))), v17]) (look_lit rfl) Tryz.isAgg25 Tryz.sizeOf25⟩ ?_
 have hh := mul_nat_sg x b
 rw [← hh.1, ← hh.2]
 have q28 := Chg.step (l := 0) (h := 0) (Chg.zero (l := 0) (h := 0) ((((cb2.t cb4).t d14).t c17).t c19)) cw21 (by omega)
 have f29 := f25.chg cw21 (by omega)
 exact ⟨_, rfl, (Own.mono f29 (by omega) (by omega)), q28⟩

theorem c_iRatAdd {w : World} {n1 : Bool} {v1 : Value} {lv1 uv1 : Nat} {z1 : List Int} {d1 : Value} {ld1 ud1 : Nat} {y1 : List Int} {n2 : Bool} {v2 : Value} {lv2 uv2 : Nat} {z2 : List Int} {d2 : Value} {ld2 ud2 : Nat} {y2 : List Int} (hv1 : Sl w lv1 uv1 v1 (z1)) (hd1 : Sl w ld1 ud1 d1 (y1)) (hv2 : Sl w lv2 uv2 v2 (z2)) (hd2 : Sl w ld2 ud2 d2 (y2)) (h63 : z1.length ≤ 4611686018427387904 ∧ y1.length ≤ 4611686018427387904 ∧ z2.length ≤ 4611686018427387904 ∧ y2.length ≤ 4611686018427387904) :
  Ret Tryz.prog 17 [.agg #[.bool n1, v1, d1], .agg #[.bool n2, v2, d2]] w fun v w' => ∃ s t ls us lt ut, v = .tuple #[.agg #[.bool ((rAdd n1 z1 y1 n2 z2 y2).1), s, t], .bool ((rAdd n1 z1 y1 n2 z2 y2).2.2.2)] ∧ OwnI w' (ls) (us) s intT ((rAdd n1 z1 y1 n2 z2 y2).2.1) ∧ OwnI w' (lt) (ut) t intT ((rAdd n1 z1 y1 n2 z2 y2).2.2.1) ∧ (w.heap.size ≤ ls ∧ us ≤ w'.heap.size ∧ w.heap.size ≤ lt ∧ ut ≤ w'.heap.size ∧ (us ≤ lt ∨ ut ≤ ls)) ∧ ((rAdd n1 z1 y1 n2 z2 y2).2.1.length ≤ 18 ∧ (rAdd n1 z1 y1 n2 z2 y2).2.2.1.length ≤ 18) ∧ Chg 0 0 w w' := by
 have hv10 := hv1.fit
 have hd10 := hd1.fit
 have hv20 := hv2.fit
 have hd20 := hd2.fit
 refine sx_enter Tryz.func17 rfl Tryz.ntmps17 (nbl rfl) ?_
 refine sx_seq fun K1 k1 => sx_region ?_
 refine sx_box [.bool n1, v1, d1] rfl rfl rfl (fun b2 w3 eb2 sb2 fb2 cb2 => ?_)
 have zw3 := cb2.size
 refine sx_box [.bool n2, v2, d2] rfl rfl rfl (fun b4 w5 eb4 sb4 fb4 cb4 => ?_)
 have zw5 := cb4.size
 refine sx_alloc [.bool false, (.slice none 0 0), (.slice none 0 0)] rfl Tryz.zeroValue37 rfl (fun b6 w7 eb6 sb6 fb6 cb6 => ?_)
 have zw7 := cb6.size
 refine av rfl rfl (wl_nil (q_n (k1 _ _ ?_)))
 refine sx_seq fun K8 k8 => ?_
 refine sx_seq fun K9 k9 => sx_region ?_
 have f10 := fb2.ext cb4
 have f11 := f10.ext cb6
 refine sp rfl (px_load rfl (f11.loadA (vs := [.bool n1, v1, d1]) (look_lit rfl) Tryz.isAgg37 Tryz.sizeOf37)) ?_
 have f12 := fb4.ext cb6
 refine sp rfl (px_load rfl (f12.loadA (vs := [.bool n2, v2, d2]) (look_lit rfl) Tryz.isAgg37 Tryz.sizeOf37)) ?_
 have f13 := hv10.ext cb2
 have f14 := f13.ext cb4
 have f15 := f14.ext cb6
 have f16 := hd10.ext cb2
 have f17 := f16.ext cb4
 have f18 := f17.ext cb6
 have f19 := hv20.ext cb2
 have f20 := f19.ext cb4
 have f21 := f20.ext cb6
 have f22 := hd20.ext cb2
 have f23 := f22.ext cb4
 have f24 := f23.ext cb6
 refine sx_call rfl rfl Tryz.call47 (c_ratsOk f15 f18 f21 f24 (by omega)) (fun v25 w25 p25 => ?_)
 obtain ⟨rfl, c25⟩ := p25
 have zw25 := c25.size
 refine sp rfl (px_notP rfl) ?_
 refine wl_nil (q_n (k9 _ _ ?_))
 refine sx_condP rfl (fun h54 => ?_) (fun h54 => ?_)
 ·
  refine sx_seq fun K26 k26 => sx_region ?_
  refine sp rfl (px_build rfl (xbld37x  _)) ?_
  have f28 := fb6.ext c25
  refine sx_store (vs := [.bool false, (.slice none 0 0), (.slice none 0 0)]) rfl rfl f28 rfl Tryz.sizeOf37 (nbl rfl) (o3 rfl rfl rfl) (fun w27 sw27 fw27 cw27 => ?_)
  have zw27 := cw27.size
  have gw27 : Blk w27 b6 [.bool false, (.slice none 0 0), (.slice none 0 0)] 37 := fw27
  refine av rfl rfl (wl_nil (q_n (k26 _ _ ?_)))
  refine sx_retc ?_
  refine q_r (sx_ret2 Tryz.results17 ⟨_, rfl, gw27.loadA (vs := [.bool false, (.slice none 0 0), (.slice none 0 0)]) (look_lit rfl) Tryz.isAgg37 Tryz.sizeOf37⟩ rfl ?_)
  rw [rAdd_no h54]
  have q29 := Chg.step (l := 0) (h := 0) (Chg.zero (l := 0) (h := 0) (((cb2.t cb4).t cb6).t c25)) cw27 (by omega)
  exact ⟨_, _, w.heap.size, w.heap.size, w.heap.size, w.heap.size, rfl, Own.nil _ _ _ _ _, Own.nil _ _ _ _ _, by omega, ⟨by simp [noR], by simp [noR]⟩, q29⟩
 have hR1 := (Decidable.not_not.1 h54).1
 have hR2 := (Decidable.not_not.1 h54).2
 obtain ⟨x1, e1, rfl, rfl, rfl, hp1, hx1, hy1, hg1⟩ := hR1.rat
 obtain ⟨x2, e2, rfl, rfl, rfl, hp2, hx2, hy2, hg2⟩ := hR2.rat
 have l1 := len_mul x1.natAbs e2
 have l2 := len_mul x2.natAbs e1
 have l3 := len_mul e1 e2
 have a1 : (x1 * (e2 : Int)).natAbs = x1.natAbs * e2 := by rw [Int.natAbs_mul, Int.natAbs_natCast]
 have a2 : (x2 * (e1 : Int)).natAbs = x2.natAbs * e1 := by rw [Int.natAbs_mul, Int.natAbs_natCast]
 have l4 := len_addI (x1 * (e2 : Int)) (x2 * (e1 : Int))
 rw [a1, a2] at l4
 have l5 := len_mul e1 x2.natAbs
 have l6 := len_mul x1.natAbs x2.natAbs
 refine sx_skip ?_
 refine q_n (k8 _ _ ?_)
 refine sx_seq fun K30 k30 => ?_
 have f31 := f11.ext c25
 have f32 := f12.ext c25
 refine dx_region (fun w' => Chg 0 0 w25 w') (by kernel_rfl) (Chg.zero (Chg.drew _)) ?_
 have d38 := Chg.drew w25
 have s38 : Chg 0 0 w25 (World.drew w25) := Chg.zero (Chg.drew _)
 have y38 : (World.drew w25).heap.size = w25.heap.size := rfl
 generalize World.drew w25 = w38 at *
 have zw38 := d38.size
 refine dt 0 rfl rfl rfl rfl s38 (fun _ hS => px_load rfl ((f31.chg hS (by omega)).loadA (vs := [.bool (ng x1), v1, d1]) (look_lit rfl) Tryz.isAgg37 Tryz.sizeOf37)) ?_
 refine dt 1 rfl rfl rfl rfl s38 (fun _ hS => px_makeFunc rfl rfl) ?_
 refine dt 2 rfl rfl rfl rfl s38 (fun _ hS => px_load rfl ((f32.chg hS (by omega)).loadA (vs := [.bool (ng x2), v2, d2]) (look_lit rfl) Tryz.isAgg37 Tryz.sizeOf37)) ?_
 refine dt 3 rfl rfl rfl rfl s38 (fun _ hS => px_makeFunc rfl rfl) ?_
 refine dt 4 rfl rfl rfl rfl s38 (fun _ hS => px_assign rfl) ?_
 refine dt 5 rfl rfl rfl rfl s38 (fun _ hS => px_assign rfl) ?_
 refine dx_done (by kernel_rfl) ?_
 refine q_n (k30 _ _ ?_)
 refine sx_sub (Sub.c 2 rfl (.c 3 rfl (.c 4 rfl (.c 5 rfl (.c 6 rfl (.c 7 rfl .nil)))))) ?_
 refine sx_seq fun K39 k39 => ?_
 have f40 := f31.ext d38
 have f41 := f32.ext d38
 refine dx_region (fun w' => Chg b6 (b6 + 1) w38 w') (by kernel_rfl) (Chg.zero (Chg.drew _)) ?_
 have d46 := Chg.drew w38
 have s46 : Chg b6 (b6 + 1) w38 (World.drew w38) := Chg.zero (Chg.drew _)
 have y46 : (World.drew w38).heap.size = w38.heap.size := rfl
 generalize World.drew w38 = w46 at *
 have zw46 := d46.size
 refine dt 0 rfl rfl rfl rfl s46 (fun _ hS => px_move rfl) ?_
 refine dt 1 rfl rfl rfl rfl s46 (fun _ hS => px_field rfl xfld37x1) ?_
 refine dt 2 rfl rfl rfl rfl s46 (fun _ hS => px_load rfl ((f41.chg hS (by omega)).load1 rfl Tryz.isAgg23)) ?_
 refine dt 4 rfl rfl rfl rfl s46 (fun _ hS => px_move rfl) ?_
 refine dt 5 rfl rfl rfl rfl s46 (fun _ hS => px_field rfl xfld37x1) ?_
 refine dt 6 rfl rfl rfl rfl s46 (fun _ hS => px_load rfl ((f40.chg hS (by omega)).load1 rfl Tryz.isAgg23)) ?_
 refine dt 9 rfl rfl rfl rfl s46 (fun _ hS => px_field rfl xfld37x1) ?_
 refine dt 10 rfl rfl rfl rfl s46 (fun _ hS => px_load rfl ((f40.chg hS (by omega)).load1 rfl Tryz.isAgg23)) ?_
 refine dt 11 rfl rfl rfl rfl s46 (fun _ hS => px_field rfl xfld37x1) ?_
 refine dt 12 rfl rfl rfl rfl s46 (fun _ hS => px_load rfl ((f41.chg hS (by omega)).load1 rfl Tryz.isAgg23)) ?_
 refine dx_eff 3 rfl (by kernel_rfl) ?_
 have f47 := ((f15.ext c25).ext d38).ext d46
 have f48 := ((f18.ext c25).ext d38).ext d46
 have f49 := ((f24.ext c25).ext d38).ext d46
 refine sx_callV rfl rfl rfl Tryz.call48 (c_ratNum f47 f48 f49 (by omega) (by omega)) (fun v50 w50 p50 => ?_)
 obtain ⟨s50, rfl, os_50, c50⟩ := p50
 have zw50 := c50.size
 have s51 : Chg b6 (b6 + 1) w38 w50 := (Chg.zero (l := b6) (h := (b6 + 1)) (d46.t c50))
 refine wl_nil ?_
 refine dx_next s51 ?_
 refine dx_eff 7 rfl (by kernel_rfl) ?_
 have f53 := (((f21.ext c25).ext d38).ext d46).ext c50
 have f54 := f49.ext c50
 have f55 := f48.ext c50
 refine sx_callV rfl rfl rfl Tryz.call48 (c_ratNum f53 f54 f55 (by omega) (by omega)) (fun v56 w56 p56 => ?_)
 obtain ⟨s56, rfl, os_56, c56⟩ := p56
 have zw56 := c56.size
 have s57 : Chg b6 (b6 + 1) w38 w56 := (Chg.zero (l := b6) (h := (b6 + 1)) ((d46.t c50).t c56))
 refine wl_nil ?_
 refine dx_next s57 ?_
 refine dx_eff 8 rfl (by kernel_rfl) ?_
 have f58 := os_50.ext c56
 refine sx_call rfl rfl Tryz.call44 (c_intAdd f58.sv os_56.sv (by rw [a1]; omega) (by rw [a2]; omega)) (fun v59 w59 p59 => ?_)
 obtain ⟨s59, rfl, os_59, c59⟩ := p59
 have zw59 := c59.size
 have s60 : Chg b6 (b6 + 1) w38 w59 := (Chg.zero (l := b6) (h := (b6 + 1)) (((d46.t c50).t c56).t c59))
 refine wl_nil ?_
 refine dx_next s60 ?_
 refine dx_eff 13 rfl (by kernel_rfl) ?_
 have f62 := (f55.ext c56).ext c59
 have f64 := (f54.ext c56).ext c59
 refine sx_call rfl rfl Tryz.call49 (c_natMul f62 f64 (by omega) (by omega)) (fun v65 w65 p65 => ?_)
 obtain ⟨s65, rfl, os_65, c65⟩ := p65
 have zw65 := c65.size
 have s66 : Chg b6 (b6 + 1) w38 w65 := (Chg.zero (l := b6) (h := (b6 + 1)) ((((d46.t c50).t c56).t c59).t c65))
 refine wl_nil ?_
 refine dx_next s66 ?_
 refine dx_eff 14 rfl (by kernel_rfl) ?_
 have f67 := os_59.ext c65
 refine sx_call rfl rfl Tryz.call43 (c_reduce f67.sv os_65.sv (by omega) (by omega) (Nat.mul_pos hp1 hp2)) (fun v68 w68 p68 => ?_)
 obtain ⟨s68, t68, ls68, us68, lt68, ut68, rfl, os_68, ot_68, hd68, hl68, c68⟩ := p68
 have zw68 := c68.size
 have s69 : Chg b6 (b6 + 1) w38 w68 := (Chg.zero (l := b6) (h := (b6 + 1)) (((((d46.t c50).t c56).t c59).t c65).t c68))
 refine wl_nil ?_
 refine dx_next s69 ?_
 refine dt 15 rfl rfl rfl rfl s69 (fun _ hS => px_ex2 rfl rfl) ?_
 refine dt 16 rfl rfl rfl rfl s69 (fun _ hS => px_ex2 rfl rfl) ?_
 refine dx_eff 17 rfl (by kernel_rfl) ?_
 have f77 := (((((((fb6.ext c25).ext d38).ext d46).ext c50).ext c56).ext c59).ext c65).ext c68
 refine sx_store (vs := [.bool ((rR (sgI (ng ((x1 * ((e2 : Nat) : Int)) + (x2 * ((e1 : Nat) : Int)))) (((x1 * ((e2 : Nat) : Int)) + (x2 * ((e1 : Nat) : Int))).natAbs)) (e1 * e2)).1), s68, t68]) rfl rfl f77 rfl Tryz.sizeOf37 (nbl rfl) (one_cons rfl (one_cons os_68.one (one_cons ot_68.one one_nil))) (fun w70 sw70 fw70 cw70 => ?_)
 have zw70 := cw70.size
 have gw70 : Blk w70 b6 [.bool ((rR (sgI (ng ((x1 * ((e2 : Nat) : Int)) + (x2 * ((e1 : Nat) : Int)))) (((x1 * ((e2 : Nat) : Int)) + (x2 * ((e1 : Nat) : Int))).natAbs)) (e1 * e2)).1), s68, t68] 37 := fw70
 have q79 := Chg.step (l := b6) (h := (b6 + 1)) (Chg.zero (l := b6) (h := (b6 + 1)) (((((d46.t c50).t c56).t c59).t c65).t c68)) cw70 (by omega)
 have s78 : Chg b6 (b6 + 1) w38 w70 := q79
 refine wl_nil ?_
 refine dx_next s78 ?_
 refine dt 18 rfl rfl rfl rfl s78 (fun _ hS => px_assign rfl) ?_
 refine dx_done (by kernel_rfl) ?_
 refine q_n (k39 _ _ ?_)
 refine sx_sub (Sub.c 4 rfl (.c 5 rfl .nil)) ?_
 refine sx_retc ?_
 refine sx_ret2 Tryz.results17 ⟨_, rfl, gw70.loadA (vs := [.bool ((rR (sgI (ng ((x1 * ((e2 : Nat) : Int)) + (x2 * ((e1 : Nat) : Int)))) (((x1 * ((e2 : Nat) : Int)) + (x2 * ((e1 : Nat) : Int))).natAbs)) (e1 * e2)).1), s68, t68]) (look_lit rfl) Tryz.isAgg37 Tryz.sizeOf37⟩ rfl ?_
 have hrl := rAdd_len (n1 := ng x1) (z1 := dg x1.natAbs) (y1 := dg e1) (n2 := ng x2) (z2 := dg x2.natAbs) (y2 := dg e2)
 have hre : rAdd (ng x1) (dg x1.natAbs) (dg e1) (ng x2) (dg x2.natAbs) (dg e2) = rR (sgI (ng (x1 * (e2 : Int) + x2 * (e1 : Int))) (x1 * (e2 : Int) + x2 * (e1 : Int)).natAbs) (e1 * e2) := by rw [rAdd_ok hR1 hR2, sgI_ng]
 rw [hre] at hrl ⊢
 have q80 := Chg.step (l := 0) (h := 0) (Chg.zero (l := 0) (h := 0) ((((((((((cb2.t cb4).t cb6).t c25).t d38).t d46).t c50).t c56).t c59).t c65).t c68)) cw70 (by omega)
 have f81 := os_68.chg cw70 (by omega)
 have f82 := ot_68.chg cw70 (by omega)
 exact ⟨_, _, _, _, _, _, rfl, f81, f82, by omega, hrl, q80⟩

theorem c_iRatAddK {w : World} {va1 : Value} {lva1 uva1 : Nat} {x1 : Int} {vd1 : Value} {lvd1 uvd1 : Nat} {e1 : Nat} {va2 : Value} {lva2 uva2 : Nat} {x2 : Int} {vd2 : Value} {lvd2 uvd2 : Nat} {e2 : Nat} (hva1 : Sl w lva1 uva1 va1 (dg x1.natAbs)) (hvd1 : Sl w lvd1 uvd1 vd1 (dg e1)) (hva2 : Sl w lva2 uva2 va2 (dg x2.natAbs)) (hvd2 : Sl w lvd2 uvd2 vd2 (dg e2)) (hR1 : ROk (ng x1) (dg x1.natAbs) (dg e1)) (hR2 : ROk (ng x2) (dg x2.natAbs) (dg e2)) (hl : (dg x1.natAbs).length ≤ 8 ∧ (dg x2.natAbs).length ≤ 8 ∧ (dg e1).length ≤ 8 ∧ (dg e2).length ≤ 8) :
  Ret Tryz.prog 17 [.agg #[.bool (ng x1), va1, vd1], .agg #[.bool (ng x2), va2, vd2]] w fun v w' => ∃ s t ls us lt ut xx ee, v = .tuple #[.agg #[.bool (ng xx), s, t], .bool (true)] ∧ OwnI w' (ls) (us) s intT (dg (xx).natAbs) ∧ OwnI w' (lt) (ut) t intT (dg ee) ∧ (w.heap.size ≤ ls ∧ us ≤ w'.heap.size ∧ w.heap.size ≤ lt ∧ ut ≤ w'.heap.size ∧ (us ≤ lt ∨ ut ≤ ls)) ∧ (ROk (ng xx) (dg (xx).natAbs) (dg ee)) ∧ (xx * (((e1 * e2 : Nat)) : Int) = (x1 * ((e2 : Nat) : Int) + x2 * ((e1 : Nat) : Int)) * ((ee : Nat) : Int)) ∧ Chg 0 0 w w' := by
 obtain ⟨X, E, hE, hK, _, _, hv⟩ := rAdd_right hR1 hR2 hl.1 hl.2.1 hl.2.2.1 hl.2.2.2; have h := c_iRatAdd (n1 := ng x1) (n2 := ng x2) hva1 hvd1 hva2 hvd2 (by omega); rw [hE] at h
 exact Calls.mono h fun ev w' ⟨v, he, s, t, ls, us, lt, ut, e1, o1, o2, hd, _, hc⟩ => ⟨v, he, s, t, ls, us, lt, ut, X, E, e1, o1, o2, hd, hK, hv, hc⟩

theorem c_must {w : World} {n : Bool} {va : Value} {lva uva : Nat} {z : List Int} {vd : Value} {lvd uvd : Nat} {y : List Int} (hva : Sl w lva uva va (z)) (hvd : Sl w lvd uvd vd (y)) :
  Ret Tryz.prog 16 [.agg #[.bool n, va, vd], .bool true] w fun v w' => v = .agg #[.bool (n), va, vd] ∧ Chg 0 0 w w' := by
 have hva0 := hva.fit
 have hvd0 := hvd.fit
 refine sx_enter Tryz.func16 rfl Tryz.ntmps16 (nbl rfl) ?_
 refine sx_seq fun K1 k1 => sx_region ?_
 refine sx_box [.bool n, va, vd] rfl rfl rfl (fun b2 w3 eb2 sb2 fb2 cb2 => ?_)
 have zw3 := cb2.size
 refine sx_alloc [.bool false, (.slice none 0 0), (.slice none 0 0)] rfl Tryz.zeroValue37 rfl (fun b4 w5 eb4 sb4 fb4 cb4 => ?_)
 have zw5 := cb4.size
 refine wl_nil (q_n (k1 _ _ ?_))
 refine sx_seq fun K6 k6 => ?_
 refine sx_seq fun K7 k7 => sx_region ?_
 refine mv rfl rfl (sp rfl (px_not rfl) ?_)
 refine wl_nil (q_n (k7 _ _ ?_))
 refine sx_condF rfl ?_
 refine sx_skip ?_
 refine q_n (k6 _ _ ?_)
 refine sx_seq fun K8 k8 => sx_region ?_
 have f9 := fb2.ext cb4
 refine sp rfl (px_load rfl (f9.loadA (vs := [.bool n, va, vd]) (look_lit rfl) Tryz.isAgg37 Tryz.sizeOf37)) ?_
 have f11 := hvd0.ext cb2
 have f12 := f11.ext cb4
 have f13 := hva0.ext cb2
 have f14 := f13.ext cb4
 refine sx_store (vs := [.bool n, va, vd]) rfl rfl fb4 rfl Tryz.sizeOf37 (nbl rfl) (one_cons rfl (one_cons f14.one (one_cons f12.one one_nil))) (fun w10 sw10 fw10 cw10 => ?_)
 have zw10 := cw10.size
 have gw10 : Blk w10 b4 [.bool n, va, vd] 37 := fw10
 refine wl_nil (q_n (k8 _ _ ?_))
 refine sx_retc ?_
 refine sx_ret1 Tryz.results16 ⟨_, rfl, gw10.loadA (vs := [.bool n, va, vd]) (look_lit rfl) Tryz.isAgg37 Tryz.sizeOf37⟩ ?_
 have q15 := Chg.step (l := 0) (h := 0) (Chg.zero (l := 0) (h := 0) (cb2.t cb4)) cw10 (by omega)
 exact ⟨rfl, q15⟩

theorem c_iRatCmpK {w : World} {va1 : Value} {lva1 uva1 : Nat} {x1 : Int} {vd1 : Value} {lvd1 uvd1 : Nat} {e1 : Nat} {va2 : Value} {lva2 uva2 : Nat} {x2 : Int} {vd2 : Value} {lvd2 uvd2 : Nat} {e2 : Nat} (hva1 : Sl w lva1 uva1 va1 (dg x1.natAbs)) (hvd1 : Sl w lvd1 uvd1 vd1 (dg e1)) (hva2 : Sl w lva2 uva2 va2 (dg x2.natAbs)) (hvd2 : Sl w lvd2 uvd2 vd2 (dg e2)) (hR1 : ROk (ng x1) (dg x1.natAbs) (dg e1)) (hR2 : ROk (ng x2) (dg x2.natAbs) (dg e2)) :
  Ret Tryz.prog 15 [.agg #[.bool (ng x1), va1, vd1], .agg #[.bool (ng x2), va2, vd2]] w fun v w' => v = .int .i64 (cmpI (x1 * ((e2 : Nat) : Int)) (x2 * ((e1 : Nat) : Int))) ∧ Chg 0 0 w w' := by
 have hva10 := hva1.fit
 have hvd10 := hvd1.fit
 have hva20 := hva2.fit
 have hvd20 := hvd2.fit
 have hi1 := ROk_iff.1 hR1
 have hi2 := ROk_iff.1 hR2
 have l1 := len_mul x1.natAbs e2
 have l2 := len_mul x2.natAbs e1
 have a1 : (x1 * (e2 : Int)).natAbs = x1.natAbs * e2 := by rw [Int.natAbs_mul, Int.natAbs_natCast]
 have a2 : (x2 * (e1 : Int)).natAbs = x2.natAbs * e1 := by rw [Int.natAbs_mul, Int.natAbs_natCast]
 refine sx_enter Tryz.func15 rfl Tryz.ntmps15 (nbl rfl) ?_
 refine sx_seq fun K1 k1 => sx_region ?_
 refine sx_box [.bool (ng x1), va1, vd1] rfl rfl rfl (fun b2 w3 eb2 sb2 fb2 cb2 => ?_)
 have zw3 := cb2.size
 refine sx_box [.bool (ng x2), va2, vd2] rfl rfl rfl (fun b4 w5 eb4 sb4 fb4 cb4 => ?_)
 have zw5 := cb4.size
 refine av rfl rfl (wl_nil (q_n (k1 _ _ ?_)))
 refine sx_seq fun K6 k6 => ?_
 refine sx_seq fun K7 k7 => sx_region ?_
 have f8 := fb2.ext cb4
 refine sp rfl (px_load rfl (f8.loadA (vs := [.bool (ng x1), va1, vd1]) (look_lit rfl) Tryz.isAgg37 Tryz.sizeOf37)) ?_
 refine sp rfl (px_load rfl (fb4.loadA (vs := [.bool (ng x2), va2, vd2]) (look_lit rfl) Tryz.isAgg37 Tryz.sizeOf37)) ?_
 have f9 := hva10.ext cb2
 have f10 := f9.ext cb4
 have f11 := hvd10.ext cb2
 have f12 := f11.ext cb4
 have f13 := hva20.ext cb2
 have f14 := f13.ext cb4
 have f15 := hvd20.ext cb2
 have f16 := f15.ext cb4
 refine sx_call rfl rfl Tryz.call47 (c_ratsOk f10 f12 f14 f16 (by omega)) (fun v17 w17 p17 => ?_)
 obtain ⟨rfl, c17⟩ := p17
 have zw17 := c17.size
 refine sp rfl (px_notP rfl) ?_
 refine wl_nil (q_n (k7 _ _ ?_))
 have h98 : ¬ (¬ (ROk (ng x1) (dg x1.natAbs) (dg e1) ∧ ROk (ng x2) (dg x2.natAbs) (dg e2))) := fun h => h ⟨hR1, hR2⟩
 refine sx_condPF rfl h98 ?_
 refine sx_skip ?_
 refine q_n (k6 _ _ ?_)
 refine sx_seq fun K18 k18 => ?_
 have f19 := f8.ext c17
 have f20 := fb4.ext c17
 refine dx_region (fun w' => Chg 0 0 w17 w') (by kernel_rfl) (Chg.zero (Chg.drew _)) ?_
 have d25 := Chg.drew w17
 have s25 : Chg 0 0 w17 (World.drew w17) := Chg.zero (Chg.drew _)
 have y25 : (World.drew w17).heap.size = w17.heap.size := rfl
 generalize World.drew w17 = w25 at *
 have zw25 := d25.size
 refine dt 0 rfl rfl rfl rfl s25 (fun _ hS => px_load rfl ((f19.chg hS (by omega)).loadA (vs := [.bool (ng x1), va1, vd1]) (look_lit rfl) Tryz.isAgg37 Tryz.sizeOf37)) ?_
 refine dt 1 rfl rfl rfl rfl s25 (fun _ hS => px_field rfl xfld37x1) ?_
 refine dt 2 rfl rfl rfl rfl s25 (fun _ hS => px_load rfl ((f20.chg hS (by omega)).load1 rfl Tryz.isAgg23)) ?_
 refine dt 4 rfl rfl rfl rfl s25 (fun _ hS => px_load rfl ((f20.chg hS (by omega)).loadA (vs := [.bool (ng x2), va2, vd2]) (look_lit rfl) Tryz.isAgg37 Tryz.sizeOf37)) ?_
 refine dt 5 rfl rfl rfl rfl s25 (fun _ hS => px_field rfl xfld37x1) ?_
 refine dt 6 rfl rfl rfl rfl s25 (fun _ hS => px_load rfl ((f19.chg hS (by omega)).load1 rfl Tryz.isAgg23)) ?_
 refine dx_eff 3 rfl (by kernel_rfl) ?_
 have f26 := (f10.ext c17).ext d25
 have f27 := (f12.ext c17).ext d25
 have f28 := (f16.ext c17).ext d25
 refine sx_call rfl rfl Tryz.call48 (c_ratNum f26 f27 f28 (by omega) (by omega)) (fun v29 w29 p29 => ?_)
 obtain ⟨s29, rfl, os_29, c29⟩ := p29
 have zw29 := c29.size
 have s30 : Chg 0 0 w17 w29 := (d25.t c29)
 refine wl_nil ?_
 refine dx_next s30 ?_
 refine dx_eff 7 rfl (by kernel_rfl) ?_
 have f32 := ((f14.ext c17).ext d25).ext c29
 have f33 := f28.ext c29
 have f34 := f27.ext c29
 refine sx_call rfl rfl Tryz.call48 (c_ratNum f32 f33 f34 (by omega) (by omega)) (fun v35 w35 p35 => ?_)
 obtain ⟨s35, rfl, os_35, c35⟩ := p35
 have zw35 := c35.size
 have s36 : Chg 0 0 w17 w35 := ((d25.t c29).t c35)
 refine wl_nil ?_
 refine dx_next s36 ?_
 refine dx_eff 8 rfl (by kernel_rfl) ?_
 have f37 := os_29.ext c35
 refine sx_call rfl rfl Tryz.call42 (c_intCmp f37.sv os_35.sv (by rw [a1]; omega) (by rw [a2]; omega)) (fun v38 w38 p38 => ?_)
 obtain ⟨rfl, c38⟩ := p38
 have zw38 := c38.size
 have s39 : Chg 0 0 w17 w38 := (((d25.t c29).t c35).t c38)
 refine wl_nil ?_
 refine dx_next s39 ?_
 refine dt 9 rfl rfl rfl rfl s39 (fun _ hS => px_assign rfl) ?_
 refine dx_done (by kernel_rfl) ?_
 refine q_n (k18 _ _ ?_)
 refine sx_sub (Sub.c 4 rfl .nil) ?_
 refine sx_retc ?_
 refine sx_ret1 Tryz.results15 rfl ?_
 exact ⟨rfl, ((((((cb2.t cb4).t c17).t d25).t c29).t c35).t c38)⟩

theorem c_iRatMul {w : World} {n1 : Bool} {v1 : Value} {lv1 uv1 : Nat} {z1 : List Int} {d1 : Value} {ld1 ud1 : Nat} {y1 : List Int} {n2 : Bool} {v2 : Value} {lv2 uv2 : Nat} {z2 : List Int} {d2 : Value} {ld2 ud2 : Nat} {y2 : List Int} (hv1 : Sl w lv1 uv1 v1 (z1)) (hd1 : Sl w ld1 ud1 d1 (y1)) (hv2 : Sl w lv2 uv2 v2 (z2)) (hd2 : Sl w ld2 ud2 d2 (y2)) (h63 : z1.length ≤ 4611686018427387904 ∧ y1.length ≤ 4611686018427387904 ∧ z2.length ≤ 4611686018427387904 ∧ y2.length ≤ 4611686018427387904) :
  Ret Tryz.prog 18 [.agg #[.bool n1, v1, d1], .agg #[.bool n2, v2, d2]] w fun v w' => ∃ s t ls us lt ut, v = .tuple #[.agg #[.bool ((rMul n1 z1 y1 n2 z2 y2).1), s, t], .bool ((rMul n1 z1 y1 n2 z2 y2).2.2.2)] ∧ OwnI w' (ls) (us) s intT ((rMul n1 z1 y1 n2 z2 y2).2.1) ∧ OwnI w' (lt) (ut) t intT ((rMul n1 z1 y1 n2 z2 y2).2.2.1) ∧ (w.heap.size ≤ ls ∧ us ≤ w'.heap.size ∧ w.heap.size ≤ lt ∧ ut ≤ w'.heap.size ∧ (us ≤ lt ∨ ut ≤ ls)) ∧ ((rMul n1 z1 y1 n2 z2 y2).2.1.length ≤ 18 ∧ (rMul n1 z1 y1 n2 z2 y2).2.2.1.length ≤ 18) ∧ Chg 0 0 w w' := by
 have hv10 := hv1.fit
 have hd10 := hd1.fit
 have hv20 := hv2.fit
 have hd20 := hd2.fit
 refine sx_enter Tryz.func18 rfl Tryz.ntmps18 (nbl rfl) ?_
 refine sx_seq fun K1 k1 => sx_region ?_
 refine sx_box [.bool n1, v1, d1] rfl rfl rfl (fun b2 w3 eb2 sb2 fb2 cb2 => ?_)
 have zw3 := cb2.size
 refine sx_box [.bool n2, v2, d2] rfl rfl rfl (fun b4 w5 eb4 sb4 fb4 cb4 => ?_)
 have zw5 := cb4.size
 refine sx_alloc [.bool false, (.slice none 0 0), (.slice none 0 0)] rfl Tryz.zeroValue37 rfl (fun b6 w7 eb6 sb6 fb6 cb6 => ?_)
 have zw7 := cb6.size
 refine av rfl rfl (wl_nil (q_n (k1 _ _ ?_)))
 refine sx_seq fun K8 k8 => ?_
 refine sx_seq fun K9 k9 => sx_region ?_
 have f10 := fb2.ext cb4
 have f11 := f10.ext cb6
 refine sp rfl (px_load rfl (f11.loadA (vs := [.bool n1, v1, d1]) (look_lit rfl) Tryz.isAgg37 Tryz.sizeOf37)) ?_
 have f12 := fb4.ext cb6
 refine sp rfl (px_load rfl (f12.loadA (vs := [.bool n2, v2, d2]) (look_lit rfl) Tryz.isAgg37 Tryz.sizeOf37)) ?_
 have f13 := hv10.ext cb2
 have f14 := f13.ext cb4
 have f15 := f14.ext cb6
 have f16 := hd10.ext cb2
 have f17 := f16.ext cb4
 have f18 := f17.ext cb6
 have f19 := hv20.ext cb2
 have f20 := f19.ext cb4
 have f21 := f20.ext cb6
 have f22 := hd20.ext cb2
 have f23 := f22.ext cb4
 have f24 := f23.ext cb6
 refine sx_call rfl rfl Tryz.call47 (c_ratsOk f15 f18 f21 f24 (by omega)) (fun v25 w25 p25 => ?_)
 obtain ⟨rfl, c25⟩ := p25
 have zw25 := c25.size
 refine sp rfl (px_notP rfl) ?_
 refine wl_nil (q_n (k9 _ _ ?_))
 refine sx_condP rfl (fun h74 => ?_) (fun h74 => ?_)
 ·
  refine sx_seq fun K26 k26 => sx_region ?_
  refine sp rfl (px_build rfl (xbld37x  _)) ?_
  have f28 := fb6.ext c25
  refine sx_store (vs := [.bool false, (.slice none 0 0), (.slice none 0 0)]) rfl rfl f28 rfl Tryz.sizeOf37 (nbl rfl) (o3 rfl rfl rfl) (fun w27 sw27 fw27 cw27 => ?_)
  have zw27 := cw27.size
  have gw27 : Blk w27 b6 [.bool false, (.slice none 0 0), (.slice none 0 0)] 37 := fw27
  refine av rfl rfl (wl_nil (q_n (k26 _ _ ?_)))
  refine sx_retc ?_
  refine q_r (sx_ret2 Tryz.results18 ⟨_, rfl, gw27.loadA (vs := [.bool false, (.slice none 0 0), (.slice none 0 0)]) (look_lit rfl) Tryz.isAgg37 Tryz.sizeOf37⟩ rfl ?_)
  rw [rMul_no h74]
  have q29 := Chg.step (l := 0) (h := 0) (Chg.zero (l := 0) (h := 0) (((cb2.t cb4).t cb6).t c25)) cw27 (by omega)
  exact ⟨_, _, w.heap.size, w.heap.size, w.heap.size, w.heap.size, rfl, Own.nil _ _ _ _ _, Own.nil _ _ _ _ _, by omega, ⟨by simp [noR], by simp [noR]⟩, q29⟩
 have hR1 := (Decidable.not_not.1 h74).1
 have hR2 := (Decidable.not_not.1 h74).2
 obtain ⟨x1, e1, rfl, rfl, rfl, hp1, hx1, hy1, hg1⟩ := hR1.rat
 obtain ⟨x2, e2, rfl, rfl, rfl, hp2, hx2, hy2, hg2⟩ := hR2.rat
 have l1 := len_mul x1.natAbs e2
 have l2 := len_mul x2.natAbs e1
 have l3 := len_mul e1 e2
 have a1 : (x1 * (e2 : Int)).natAbs = x1.natAbs * e2 := by rw [Int.natAbs_mul, Int.natAbs_natCast]
 have a2 : (x2 * (e1 : Int)).natAbs = x2.natAbs * e1 := by rw [Int.natAbs_mul, Int.natAbs_natCast]
 have l4 := len_addI (x1 * (e2 : Int)) (x2 * (e1 : Int))
 rw [a1, a2] at l4
 have l5 := len_mul e1 x2.natAbs
 have l6 := len_mul x1.natAbs x2.natAbs
 have l7 := len_mulI x1 x2
 refine sx_skip ?_
 refine q_n (k8 _ _ ?_)
 refine sx_seq fun K30 k30 => ?_
 have f31 := f11.ext c25
 have f32 := f12.ext c25
 refine dx_region (fun w' => Chg b6 (b6 + 1) w25 w') (by kernel_rfl) (Chg.zero (Chg.drew _)) ?_
 have d37 := Chg.drew w25
 have s37 : Chg b6 (b6 + 1) w25 (World.drew w25) := Chg.zero (Chg.drew _)
 have y37 : (World.drew w25).heap.size = w25.heap.size := rfl
 generalize World.drew w25 = w37 at *
 have zw37 := d37.size
 refine dt 0 rfl rfl rfl rfl s37 (fun _ hS => px_field rfl xfld37x0) ?_
 refine dt 1 rfl rfl rfl rfl s37 (fun _ hS => px_load rfl ((f31.chg hS (by omega)).loadA (vs := [.bool (ng x1), v1]) (look_lit rfl) Tryz.isAgg25 Tryz.sizeOf25)) ?_
 refine dt 2 rfl rfl rfl rfl s37 (fun _ hS => px_field rfl xfld37x0) ?_
 refine dt 3 rfl rfl rfl rfl s37 (fun _ hS => px_load rfl ((f32.chg hS (by omega)).loadA (vs := [.bool (ng x2), v2]) (look_lit rfl) Tryz.isAgg25 Tryz.sizeOf25)) ?_
 refine dt 5 rfl rfl rfl rfl s37 (fun _ hS => px_field rfl xfld37x1) ?_
 refine dt 6 rfl rfl rfl rfl s37 (fun _ hS => px_load rfl ((f31.chg hS (by omega)).load1 rfl Tryz.isAgg23)) ?_
 refine dt 7 rfl rfl rfl rfl s37 (fun _ hS => px_field rfl xfld37x1) ?_
 refine dt 8 rfl rfl rfl rfl s37 (fun _ hS => px_load rfl ((f32.chg hS (by omega)).load1 rfl Tryz.isAgg23)) ?_
 refine dx_eff 4 rfl (by kernel_rfl) ?_
 have f38 := (f15.ext c25).ext d37
 have f39 := (f21.ext c25).ext d37
 refine sx_call rfl rfl Tryz.call45 (c_intMul f38 f39 (by omega) (by omega)) (fun v40 w40 p40 => ?_)
 obtain ⟨s40, rfl, os_40, c40⟩ := p40
 have zw40 := c40.size
 have s41 : Chg b6 (b6 + 1) w25 w40 := (Chg.zero (l := b6) (h := (b6 + 1)) (d37.t c40))
 refine wl_nil ?_
 refine dx_next s41 ?_
 refine dx_eff 9 rfl (by kernel_rfl) ?_
 have f43 := ((f18.ext c25).ext d37).ext c40
 have f45 := ((f24.ext c25).ext d37).ext c40
 refine sx_call rfl rfl Tryz.call49 (c_natMul f43 f45 (by omega) (by omega)) (fun v46 w46 p46 => ?_)
 obtain ⟨s46, rfl, os_46, c46⟩ := p46
 have zw46 := c46.size
 have s47 : Chg b6 (b6 + 1) w25 w46 := (Chg.zero (l := b6) (h := (b6 + 1)) ((d37.t c40).t c46))
 refine wl_nil ?_
 refine dx_next s47 ?_
 refine dx_eff 10 rfl (by kernel_rfl) ?_
 have f48 := os_40.ext c46
 refine sx_call rfl rfl Tryz.call43 (c_reduce f48.sv os_46.sv (by omega) (by omega) (Nat.mul_pos hp1 hp2)) (fun v49 w49 p49 => ?_)
 obtain ⟨s49, t49, ls49, us49, lt49, ut49, rfl, os_49, ot_49, hd49, hl49, c49⟩ := p49
 have zw49 := c49.size
 have s50 : Chg b6 (b6 + 1) w25 w49 := (Chg.zero (l := b6) (h := (b6 + 1)) (((d37.t c40).t c46).t c49))
 refine wl_nil ?_
 refine dx_next s50 ?_
 refine dt 11 rfl rfl rfl rfl s50 (fun _ hS => px_ex2 rfl rfl) ?_
 refine dt 12 rfl rfl rfl rfl s50 (fun _ hS => px_ex2 rfl rfl) ?_
 refine dx_eff 13 rfl (by kernel_rfl) ?_
 have f56 := ((((fb6.ext c25).ext d37).ext c40).ext c46).ext c49
 refine sx_store (vs := [.bool ((rR (sgI (ng (x1 * x2)) ((x1 * x2).natAbs)) (e1 * e2)).1), s49, t49]) rfl rfl f56 rfl Tryz.sizeOf37 (nbl rfl) (one_cons rfl (one_cons os_49.one (one_cons ot_49.one one_nil))) (fun w51 sw51 fw51 cw51 => ?_)
 have zw51 := cw51.size
 have gw51 : Blk w51 b6 [.bool ((rR (sgI (ng (x1 * x2)) ((x1 * x2).natAbs)) (e1 * e2)).1), s49, t49] 37 := fw51
 have q58 := Chg.step (l := b6) (h := (b6 + 1)) (Chg.zero (l := b6) (h := (b6 + 1)) (((d37.t c40).t c46).t c49)) cw51 (by omega)
 have s57 : Chg b6 (b6 + 1) w25 w51 := q58
 refine wl_nil ?_
 refine dx_next s57 ?_
 refine dt 14 rfl rfl rfl rfl s57 (fun _ hS => px_assign rfl) ?_
 refine dx_done (by kernel_rfl) ?_
 refine q_n (k30 _ _ ?_)
 refine sx_sub (Sub.c 4 rfl (.c 5 rfl .nil)) ?_
 refine sx_retc ?_
 refine sx_ret2 Tryz.results18 ⟨_, rfl, gw51.loadA (vs := [.bool ((rR (sgI (ng (x1 * x2)) ((x1 * x2).natAbs)) (e1 * e2)).1), s49, t49]) (look_lit rfl) Tryz.isAgg37 Tryz.sizeOf37⟩ rfl ?_
 have hrl := rMul_len (n1 := ng x1) (z1 := dg x1.natAbs) (y1 := dg e1) (n2 := ng x2) (z2 := dg x2.natAbs) (y2 := dg e2)
 have hre : rMul (ng x1) (dg x1.natAbs) (dg e1) (ng x2) (dg x2.natAbs) (dg e2) = rR (sgI (ng (x1 * x2)) (x1 * x2).natAbs) (e1 * e2) := by rw [rMul_ok hR1 hR2, sgI_ng, ← sgI_nz, (mul_sg x1 x2).1, ← Int.natAbs_mul, sgI_ng]
 rw [hre] at hrl ⊢
 have q59 := Chg.step (l := 0) (h := 0) (Chg.zero (l := 0) (h := 0) (((((((cb2.t cb4).t cb6).t c25).t d37).t c40).t c46).t c49)) cw51 (by omega)
 have f60 := os_49.chg cw51 (by omega)
 have f61 := ot_49.chg cw51 (by omega)
 exact ⟨_, _, _, _, _, _, rfl, f60, f61, by omega, hrl, q59⟩

theorem c_iRatMulK {w : World} {va1 : Value} {lva1 uva1 : Nat} {x1 : Int} {vd1 : Value} {lvd1 uvd1 : Nat} {e1 : Nat} {va2 : Value} {lva2 uva2 : Nat} {x2 : Int} {vd2 : Value} {lvd2 uvd2 : Nat} {e2 : Nat} (hva1 : Sl w lva1 uva1 va1 (dg x1.natAbs)) (hvd1 : Sl w lvd1 uvd1 vd1 (dg e1)) (hva2 : Sl w lva2 uva2 va2 (dg x2.natAbs)) (hvd2 : Sl w lvd2 uvd2 vd2 (dg e2)) (hR1 : ROk (ng x1) (dg x1.natAbs) (dg e1)) (hR2 : ROk (ng x2) (dg x2.natAbs) (dg e2)) (hl : ((dg x1.natAbs).length ≤ 8 ∧ (dg x2.natAbs).length ≤ 8) ∧ (dg e1).length ≤ 8 ∧ (dg e2).length ≤ 8) (hp : 0 < x1 ∧ 0 < x2) :
  Ret Tryz.prog 18 [.agg #[.bool (ng x1), va1, vd1], .agg #[.bool (ng x2), va2, vd2]] w fun v w' => ∃ s t ls us lt ut xx ee, v = .tuple #[.agg #[.bool (ng xx), s, t], .bool (true)] ∧ OwnI w' (ls) (us) s intT (dg (xx).natAbs) ∧ OwnI w' (lt) (ut) t intT (dg ee) ∧ (w.heap.size ≤ ls ∧ us ≤ w'.heap.size ∧ w.heap.size ≤ lt ∧ ut ≤ w'.heap.size ∧ (us ≤ lt ∨ ut ≤ ls)) ∧ (ROk (ng xx) (dg (xx).natAbs) (dg ee)) ∧ (rMul (ng x1) (dg (x1).natAbs) (dg e1) (ng x2) (dg (x2).natAbs) (dg e2) = (ng xx, dg (xx).natAbs, dg ee, true)) ∧ (xx * (((e1 * e2 : Nat)) : Int) = x1 * x2 * ((ee : Nat) : Int)) ∧ Chg 0 0 w w' := by
 obtain ⟨X, E, hE, hK, hv⟩ := rMul_right hR1 hR2 hl.1.1 hl.1.2 hl.2.1 hl.2.2 hp.1 hp.2
 have h := c_iRatMul (n1 := ng x1) (n2 := ng x2) hva1 hvd1 hva2 hvd2 (by omega); rw [hE] at h
 exact Calls.mono h fun ev w' ⟨v, he, s, t, ls, us, lt, ut, e1, o1, o2, hd, _, hc⟩ => ⟨v, he, s, t, ls, us, lt, ut, X, E, e1, o1, o2, hd, hK, hE, hv, hc⟩

theorem c_iRatMulM {w : World} {va1 : Value} {lva1 uva1 : Nat} {x1 : Int} {vd1 : Value} {lvd1 uvd1 : Nat} {e1 : Nat} {va2 : Value} {lva2 uva2 : Nat} {x2 : Int} {vd2 : Value} {lvd2 uvd2 : Nat} {e2 : Nat} (hva1 : Sl w lva1 uva1 va1 (dg x1.natAbs)) (hvd1 : Sl w lvd1 uvd1 vd1 (dg e1)) (hva2 : Sl w lva2 uva2 va2 (dg x2.natAbs)) (hvd2 : Sl w lvd2 uvd2 vd2 (dg e2)) (hR1 : ROk (ng x1) (dg x1.natAbs) (dg e1)) (hR2 : ROk (ng x2) (dg x2.natAbs) (dg e2)) (hl : ((dg x1.natAbs).length ≤ 8 ∧ (dg x2.natAbs).length ≤ 8) ∧ (dg e1).length ≤ 8 ∧ (dg e2).length ≤ 8) :
  Ret Tryz.prog 18 [.agg #[.bool (ng x1), va1, vd1], .agg #[.bool (ng x2), va2, vd2]] w fun v w' => ∃ s t ls us lt ut xx ee, v = .tuple #[.agg #[.bool (ng xx), s, t], .bool (true)] ∧ OwnI w' (ls) (us) s intT (dg (xx).natAbs) ∧ OwnI w' (lt) (ut) t intT (dg ee) ∧ (w.heap.size ≤ ls ∧ us ≤ w'.heap.size ∧ w.heap.size ≤ lt ∧ ut ≤ w'.heap.size ∧ (us ≤ lt ∨ ut ≤ ls)) ∧ (ROk (ng xx) (dg (xx).natAbs) (dg ee)) ∧ (xx * (((e1 * e2 : Nat)) : Int) = x1 * x2 * ((ee : Nat) : Int)) ∧ Chg 0 0 w w' := by
 obtain ⟨X, E, hE, hK, hv⟩ := rMul_form hR1 hR2 hl.1.1 hl.1.2 hl.2.1 hl.2.2
 have h := c_iRatMul (n1 := ng x1) (n2 := ng x2) hva1 hvd1 hva2 hvd2 (by omega); rw [hE] at h
 exact Calls.mono h fun ev w' ⟨v, he, s, t, ls, us, lt, ut, e1, o1, o2, hd, _, hc⟩ => ⟨v, he, s, t, ls, us, lt, ut, X, E, e1, o1, o2, hd, hK, hv, hc⟩

end Go.Proofs.YtoeclobdbblohaaGreatDoor
