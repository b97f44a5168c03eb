/- Contracts of functions of the program: what each call returns, and that it changes nothing that was. Conditions: as each says. -/
import Derived.Test.YtoeclobdbblohaaGreatDoorTy
import Derived.Test.YtoeclobdbblohaaGreatDoorNatJ
import Derived.Test.YtoeclobdbblohaaGreatDoorSxB
import Derived.Test.YtoeclobdbblohaaGreatDoorPair
import Derived.Test.YtoeclobdbblohaaGreatDoorSxW
import Derived.Test.YtoeclobdbblohaaGreatDoorNatI
import Derived.Test.YtoeclobdbblohaaGreatDoorTab
import Derived.Test.YtoeclobdbblohaaGreatDoorLay
import Derived.Test.YtoeclobdbblohaaGreatDoorLayB
import Derived.Test.YtoeclobdbblohaaGreatDoorNatX
import Derived.Test.YtoeclobdbblohaaGreatDoorSxP
import Derived.Test.YtoeclobdbblohaaGreatDoorP1
import Derived.Test.YtoeclobdbblohaaGreatDoorP2
import Derived.Test.YtoeclobdbblohaaGreatDoorP3
import Derived.Test.YtoeclobdbblohaaGreatDoorNatDx
set_option linter.unusedVariables false
set_option linter.unusedSimpArgs false
namespace Go.Proofs.YtoeclobdbblohaaGreatDoor
open Go Go.RowKit
set_option maxRecDepth 100000
theorem c_iRatDiv {w : World} {n1 : Bool} {v1 : Value} {lv1 uv1 : Nat} {z1 : List Int} {d1 : Value} {ld1 ud1 : Nat} {y1 : List Int} {n2 : Bool} {v2 : Value} {lv2 uv2 : Nat} {z2 : List Int} {d2 : Value} {ld2 ud2 : Nat} {y2 : List Int} (hv1 : Sl w lv1 uv1 v1 (z1)) (hd1 : Sl w ld1 ud1 d1 (y1)) (hv2 : Sl w lv2 uv2 v2 (z2)) (hd2 : Sl w ld2 ud2 d2 (y2)) (h63 : z1.length ≤ 4611686018427387904 ∧ y1.length ≤ 4611686018427387904 ∧ z2.length ≤ 4611686018427387904 ∧ y2.length ≤ 4611686018427387904) :
  Ret Tryz.prog 62 [.agg #[.bool n1, v1, d1], .agg #[.bool n2, v2, d2]] w fun v w' => ∃ s t ls us lt ut, v = .tuple #[.agg #[.bool ((rDiv n1 z1 y1 n2 z2 y2).1), s, t], .bool ((rDiv n1 z1 y1 n2 z2 y2).2.2.2)] ∧ OwnI w' (ls) (us) s intT ((rDiv n1 z1 y1 n2 z2 y2).2.1) ∧ OwnI w' (lt) (ut) t intT ((rDiv n1 z1 y1 n2 z2 y2).2.2.1) ∧ (w.heap.size ≤ ls ∧ us ≤ w'.heap.size ∧ w.heap.size ≤ lt ∧ ut ≤ w'.heap.size ∧ (us ≤ lt ∨ ut ≤ ls)) ∧ ((rDiv n1 z1 y1 n2 z2 y2).2.1.length ≤ 18 ∧ (rDiv n1 z1 y1 n2 z2 y2).2.2.1.length ≤ 18) ∧ Chg 0 0 w w' := by
 have hv10 := hv1.fit
 have hd10 := hd1.fit
 have hv20 := hv2.fit
 have hd20 := hd2.fit
 refine sx_enter Tryz.func62 rfl Tryz.ntmps62 (nbl rfl) ?_
 refine sx_seq fun K1 k1 => sx_region ?_
 refine sx_box [.bool n1, v1, d1] rfl rfl rfl (fun b2 w3 eb2 sb2 fb2 cb2 => ?_)
 have zw3 := cb2.size
 refine sx_box [.bool n2, v2, d2] rfl rfl rfl (fun b4 w5 eb4 sb4 fb4 cb4 => ?_)
 have zw5 := cb4.size
 refine sx_alloc [.bool false, (.slice none 0 0), (.slice none 0 0)] rfl Tryz.zeroValue37 rfl (fun b6 w7 eb6 sb6 fb6 cb6 => ?_)
 have zw7 := cb6.size
 refine av rfl rfl (wl_nil (q_n (k1 _ _ ?_)))
 refine sx_seq fun K8 k8 => ?_
 refine sx_seq fun K9 k9 => sx_region ?_
 have f10 := fb2.ext cb4
 have f11 := f10.ext cb6
 refine sp rfl (px_load rfl (f11.loadA (vs := [.bool n1, v1, d1]) (look_lit rfl) Tryz.isAgg37 Tryz.sizeOf37)) ?_
 have f12 := fb4.ext cb6
 refine sp rfl (px_load rfl (f12.loadA (vs := [.bool n2, v2, d2]) (look_lit rfl) Tryz.isAgg37 Tryz.sizeOf37)) ?_
 have f13 := hv10.ext cb2
 have f14 := f13.ext cb4
 have f15 := f14.ext cb6
 have f16 := hd10.ext cb2
 have f17 := f16.ext cb4
 have f18 := f17.ext cb6
 have f19 := hv20.ext cb2
 have f20 := f19.ext cb4
 have f21 := f20.ext cb6
 have f22 := hd20.ext cb2
 have f23 := f22.ext cb4
 have f24 := f23.ext cb6
 refine sx_call rfl rfl Tryz.call47 (c_ratsOk f15 f18 f21 f24 (by omega)) (fun v25 w25 p25 => ?_)
 obtain ⟨rfl, c25⟩ := p25
 have zw25 := c25.size
 refine sp rfl (px_notP rfl) ?_
 refine mv rfl rfl ?_
 refine sx_tmpP (t := 10) rfl (fun h82 => ?_) (fun h82 => ?_)
 ·
  refine sx_guardF rfl rfl rfl rfl rfl rfl ?_
  refine sx_guardF rfl rfl rfl rfl rfl rfl ?_
  refine sx_guardF rfl rfl rfl rfl rfl rfl ?_
  refine sx_guardF rfl rfl rfl rfl rfl rfl ?_
  refine sx_guardF rfl rfl rfl rfl rfl rfl ?_
  refine sp rfl (px_pick rfl rfl) ?_
  refine wl_nil (q_n (k9 _ _ ?_))
  refine sx_sub (Sub.c 2 rfl (.c 3 rfl (.c 4 rfl (.c 5 rfl (.c 16 rfl .nil))))) ?_
  refine sx_condT rfl ?_
  refine sx_seq fun K26 k26 => sx_region ?_
  refine sp rfl (px_build rfl (xbld37x  _)) ?_
  have f28 := fb6.ext c25
  refine sx_store (vs := [.bool false, (.slice none 0 0), (.slice none 0 0)]) rfl rfl f28 rfl Tryz.sizeOf37 (nbl rfl) (o3 rfl rfl rfl) (fun w27 sw27 fw27 cw27 => ?_)
  have zw27 := cw27.size
  have gw27 : Blk w27 b6 [.bool false, (.slice none 0 0), (.slice none 0 0)] 37 := fw27
  refine av rfl rfl (wl_nil (q_n (k26 _ _ ?_)))
  refine sx_retc ?_
  refine q_r (sx_ret2 Tryz.results62 ⟨_, rfl, gw27.loadA (vs := [.bool false, (.slice none 0 0), (.slice none 0 0)]) (look_lit rfl) Tryz.isAgg37 Tryz.sizeOf37⟩ rfl ?_)
  first | rw [rDiv_no (by assumption)] | rw [rDiv_ok hR1 hR2, rR_zero (by rw [len_zero.1 (show (dg x2.natAbs).length = 0 by omega), Nat.mul_zero])]
  have q29 := Chg.step (l := 0) (h := 0) (Chg.zero (l := 0) (h := 0) (((cb2.t cb4).t cb6).t c25)) cw27 (by omega)
  exact ⟨_, _, w.heap.size, w.heap.size, w.heap.size, w.heap.size, rfl, Own.nil _ _ _ _ _, Own.nil _ _ _ _ _, by omega, ⟨by simp [noR], by simp [noR]⟩, q29⟩
 have hR1 := (Decidable.not_not.1 h82).1
 have hR2 := (Decidable.not_not.1 h82).2
 obtain ⟨x1, e1, rfl, rfl, rfl, hp1, hx1, hy1, hg1⟩ := hR1.rat
 obtain ⟨x2, e2, rfl, rfl, rfl, hp2, hx2, hy2, hg2⟩ := hR2.rat
 have l1 := len_mul x1.natAbs e2
 have l2 := len_mul x2.natAbs e1
 have l3 := len_mul e1 e2
 have a1 : (x1 * (e2 : Int)).natAbs = x1.natAbs * e2 := by rw [Int.natAbs_mul, Int.natAbs_natCast]
 have a2 : (x2 * (e1 : Int)).natAbs = x2.natAbs * e1 := by rw [Int.natAbs_mul, Int.natAbs_natCast]
 have l4 := len_addI (x1 * (e2 : Int)) (x2 * (e1 : Int))
 rw [a1, a2] at l4
 have l5 := len_mul e1 x2.natAbs
 have l6 := len_mul x1.natAbs x2.natAbs
 refine sx_guardT rfl rfl rfl ?_
 refine sp rfl (px_field rfl xfld37x0) ?_
 refine sx_guardT rfl rfl rfl ?_
 refine sp rfl (px_field rfl xfld25x1) ?_
 refine sx_guardT rfl rfl rfl ?_
 have f30 := f12.ext c25
 refine sp rfl (px_load rfl (f30.load1 rfl Tryz.isAgg23)) ?_
 refine sx_guardT rfl rfl rfl ?_
 have f31 := f21.ext c25
 refine sp rfl (px_len rfl Tryz.underlying23 f31) ?_
 refine sx_guardT rfl rfl rfl ?_
 refine sp rfl (px_eq rfl rfl) ?_
 refine sp rfl (px_pick rfl rfl) ?_
 refine wl_nil (q_n (k9 _ _ ?_))
 refine sx_sub (Sub.c 2 rfl (.c 3 rfl (.c 4 rfl (.c 5 rfl (.c 16 rfl .nil))))) ?_
 refine sx_condP rfl (fun h82x1 => ?_) (fun h82x1 => ?_)
 ·
  refine sx_seq fun K32 k32 => sx_region ?_
  refine sp rfl (px_build rfl (xbld37x  _)) ?_
  have f34 := fb6.ext c25
  refine sx_store (vs := [.bool false, (.slice none 0 0), (.slice none 0 0)]) rfl rfl f34 rfl Tryz.sizeOf37 (nbl rfl) (o3 rfl rfl rfl) (fun w33 sw33 fw33 cw33 => ?_)
  have zw33 := cw33.size
  have gw33 : Blk w33 b6 [.bool false, (.slice none 0 0), (.slice none 0 0)] 37 := fw33
  refine av rfl rfl (wl_nil (q_n (k32 _ _ ?_)))
  refine sx_retc ?_
  refine q_r (sx_ret2 Tryz.results62 ⟨_, rfl, gw33.loadA (vs := [.bool false, (.slice none 0 0), (.slice none 0 0)]) (look_lit rfl) Tryz.isAgg37 Tryz.sizeOf37⟩ rfl ?_)
  first | rw [rDiv_no (by assumption)] | rw [rDiv_ok hR1 hR2, rR_zero (by rw [len_zero.1 (show (dg x2.natAbs).length = 0 by omega), Nat.mul_zero])]
  have q35 := Chg.step (l := 0) (h := 0) (Chg.zero (l := 0) (h := 0) (((cb2.t cb4).t cb6).t c25)) cw33 (by omega)
  exact ⟨_, _, w.heap.size, w.heap.size, w.heap.size, w.heap.size, rfl, Own.nil _ _ _ _ _, Own.nil _ _ _ _ _, by omega, ⟨by simp [noR], by simp [noR]⟩, q35⟩
 refine sx_skip ?_
 refine q_n (k8 _ _ ?_)
 refine sx_seq fun K36 k36 => ?_
 have f37 := f11.ext c25
 refine dx_region (fun w' => Chg b6 (b6 + 1) w25 w') (by kernel_rfl) (Chg.zero (Chg.drew _)) ?_
 have d41 := Chg.drew w25
 have s41 : Chg b6 (b6 + 1) w25 (World.drew w25) := Chg.zero (Chg.drew _)
 have y41 : (World.drew w25).heap.size = w25.heap.size := rfl
 generalize World.drew w25 = w41 at *
 have zw41 := d41.size
 refine dt 0 rfl rfl rfl rfl s41 (fun _ hS => px_field rfl xfld37x0) ?_
 refine dt 1 rfl rfl rfl rfl s41 (fun _ hS => px_field rfl xfld25x0) ?_
 refine dt 2 rfl rfl rfl rfl s41 (fun _ hS => px_load rfl ((f37.chg hS (by omega)).load1 rfl Tryz.isAgg4)) ?_
 refine dt 3 rfl rfl rfl rfl s41 (fun _ hS => px_field rfl xfld37x0) ?_
 refine dt 4 rfl rfl rfl rfl s41 (fun _ hS => px_field rfl xfld25x0) ?_
 refine dt 5 rfl rfl rfl rfl s41 (fun _ hS => px_load rfl ((f30.chg hS (by omega)).load1 rfl Tryz.isAgg4)) ?_
 refine dt 6 rfl rfl rfl rfl s41 (fun _ hS => px_neB Tryz.underlying4 rfl rfl) ?_
 refine dt 7 rfl rfl rfl rfl s41 (fun _ hS => px_field rfl xfld37x0) ?_
 refine dt 8 rfl rfl rfl rfl s41 (fun _ hS => px_field rfl xfld25x1) ?_
 refine dt 9 rfl rfl rfl rfl s41 (fun _ hS => px_load rfl ((f37.chg hS (by omega)).load1 rfl Tryz.isAgg23)) ?_
 refine dt 10 rfl rfl rfl rfl s41 (fun _ hS => px_field rfl xfld37x1) ?_
 refine dt 11 rfl rfl rfl rfl s41 (fun _ hS => px_load rfl ((f30.chg hS (by omega)).load1 rfl Tryz.isAgg23)) ?_
 refine dt 14 rfl rfl rfl rfl s41 (fun _ hS => px_field rfl xfld37x1) ?_
 refine dt 15 rfl rfl rfl rfl s41 (fun _ hS => px_load rfl ((f37.chg hS (by omega)).load1 rfl Tryz.isAgg23)) ?_
 refine dt 16 rfl rfl rfl rfl s41 (fun _ hS => px_field rfl xfld37x0) ?_
 refine dt 17 rfl rfl rfl rfl s41 (fun _ hS => px_field rfl xfld25x1) ?_
 refine dt 18 rfl rfl rfl rfl s41 (fun _ hS => px_load rfl ((f30.chg hS (by omega)).load1 rfl Tryz.isAgg23)) ?_
 refine dx_eff 12 rfl (by kernel_rfl) ?_
 have f42 := (f15.ext c25).ext d41
 have f43 := (f24.ext c25).ext d41
 refine sx_call rfl rfl Tryz.call49 (c_natMul f42 f43 (by omega) (by omega)) (fun v44 w44 p44 => ?_)
 obtain ⟨s44, rfl, os_44, c44⟩ := p44
 have zw44 := c44.size
 have s45 : Chg b6 (b6 + 1) w25 w44 := (Chg.zero (l := b6) (h := (b6 + 1)) (d41.t c44))
 refine wl_nil ?_
 refine dx_next s45 ?_
 refine dx_eff 13 rfl (by kernel_rfl) ?_
 refine sx_call rfl rfl Tryz.call33 (c_signed os_44.sv (by omega)) (fun v46 w46 p46 => ?_)
 obtain ⟨rfl, c46⟩ := p46
 have zw46 := c46.size
 have s47 : Chg b6 (b6 + 1) w25 w46 := (Chg.zero (l := b6) (h := (b6 + 1)) ((d41.t c44).t c46))
 refine wl_nil ?_
 refine dx_next s47 ?_
 refine dx_eff 19 rfl (by kernel_rfl) ?_
 have f50 := (((f18.ext c25).ext d41).ext c44).ext c46
 have f53 := ((f31.ext d41).ext c44).ext c46
 refine sx_call rfl rfl Tryz.call49 (c_natMul f50 f53 (by omega) (by omega)) (fun v54 w54 p54 => ?_)
 obtain ⟨s54, rfl, os_54, c54⟩ := p54
 have zw54 := c54.size
 have s55 : Chg b6 (b6 + 1) w25 w54 := (Chg.zero (l := b6) (h := (b6 + 1)) (((d41.t c44).t c46).t c54))
 refine wl_nil ?_
 refine dx_next s55 ?_
 refine dx_eff 20 rfl (by kernel_rfl) ?_
 have f57 := (os_44.ext c46).ext c54
 refine sx_call rfl rfl Tryz.call43 (c_reduce f57.sv os_54.sv (by omega) (by omega) (Nat.mul_pos hp1 (len_pos.1 (by omega)))) (fun v58 w58 p58 => ?_)
 obtain ⟨s58, t58, ls58, us58, lt58, ut58, rfl, os_58, ot_58, hd58, hl58, c58⟩ := p58
 have zw58 := c58.size
 have s59 : Chg b6 (b6 + 1) w25 w58 := (Chg.zero (l := b6) (h := (b6 + 1)) ((((d41.t c44).t c46).t c54).t c58))
 refine wl_nil ?_
 refine dx_next s59 ?_
 refine dt 21 rfl rfl rfl rfl s59 (fun _ hS => px_ex2 rfl rfl) ?_
 refine dt 22 rfl rfl rfl rfl s59 (fun _ hS => px_ex2 rfl rfl) ?_
 refine dx_eff 23 rfl (by kernel_rfl) ?_
 have f66 := (((((fb6.ext c25).ext d41).ext c44).ext c46).ext c54).ext c58
 refine sx_store (vs := [.bool ((rR (sgI (nz ((ng x1) != (ng x2)) (dg (x1.natAbs * e2))) (x1.natAbs * e2)) (e1 * x2.natAbs)).1), s58, t58]) rfl rfl f66 rfl Tryz.sizeOf37 (nbl rfl) (one_cons rfl (one_cons os_58.one (one_cons ot_58.one one_nil))) (fun w60 sw60 fw60 cw60 => ?_)
 have zw60 := cw60.size
 have gw60 : Blk w60 b6 [.bool ((rR (sgI (nz ((ng x1) != (ng x2)) (dg (x1.natAbs * e2))) (x1.natAbs * e2)) (e1 * x2.natAbs)).1), s58, t58] 37 := fw60
 have q68 := Chg.step (l := b6) (h := (b6 + 1)) (Chg.zero (l := b6) (h := (b6 + 1)) ((((d41.t c44).t c46).t c54).t c58)) cw60 (by omega)
 have s67 : Chg b6 (b6 + 1) w25 w60 := q68
 refine wl_nil ?_
 refine dx_next s67 ?_
 refine dt 24 rfl rfl rfl rfl s67 (fun _ hS => px_assign rfl) ?_
 refine dx_done (by kernel_rfl) ?_
 refine q_n (k36 _ _ ?_)
 refine sx_sub (Sub.c 4 rfl (.c 5 rfl .nil)) ?_
 refine sx_retc ?_
 refine sx_ret2 Tryz.results62 ⟨_, rfl, gw60.loadA (vs := [.bool ((rR (sgI (nz ((ng x1) != (ng x2)) (dg (x1.natAbs * e2))) (x1.natAbs * e2)) (e1 * x2.natAbs)).1), s58, t58]) (look_lit rfl) Tryz.isAgg37 Tryz.sizeOf37⟩ rfl ?_
 have hrl := rDiv_len (n1 := ng x1) (z1 := dg x1.natAbs) (y1 := dg e1) (n2 := ng x2) (z2 := dg x2.natAbs) (y2 := dg e2)
 have hre : rDiv (ng x1) (dg x1.natAbs) (dg e1) (ng x2) (dg x2.natAbs) (dg e2) = rR (sgI (nz (ng x1 != ng x2) (dg (x1.natAbs * e2))) (x1.natAbs * e2)) (e1 * x2.natAbs) := by rw [rDiv_ok hR1 hR2, sgI_nz]
 rw [hre] at hrl ⊢
 have q69 := Chg.step (l := 0) (h := 0) (Chg.zero (l := 0) (h := 0) ((((((((cb2.t cb4).t cb6).t c25).t d41).t c44).t c46).t c54).t c58)) cw60 (by omega)
 have f70 := os_58.chg cw60 (by omega)
 have f71 := ot_58.chg cw60 (by omega)
 exact ⟨_, _, _, _, _, _, rfl, f70, f71, by omega, hrl, q69⟩

theorem c_intMul {w : World} {va : Value} {lva uva : Nat} {x : Int} {vb : Value} {lvb uvb : Nat} {y : Int} (hva : Sl w lva uva va (dg x.natAbs)) (hvb : Sl w lvb uvb vb (dg y.natAbs)) (hbx : (dg x.natAbs).length ≤ 1000) (hby : (dg y.natAbs).length ≤ 1000) :
  Ret Tryz.prog 45 [.agg #[.bool (ng x), va], .agg #[.bool (ng y), vb]] w fun v w' => ∃ s, v = .agg #[.bool (ng (x * y)), s] ∧ OwnI w' w.heap.size w'.heap.size s intT (dg (x * y).natAbs) ∧ Chg 0 0 w w' := by
 have hva0 := hva.fit
 have hvb0 := hvb.fit
 have l1 := len_mul x.natAbs y.natAbs
 refine sx_enter Tryz.func45 rfl Tryz.ntmps45 (nbl rfl) ?_
 refine sx_seq fun K1 k1 => sx_region ?_
 refine sx_box [.bool (ng x), va] rfl rfl rfl (fun b2 w3 eb2 sb2 fb2 cb2 => ?_)
 have zw3 := cb2.size
 refine sx_box [.bool (ng y), vb] rfl rfl rfl (fun b4 w5 eb4 sb4 fb4 cb4 => ?_)
 have zw5 := cb4.size
 refine sx_alloc [.bool false, (.slice none 0 0)] rfl Tryz.zeroValue25 rfl (fun b6 w7 eb6 sb6 fb6 cb6 => ?_)
 have zw7 := cb6.size
 refine wl_nil (q_n (k1 _ _ ?_))
 refine sx_seq fun K8 k8 => ?_
 have f9 := fb2.ext cb4
 have f10 := f9.ext cb6
 have f11 := fb4.ext cb6
 have f12 := hva0.ext cb2
 have f13 := f12.ext cb4
 have f14 := f13.ext cb6
 have f15 := hvb0.ext cb2
 have f16 := f15.ext cb4
 have f17 := f16.ext cb6
 refine dx_region (fun w' => Chg b6 (b6 + 1) w7 w') (by kernel_rfl) (Chg.zero (Chg.drew _)) ?_
 have d18 := Chg.drew w7
 have s18 : Chg b6 (b6 + 1) w7 (World.drew w7) := Chg.zero (Chg.drew _)
 have y18 : (World.drew w7).heap.size = w7.heap.size := rfl
 generalize World.drew w7 = w18 at *
 have zw18 := d18.size
 refine dt 0 rfl rfl rfl rfl s18 (fun _ hS => px_field rfl xfld25x0) ?_
 refine dt 1 rfl rfl rfl rfl s18 (fun _ hS => px_load rfl ((f10.chg hS (by omega)).load1 rfl Tryz.isAgg4)) ?_
 refine dt 2 rfl rfl rfl rfl s18 (fun _ hS => px_field rfl xfld25x0) ?_
 refine dt 3 rfl rfl rfl rfl s18 (fun _ hS => px_load rfl ((f11.chg hS (by omega)).load1 rfl Tryz.isAgg4)) ?_
 refine dt 4 rfl rfl rfl rfl s18 (fun _ hS => px_neB Tryz.underlying4 rfl rfl) ?_
 refine dt 5 rfl rfl rfl rfl s18 (fun _ hS => px_field rfl xfld25x1) ?_
 refine dt 6 rfl rfl rfl rfl s18 (fun _ hS => px_load rfl ((f10.chg hS (by omega)).load1 rfl Tryz.isAgg23)) ?_
 refine dt 7 rfl rfl rfl rfl s18 (fun _ hS => px_field rfl xfld25x1) ?_
 refine dt 8 rfl rfl rfl rfl s18 (fun _ hS => px_load rfl ((f11.chg hS (by omega)).load1 rfl Tryz.isAgg23)) ?_
 refine dx_eff 9 rfl (by kernel_rfl) ?_
 have f19 := f14.ext d18
 have f20 := f17.ext d18
 refine sx_call rfl rfl Tryz.call49 (c_natMul f19 f20 (by omega) (by omega)) (fun v21 w21 p21 => ?_)
 obtain ⟨s21, rfl, os_21, c21⟩ := p21
 have zw21 := c21.size
 have s22 : Chg b6 (b6 + 1) w7 w21 := (Chg.zero (l := b6) (h := (b6 + 1)) (d18.t c21))
 refine wl_nil ?_
 refine dx_next s22 ?_
 refine dx_eff 10 rfl (by kernel_rfl) ?_
 refine sx_call rfl rfl Tryz.call33 (c_signed os_21.sv (by omega)) (fun v23 w23 p23 => ?_)
 obtain ⟨rfl, c23⟩ := p23
 have zw23 := c23.size
 have s24 : Chg b6 (b6 + 1) w7 w23 := (Chg.zero (l := b6) (h := (b6 + 1)) ((d18.t c21).t c23))
 refine wl_nil ?_
 refine dx_next s24 ?_
 refine dx_eff 11 rfl (by kernel_rfl) ?_
 have f28 := ((fb6.ext d18).ext c21).ext c23
 have f29 := os_21.ext c23
 refine sx_store (vs := [.bool (nz ((ng x) != (ng y)) (dg (x.natAbs * y.natAbs))), v21]) rfl rfl f28 rfl Tryz.sizeOf25 (nbl rfl) (one_cons rfl (one_cons f29.one one_nil)) (fun w25 sw25 fw25 cw25 => ?_)
 have zw25 := cw25.size
 have gw25 : Blk w25 b6 [.bool (nz ((ng x) != (ng y)) (dg (x.natAbs * y.natAbs))), v21] 25 := fw25
 have q31 := Chg.step (l := b6) (h := (b6 + 1)) (Chg.zero (l := b6) (h := (b6 + 1)) ((d18.t c21).t c23)) cw25 (by omega)
 have s30 : Chg b6 (b6 + 1) w7 w25 := q31
 refine wl_nil ?_
 refine dx_next s30 ?_
 refine dx_done (by kernel_rfl) ?_
 refine q_n (k8 _ _ ?_)
 refine sx_sub (Sub.c 4 rfl .nil) ?_
 refine sx_retc ?_
 refine sx_ret1 Tryz.results45 ⟨_, rfl, gw25.loadA (vs := [.bool (nz ((ng x) != (ng y)) (dg (x.natAbs * y.natAbs))), v21]) (look_lit rfl) Tryz.isAgg25 Tryz.sizeOf25⟩ ?_
 have hh := mul_sg x y
 rw [← hh.1, ← hh.2]
 have q32 := Chg.step (l := 0) (h := 0) (Chg.zero (l := 0) (h := 0) (((((cb2.t cb4).t cb6).t d18).t c21).t c23)) cw25 (by omega)
 have f33 := f29.chg cw25 (by omega)
 exact ⟨_, rfl, (Own.mono f33 (by omega) (by omega)), q32⟩

theorem c_iRatMul {w : World} {n1 : Bool} {v1 : Value} {lv1 uv1 : Nat} {z1 : List Int} {d1 : Value} {ld1 ud1 : Nat} {y1 : List Int} {n2 : Bool} {v2 : Value} {lv2 uv2 : Nat} {z2 : List Int} {d2 : Value} {ld2 ud2 : Nat} {y2 : List Int} (hv1 : Sl w lv1 uv1 v1 (z1)) (hd1 : Sl w ld1 ud1 d1 (y1)) (hv2 : Sl w lv2 uv2 v2 (z2)) (hd2 : Sl w ld2 ud2 d2 (y2)) (h63 : z1.length ≤ 4611686018427387904 ∧ y1.length ≤ 4611686018427387904 ∧ z2.length ≤ 4611686018427387904 ∧ y2.length ≤ 4611686018427387904) :
  Ret Tryz.prog 18 [.agg #[.bool n1, v1, d1], .agg #[.bool n2, v2, d2]] w fun v w' => ∃ s t ls us lt ut, v = .tuple #[.agg #[.bool ((rMul n1 z1 y1 n2 z2 y2).1), s, t], .bool ((rMul n1 z1 y1 n2 z2 y2).2.2.2)] ∧ OwnI w' (ls) (us) s intT ((rMul n1 z1 y1 n2 z2 y2).2.1) ∧ OwnI w' (lt) (ut) t intT ((rMul n1 z1 y1 n2 z2 y2).2.2.1) ∧ (w.heap.size ≤ ls ∧ us ≤ w'.heap.size ∧ w.heap.size ≤ lt ∧ ut ≤ w'.heap.size ∧ (us ≤ lt ∨ ut ≤ ls)) ∧ ((rMul n1 z1 y1 n2 z2 y2).2.1.length ≤ 18 ∧ (rMul n1 z1 y1 n2 z2 y2).2.2.1.length ≤ 18) ∧ Chg 0 0 w w' := by
 have hv10 := hv1.fit
 have hd10 := hd1.fit
 have hv20 := hv2.fit
 have hd20 := hd2.fit
 refine sx_enter Tryz.func18 rfl Tryz.ntmps18 (nbl rfl) ?_
 refine sx_seq fun K1 k1 => sx_region ?_
 refine sx_box [.bool n1, v1, d1] rfl rfl rfl (fun b2 w3 eb2 sb2 fb2 cb2 => ?_)
 have zw3 := cb2.size
 refine sx_box [.bool n2, v2, d2] rfl rfl rfl (fun b4 w5 eb4 sb4 fb4 cb4 => ?_)
 have zw5 := cb4.size
 refine sx_alloc [.bool false, (.slice none 0 0), (.slice none 0 0)] rfl Tryz.zeroValue37 rfl (fun b6 w7 eb6 sb6 fb6 cb6 => ?_)
 have zw7 := cb6.size
 refine av rfl rfl (wl_nil (q_n (k1 _ _ ?_)))
 refine sx_seq fun K8 k8 => ?_
 refine sx_seq fun K9 k9 => sx_region ?_
 have f10 := fb2.ext cb4
 have f11 := f10.ext cb6
 refine sp rfl (px_load rfl (f11.loadA (vs := [.bool n1, v1, d1]) (look_lit rfl) Tryz.isAgg37 Tryz.sizeOf37)) ?_
 have f12 := fb4.ext cb6
 refine sp rfl (px_load rfl (f12.loadA (vs := [.bool n2, v2, d2]) (look_lit rfl) Tryz.isAgg37 Tryz.sizeOf37)) ?_
 have f13 := hv10.ext cb2
 have f14 := f13.ext cb4
 have f15 := f14.ext cb6
 have f16 := hd10.ext cb2
 have f17 := f16.ext cb4
 have f18 := f17.ext cb6
 have f19 := hv20.ext cb2
 have f20 := f19.ext cb4
 have f21 := f20.ext cb6
 have f22 := hd20.ext cb2
 have f23 := f22.ext cb4
 have f24 := f23.ext cb6
 refine sx_call rfl rfl Tryz.call47 (c_ratsOk f15 f18 f21 f24 (by omega)) (fun v25 w25 p25 => ?_)
 obtain ⟨rfl, c25⟩ := p25
 have zw25 := c25.size
 refine sp rfl (px_notP rfl) ?_
 refine wl_nil (q_n (k9 _ _ ?_))
 refine sx_condP rfl (fun h74 => ?_) (fun h74 => ?_)
 ·
  refine sx_seq fun K26 k26 => sx_region ?_
  refine sp rfl (px_build rfl (xbld37x  _)) ?_
  have f28 := fb6.ext c25
  refine sx_store (vs := [.bool false, (.slice none 0 0), (.slice none 0 0)]) rfl rfl f28 rfl Tryz.sizeOf37 (nbl rfl) (o3 rfl rfl rfl) (fun w27 sw27 fw27 cw27 => ?_)
  have zw27 := cw27.size
  have gw27 : Blk w27 b6 [.bool false, (.slice none 0 0), (.slice none 0 0)] 37 := fw27
  refine av rfl rfl (wl_nil (q_n (k26 _ _ ?_)))
  refine sx_retc ?_
  refine q_r (sx_ret2 Tryz.results18 ⟨_, rfl, gw27.loadA (vs := [.bool false, (.slice none 0 0), (.slice none 0 0)]) (look_lit rfl) Tryz.isAgg37 Tryz.sizeOf37⟩ rfl ?_)
  rw [rMul_no h74]
  have q29 := Chg.step (l := 0) (h := 0) (Chg.zero (l := 0) (h := 0) (((cb2.t cb4).t cb6).t c25)) cw27 (by omega)
  exact ⟨_, _, w.heap.size, w.heap.size, w.heap.size, w.heap.size, rfl, Own.nil _ _ _ _ _, Own.nil _ _ _ _ _, by omega, ⟨by simp [noR], by simp [noR]⟩, q29⟩
 have hR1 := (Decidable.not_not.1 h74).1
 have hR2 := (Decidable.not_not.1 h74).2
 obtain ⟨x1, e1, rfl, rfl, rfl, hp1, hx1, hy1, hg1⟩ := hR1.rat
 obtain ⟨x2, e2, rfl, rfl, rfl, hp2, hx2, hy2, hg2⟩ := hR2.rat
 have l1 := len_mul x1.natAbs e2
 have l2 := len_mul x2.natAbs e1
 have l3 := len_mul e1 e2
 have a1 : (x1 * (e2 : Int)).natAbs = x1.natAbs * e2 := by rw [Int.natAbs_mul, Int.natAbs_natCast]
 have a2 : (x2 * (e1 : Int)).natAbs = x2.natAbs * e1 := by rw [Int.natAbs_mul, Int.natAbs_natCast]
 have l4 := len_addI (x1 * (e2 : Int)) (x2 * (e1 : Int))
 rw [a1, a2] at l4
 have l5 := len_mul e1 x2.natAbs
 have l6 := len_mul x1.natAbs x2.natAbs
 have l7 := len_mulI x1 x2
 refine sx_skip ?_
 refine q_n (k8 _ _ ?_)
 refine sx_seq fun K30 k30 => ?_
 have f31 := f11.ext c25
 have f32 := f12.ext c25
 refine dx_region (fun w' => Chg b6 (b6 + 1) w25 w') (by kernel_rfl) (Chg.zero (Chg.drew _)) ?_
 have d37 := Chg.drew w25
 have s37 : Chg b6 (b6 + 1) w25 (World.drew w25) := Chg.zero (Chg.drew _)
 have y37 : (World.drew w25).heap.size = w25.heap.size := rfl
 generalize World.drew w25 = w37 at *
 have zw37 := d37.size
 refine dt 0 rfl rfl rfl rfl s37 (fun _ hS => px_field rfl xfld37x0) ?_
 refine dt 1 rfl rfl rfl rfl s37 (fun _ hS => px_load rfl ((f31.chg hS (by omega)).loadA (vs := [.bool (ng x1), v1]) (look_lit rfl) Tryz.isAgg25 Tryz.sizeOf25)) ?_
 refine dt 2 rfl rfl rfl rfl s37 (fun _ hS => px_field rfl xfld37x0) ?_
 refine dt 3 rfl rfl rfl rfl s37 (fun _ hS => px_load rfl ((f32.chg hS (by omega)).loadA (vs := [.bool (ng x2), v2]) (look_lit rfl) Tryz.isAgg25 Tryz.sizeOf25)) ?_
 refine dt 5 rfl rfl rfl rfl s37 (fun _ hS => px_field rfl xfld37x1) ?_
 refine dt 6 rfl rfl rfl rfl s37 (fun _ hS => px_load rfl ((f31.chg hS (by omega)).load1 rfl Tryz.isAgg23)) ?_
 refine dt 7 rfl rfl rfl rfl s37 (fun _ hS => px_field rfl xfld37x1) ?_
 refine dt 8 rfl rfl rfl rfl s37 (fun _ hS => px_load rfl ((f32.chg hS (by omega)).load1 rfl Tryz.isAgg23)) ?_
 refine dx_eff 4 rfl (by kernel_rfl) ?_
 have f38 := (f15.ext c25).ext d37
 have f39 := (f21.ext c25).ext d37
 refine sx_call rfl rfl Tryz.call45 (c_intMul f38 f39 (by omega) (by omega)) (fun v40 w40 p40 => ?_)
 obtain ⟨s40, rfl, os_40, c40⟩ := p40
 have zw40 := c40.size
 have s41 : Chg b6 (b6 + 1) w25 w40 := (Chg.zero (l := b6) (h := (b6 + 1)) (d37.t c40))
 refine wl_nil ?_
 refine dx_next s41 ?_
 refine dx_eff 9 rfl (by kernel_rfl) ?_
 have f43 := ((f18.ext c25).ext d37).ext c40
 have f45 := ((f24.ext c25).ext d37).ext c40
 refine sx_call rfl rfl Tryz.call49 (c_natMul f43 f45 (by omega) (by omega)) (fun v46 w46 p46 => ?_)
 obtain ⟨s46, rfl, os_46, c46⟩ := p46
 have zw46 := c46.size
 have s47 : Chg b6 (b6 + 1) w25 w46 := (Chg.zero (l := b6) (h := (b6 + 1)) ((d37.t c40).t c46))
 refine wl_nil ?_
 refine dx_next s47 ?_
 refine dx_eff 10 rfl (by kernel_rfl) ?_
 have f48 := os_40.ext c46
 refine sx_call rfl rfl Tryz.call43 (c_reduce f48.sv os_46.sv (by omega) (by omega) (Nat.mul_pos hp1 hp2)) (fun v49 w49 p49 => ?_)
 obtain ⟨s49, t49, ls49, us49, lt49, ut49, rfl, os_49, ot_49, hd49, hl49, c49⟩ := p49
 have zw49 := c49.size
 have s50 : Chg b6 (b6 + 1) w25 w49 := (Chg.zero (l := b6) (h := (b6 + 1)) (((d37.t c40).t c46).t c49))
 refine wl_nil ?_
 refine dx_next s50 ?_
 refine dt 11 rfl rfl rfl rfl s50 (fun _ hS => px_ex2 rfl rfl) ?_
 refine dt 12 rfl rfl rfl rfl s50 (fun _ hS => px_ex2 rfl rfl) ?_
 refine dx_eff 13 rfl (by kernel_rfl) ?_
 have f56 := ((((fb6.ext c25).ext d37).ext c40).ext c46).ext c49
 refine sx_store (vs := [.bool ((rR (sgI (ng (x1 * x2)) ((x1 * x2).natAbs)) (e1 * e2)).1), s49, t49]) rfl rfl f56 rfl Tryz.sizeOf37 (nbl rfl) (one_cons rfl (one_cons os_49.one (one_cons ot_49.one one_nil))) (fun w51 sw51 fw51 cw51 => ?_)
 have zw51 := cw51.size
 have gw51 : Blk w51 b6 [.bool ((rR (sgI (ng (x1 * x2)) ((x1 * x2).natAbs)) (e1 * e2)).1), s49, t49] 37 := fw51
 have q58 := Chg.step (l := b6) (h := (b6 + 1)) (Chg.zero (l := b6) (h := (b6 + 1)) (((d37.t c40).t c46).t c49)) cw51 (by omega)
 have s57 : Chg b6 (b6 + 1) w25 w51 := q58
 refine wl_nil ?_
 refine dx_next s57 ?_
 refine dt 14 rfl rfl rfl rfl s57 (fun _ hS => px_assign rfl) ?_
 refine dx_done (by kernel_rfl) ?_
 refine q_n (k30 _ _ ?_)
 refine sx_sub (Sub.c 4 rfl (.c 5 rfl .nil)) ?_
 refine sx_retc ?_
 refine sx_ret2 Tryz.results18 ⟨_, rfl, gw51.loadA (vs := [.bool ((rR (sgI (ng (x1 * x2)) ((x1 * x2).natAbs)) (e1 * e2)).1), s49, t49]) (look_lit rfl) Tryz.isAgg37 Tryz.sizeOf37⟩ rfl ?_
 have hrl := rMul_len (n1 := ng x1) (z1 := dg x1.natAbs) (y1 := dg e1) (n2 := ng x2) (z2 := dg x2.natAbs) (y2 := dg e2)
 have hre : rMul (ng x1) (dg x1.natAbs) (dg e1) (ng x2) (dg x2.natAbs) (dg e2) = rR (sgI (ng (x1 * x2)) (x1 * x2).natAbs) (e1 * e2) := by rw [rMul_ok hR1 hR2, sgI_ng, ← sgI_nz, (mul_sg x1 x2).1, ← Int.natAbs_mul, sgI_ng]
 rw [hre] at hrl ⊢
 have q59 := Chg.step (l := 0) (h := 0) (Chg.zero (l := 0) (h := 0) (((((((cb2.t cb4).t cb6).t c25).t d37).t c40).t c46).t c49)) cw51 (by omega)
 have f60 := os_49.chg cw51 (by omega)
 have f61 := ot_49.chg cw51 (by omega)
 exact ⟨_, _, _, _, _, _, rfl, f60, f61, by omega, hrl, q59⟩

theorem c_iRatMulK {w : World} {va1 : Value} {lva1 uva1 : Nat} {x1 : Int} {vd1 : Value} {lvd1 uvd1 : Nat} {e1 : Nat} {va2 : Value} {lva2 uva2 : Nat} {x2 : Int} {vd2 : Value} {lvd2 uvd2 : Nat} {e2 : Nat} (hva1 : Sl w lva1 uva1 va1 (dg x1.natAbs)) (hvd1 : Sl w lvd1 uvd1 vd1 (dg e1)) (hva2 : Sl w lva2 uva2 va2 (dg x2.natAbs)) (hvd2 : Sl w lvd2 uvd2 vd2 (dg e2)) (hR1 : ROk (ng x1) (dg x1.natAbs) (dg e1)) (hR2 : ROk (ng x2) (dg x2.natAbs) (dg e2)) (hl : ((dg x1.natAbs).length ≤ 8 ∧ (dg x2.natAbs).length ≤ 8) ∧ (dg e1).length ≤ 8 ∧ (dg e2).length ≤ 8) (hp : 0 < x1 ∧ 0 < x2) :
  Ret Tryz.prog 18 [.agg #[.bool (ng x1), va1, vd1], .agg #[.bool (ng x2), va2, vd2]] w fun v w' => ∃ s t ls us lt ut xx ee, v = .tuple #[.agg #[.bool (ng xx), s, t], .bool (true)] ∧ OwnI w' (ls) (us) s intT (dg (xx).natAbs) ∧ OwnI w' (lt) (ut) t intT (dg ee) ∧ (w.heap.size ≤ ls ∧ us ≤ w'.heap.size ∧ w.heap.size ≤ lt ∧ ut ≤ w'.heap.size ∧ (us ≤ lt ∨ ut ≤ ls)) ∧ (ROk (ng xx) (dg (xx).natAbs) (dg ee)) ∧ (rMul (ng x1) (dg (x1).natAbs) (dg e1) (ng x2) (dg (x2).natAbs) (dg e2) = (ng xx, dg (xx).natAbs, dg ee, true)) ∧ (xx * (((e1 * e2 : Nat)) : Int) = x1 * x2 * ((ee : Nat) : Int)) ∧ Chg 0 0 w w' := by
 obtain ⟨X, E, hE, hK, hv⟩ := rMul_right hR1 hR2 hl.1.1 hl.1.2 hl.2.1 hl.2.2 hp.1 hp.2
 have h := c_iRatMul (n1 := ng x1) (n2 := ng x2) hva1 hvd1 hva2 hvd2 (by omega); rw [hE] at h
 exact Calls.mono h fun ev w' ⟨v, he, s, t, ls, us, lt, ut, e1, o1, o2, hd, _, hc⟩ => ⟨v, he, s, t, ls, us, lt, ut, X, E, e1, o1, o2, hd, hK, hE, hv, hc⟩

theorem c_iRatMulM {w : World} {va1 : Value} {lva1 uva1 : Nat} {x1 : Int} {vd1 : Value} {lvd1 uvd1 : Nat} {e1 : Nat} {va2 : Value} {lva2 uva2 : Nat} {x2 : Int} {vd2 : Value} {lvd2 uvd2 : Nat} {e2 : Nat} (hva1 : Sl w lva1 uva1 va1 (dg x1.natAbs)) (hvd1 : Sl w lvd1 uvd1 vd1 (dg e1)) (hva2 : Sl w lva2 uva2 va2 (dg x2.natAbs)) (hvd2 : Sl w lvd2 uvd2 vd2 (dg e2)) (hR1 : ROk (ng x1) (dg x1.natAbs) (dg e1)) (hR2 : ROk (ng x2) (dg x2.natAbs) (dg e2)) (hl : ((dg x1.natAbs).length ≤ 8 ∧ (dg x2.natAbs).length ≤ 8) ∧ (dg e1).length ≤ 8 ∧ (dg e2).length ≤ 8) :
  Ret Tryz.prog 18 [.agg #[.bool (ng x1), va1, vd1], .agg #[.bool (ng x2), va2, vd2]] w fun v w' => ∃ s t ls us lt ut xx ee, v = .tuple #[.agg #[.bool (ng xx), s, t], .bool (true)] ∧ OwnI w' (ls) (us) s intT (dg (xx).natAbs) ∧ OwnI w' (lt) (ut) t intT (dg ee) ∧ (w.heap.size ≤ ls ∧ us ≤ w'.heap.size ∧ w.heap.size ≤ lt ∧ ut ≤ w'.heap.size ∧ (us ≤ lt ∨ ut ≤ ls)) ∧ (ROk (ng xx) (dg (xx).natAbs) (dg ee)) ∧ (xx * (((e1 * e2 : Nat)) : Int) = x1 * x2 * ((ee : Nat) : Int)) ∧ Chg 0 0 w w' := by
 obtain ⟨X, E, hE, hK, hv⟩ := rMul_form hR1 hR2 hl.1.1 hl.1.2 hl.2.1 hl.2.2
 have h := c_iRatMul (n1 := ng x1) (n2 := ng x2) hva1 hvd1 hva2 hvd2 (by omega); rw [hE] at h
 exact Calls.mono h fun ev w' ⟨v, he, s, t, ls, us, lt, ut, e1, o1, o2, hd, _, hc⟩ => ⟨v, he, s, t, ls, us, lt, ut, X, E, e1, o1, o2, hd, hK, hv, hc⟩

theorem c_iRateOfNp {w : World} {pv : ByteArray} {vt : Value} {lvt uvt : Nat} {ts : List Rt} {vvt : List Value} {a : ByteArray} {b : ByteArray} (hG0 : Glob w) (hvt : RtS w lvt uvt vt ts vvt) (h63 : ts.length ≤ 4611686018427387904) (hz : ∀ i, i < ts.length → (ts.getD i rt0).2.2.2.1.length ≤ 4611686018427387904) (h4 : how pv ts a b ≠ 4) :
  Ret Tryz.prog 26 [.agg #[.string pv, vt], .string a, .string b] w fun v w' => ∃ s t ls us lt ut, v = .tuple #[.agg #[.bool ((rOf pv ts a b).1), s, t], .bool ((rOf pv ts a b).2.2.2)] ∧ OwnI w' (ls) (us) s intT ((rOf pv ts a b).2.1) ∧ OwnI w' (lt) (ut) t intT ((rOf pv ts a b).2.2.1) ∧ (w.heap.size ≤ ls ∧ us ≤ w'.heap.size ∧ w.heap.size ≤ lt ∧ ut ≤ w'.heap.size ∧ (us ≤ lt ∨ ut ≤ ls)) ∧ ((rOf pv ts a b).2.1.length ≤ 18 ∧ (rOf pv ts a b).2.2.1.length ≤ 18) ∧ Chg 0 0 w w' := by
 have hvt0 := hvt.fit
 refine sx_enter Tryz.func26 rfl Tryz.ntmps26 (nbl rfl) ?_
 refine sx_seq fun K1 k1 => sx_region ?_
 refine sx_box [.string pv, vt] rfl rfl rfl (fun b2 w3 eb2 sb2 fb2 cb2 => ?_)
 have zw3 := cb2.size
 refine sx_alloc [.bool false, (.slice none 0 0), (.slice none 0 0)] rfl Tryz.zeroValue37 rfl (fun b4 w5 eb4 sb4 fb4 cb4 => ?_)
 have zw5 := cb4.size
 refine av rfl rfl (wl_nil (q_n (k1 _ _ ?_)))
 refine sx_seq fun K6 k6 => ?_
 refine sx_seq fun K7 k7 => sx_region ?_
 have f8 := fb2.ext cb4
 refine sp rfl (px_load rfl (f8.loadA (vs := [.string pv, vt]) (look_lit rfl) Tryz.isAgg47 Tryz.sizeOf47)) ?_
 refine mv rfl rfl (mv rfl rfl ?_)
 have f9 := hG0.ext cb2
 have f10 := f9.ext cb4
 have f11 := hvt0.ext cb2
 have f12 := f11.ext cb4
 refine sx_call rfl rfl Tryz.call59 (c_iRateHow f10 f12 (by omega) (by first | assumption | exact fun i hi => Nat.le_trans (hzz i hi) (by omega))) (fun v13 w13 p13 => ?_)
 obtain ⟨rfl, c13⟩ := p13
 have zw13 := c13.size
 refine wl_nil (q_n (k7 _ _ ?_))
 refine sx_block ?_
 refine sx_seq fun K14 k14 => sx_region ?_
 refine sp rfl (px_eq rfl rfl) ?_
 refine av rfl rfl (wl_nil (q_n (k14 _ _ ?_)))
 refine sx_condP rfl (fun h125 => ?_) (fun h125 => ?_)
 ·
  refine sx_seq fun K15 k15 => sx_region ?_
  refine sx_call rfl rfl Tryz.call21 (c_iIntOf (by omega)) (fun v16 w16 p16 => ?_)
  obtain ⟨s16, rfl, os_16, c16⟩ := p16
  have zw16 := c16.size
  refine sx_call rfl rfl Tryz.call60 (c_iRatInt os_16.sv (by have h9 := len_i64 (n := 1) (by omega); omega)) (fun v17 w17 p17 => ?_)
  obtain ⟨s17, t17, ls17, us17, lt17, ut17, rfl, os_17, ot_17, hd17, hl17, c17⟩ := p17
  have zw17 := c17.size
  refine sp rfl (px_ex2 rfl rfl) ?_
  refine sp rfl (px_ex2 rfl rfl) ?_
  have f21 := ((fb4.ext c13).ext c16).ext c17
  refine sx_store (vs := [.bool ((rInt (ng (1 : Int)) (dg ((1 : Int)).natAbs)).1), s17, t17]) rfl rfl f21 rfl Tryz.sizeOf37 (nbl rfl) (one_cons rfl (one_cons os_17.one (one_cons ot_17.one one_nil))) (fun w18 sw18 fw18 cw18 => ?_)
  have zw18 := cw18.size
  have gw18 : Blk w18 b4 [.bool ((rInt (ng (1 : Int)) (dg ((1 : Int)).natAbs)).1), s17, t17] 37 := fw18
  refine av rfl rfl (wl_nil (q_n (k15 _ _ ?_)))
  refine sx_sub (Sub.c 6 rfl (.c 7 rfl .nil)) ?_
  refine sx_retc ?_
  refine q_br (q_r (sx_ret2 Tryz.results26 ⟨_, rfl, gw18.loadA (vs := [.bool ((rInt (ng (1 : Int)) (dg ((1 : Int)).natAbs)).1), s17, t17]) (look_lit rfl) Tryz.isAgg37 Tryz.sizeOf37⟩ rfl ?_))
  have hrl := rOf_len (pv := pv) (ts := ts) (a := a) (b := b)
  rw [rOf_1 h125] at hrl ⊢
  have q22 := Chg.step (l := 0) (h := 0) (Chg.zero (l := 0) (h := 0) ((((cb2.t cb4).t c13).t c16).t c17)) cw18 (by omega)
  have f23 := os_17.chg cw18 (by omega)
  have f24 := ot_17.chg cw18 (by omega)
  exact ⟨_, _, _, _, _, _, rfl, f23, f24, by omega, hrl, q22⟩
 refine sx_seq fun K25 k25 => sx_region ?_
 refine sp rfl (px_eq rfl rfl) ?_
 refine av rfl rfl (wl_nil (q_n (k25 _ _ ?_)))
 refine sx_condP rfl (fun h127 => ?_) (fun h127 => ?_)
 ·
  refine sx_seq fun K26 k26 => sx_region ?_
  have f27 := f8.ext c13
  refine sp rfl (px_load rfl (f27.loadA (vs := [.string pv, vt]) (look_lit rfl) Tryz.isAgg47 Tryz.sizeOf47)) ?_
  refine mv rfl rfl (mv rfl rfl (sp rfl (px_build rfl (xbld107x0x1 rfl rfl _)) ?_))
  have f28 := f12.ext c13
  refine sx_call rfl rfl Tryz.call61 (c_listed f28 (by omega)) (fun v29 w29 p29 => ?_)
  obtain ⟨s29, rfl, os_29, c29⟩ := p29
  have zw29 := c29.size
  refine mv rfl rfl (sp rfl (px_ex2 rfl rfl) ?_)
  refine sp rfl (px_ex2 rfl rfl) ?_
  refine sx_alloc [.bool false, (.slice none 0 0), .int .i64 0] rfl Tryz.zeroValue27 rfl (fun b30 w31 eb30 sb30 fb30 cb30 => ?_)
  have zw31 := cb30.size
  have f33 := os_29.ext cb30
  refine sx_store (vs := [.bool ((lst ts a b).1), s29, .int .i64 ((lst ts a b).2.2.1)]) rfl rfl fb30 rfl Tryz.sizeOf27 (nbl rfl) (one_cons rfl (one_cons f33.one (o1 rfl))) (fun w32 sw32 fw32 cw32 => ?_)
  have zw32 := cw32.size
  have gw32 : Blk w32 b30 [.bool ((lst ts a b).1), s29, .int .i64 ((lst ts a b).2.2.1)] 27 := fw32
  refine av rfl rfl (wl_nil (q_n (k26 _ _ ?_)))
  refine sx_sub (Sub.c 6 rfl (.c 7 rfl (.c 8 rfl .nil))) ?_
  refine sx_seq fun K34 k34 => sx_region ?_
  refine sp rfl (px_load rfl (gw32.loadA (vs := [.bool ((lst ts a b).1), s29, .int .i64 ((lst ts a b).2.2.1)]) (look_lit rfl) Tryz.isAgg27 Tryz.sizeOf27)) ?_
  have f35 := f33.chg cw32 (by omega)
  refine sx_call rfl rfl Tryz.call11 (c_iDecRat f35 (by first | exact lst_len hz | exact hz _ (by omega) | (have h9 := len_i64 (n := 1) (by omega); omega))) (fun v36 w36 p36 => ?_)
  obtain ⟨s36, t36, ls36, us36, lt36, ut36, rfl, os_36, ot_36, hd36, hl36, c36⟩ := p36
  have zw36 := c36.size
  have f40 := ((fb4.ext c13).ext c29).ext cb30
  have f41 := f40.chg cw32 (by omega)
  have f42 := f41.ext c36
  refine sx_store (vs := [.bool ((dRat ((lst ts a b).1) ((lst ts a b).2.1) ((lst ts a b).2.2.1)).1), s36, t36]) rfl rfl f42 rfl Tryz.sizeOf37 (nbl rfl) (one_cons rfl (one_cons os_36.one (one_cons ot_36.one one_nil))) (fun w37 sw37 fw37 cw37 => ?_)
  have zw37 := cw37.size
  have gw37 : Blk w37 b4 [.bool ((dRat ((lst ts a b).1) ((lst ts a b).2.1) ((lst ts a b).2.2.1)).1), s36, t36] 37 := fw37
  refine av rfl rfl (wl_nil (q_n (k34 _ _ ?_)))
  refine sx_retc ?_
  refine q_br (q_r (sx_ret2 Tryz.results26 ⟨_, rfl, gw37.loadA (vs := [.bool ((dRat ((lst ts a b).1) ((lst ts a b).2.1) ((lst ts a b).2.2.1)).1), s36, t36]) (look_lit rfl) Tryz.isAgg37 Tryz.sizeOf37⟩ rfl ?_))
  have hrl := rOf_len (pv := pv) (ts := ts) (a := a) (b := b)
  have hps := (rOf_23 (.inl h127)).2.ok
  rw [← (rOf_23 (.inl h127)).1, rOf_2 h127] at hps
  rw [rOf_2 h127] at hrl ⊢
  have q43 := Chg.step (l := 0) (h := 0) (Chg.zero (l := 0) (h := 0) ((((cb2.t cb4).t c13).t c29).t cb30)) cw32 (by omega)
  have q44 := Chg.step (l := 0) (h := 0) q43 c36 (by omega)
  have q45 := Chg.step (l := 0) (h := 0) q44 cw37 (by omega)
  have f46 := os_36.chg cw37 (by omega)
  have f47 := ot_36.chg cw37 (by omega)
  exact ⟨_, _, _, _, _, _, by rw [hps], f46, f47, by omega, hrl, q45⟩
 refine sx_seq fun K48 k48 => sx_region ?_
 refine sp rfl (px_eq rfl rfl) ?_
 refine av rfl rfl (wl_nil (q_n (k48 _ _ ?_)))
 refine sx_sub (Sub.c 1 rfl (.c 2 rfl (.c 3 rfl (.c 6 rfl (.c 7 rfl (.c 19 rfl (.c 38 rfl .nil))))))) ?_
 refine sx_condP rfl (fun h130 => ?_) (fun h130 => ?_)
 ·
  refine sx_seq fun K49 k49 => sx_region ?_
  have f50 := f8.ext c13
  refine sp rfl (px_load rfl (f50.loadA (vs := [.string pv, vt]) (look_lit rfl) Tryz.isAgg47 Tryz.sizeOf47)) ?_
  refine mv rfl rfl (mv rfl rfl (sp rfl (px_build rfl (xbld107x0x1 rfl rfl _)) ?_))
  have f51 := f12.ext c13
  refine sx_call rfl rfl Tryz.call61 (c_listed f51 (by omega)) (fun v52 w52 p52 => ?_)
  obtain ⟨s52, rfl, os_52, c52⟩ := p52
  have zw52 := c52.size
  refine mv rfl rfl (sp rfl (px_ex2 rfl rfl) ?_)
  refine sp rfl (px_ex2 rfl rfl) ?_
  refine sx_alloc [.bool false, (.slice none 0 0), .int .i64 0] rfl Tryz.zeroValue27 rfl (fun b53 w54 eb53 sb53 fb53 cb53 => ?_)
  have zw54 := cb53.size
  have f56 := os_52.ext cb53
  refine sx_store (vs := [.bool ((lst ts b a).1), s52, .int .i64 ((lst ts b a).2.2.1)]) rfl rfl fb53 rfl Tryz.sizeOf27 (nbl rfl) (one_cons rfl (one_cons f56.one (o1 rfl))) (fun w55 sw55 fw55 cw55 => ?_)
  have zw55 := cw55.size
  have gw55 : Blk w55 b53 [.bool ((lst ts b a).1), s52, .int .i64 ((lst ts b a).2.2.1)] 27 := fw55
  refine av rfl rfl (wl_nil (q_n (k49 _ _ ?_)))
  refine sx_sub (Sub.c 6 rfl (.c 7 rfl (.c 10 rfl .nil))) ?_
  refine sx_seq fun K57 k57 => ?_
  have f60 := ((f10.ext c13).ext c52).ext cb53
  have f61 := f60.chg cw55 (by omega)
  have f63 := (f50.ext c52).ext cb53
  have f64 := f63.chg cw55 (by omega)
  have f66 := (f51.ext c52).ext cb53
  have f67 := f66.chg cw55 (by omega)
  have f68 := f56.chg cw55 (by omega)
  refine dx_region (fun w' => Chg b4 (b4 + 1) w55 w') (by kernel_rfl) (Chg.zero (Chg.drew _)) ?_
  have d69 := Chg.drew w55
  have s69 : Chg b4 (b4 + 1) w55 (World.drew w55) := Chg.zero (Chg.drew _)
  have y69 : (World.drew w55).heap.size = w55.heap.size := rfl
  generalize World.drew w55 = w69 at *
  have zw69 := d69.size
  refine dt 3 rfl rfl rfl rfl s69 (fun _ hS => px_load rfl ((gw55.chg hS (by omega)).loadA (vs := [.bool ((lst ts b a).1), s52, .int .i64 ((lst ts b a).2.2.1)]) (look_lit rfl) Tryz.isAgg27 Tryz.sizeOf27)) ?_
  refine dx_eff 0 rfl (by kernel_rfl) ?_
  refine sx_call rfl rfl Tryz.call21 (c_iIntOf (by omega)) (fun v70 w70 p70 => ?_)
  obtain ⟨s70, rfl, os_70, c70⟩ := p70
  have zw70 := c70.size
  have s71 : Chg b4 (b4 + 1) w55 w70 := (Chg.zero (l := b4) (h := (b4 + 1)) (d69.t c70))
  refine wl_nil ?_
  refine dx_next s71 ?_
  refine dt 1 rfl rfl rfl rfl s71 (fun _ hS => px_build rfl (xbld27x0x1 rfl _)) ?_
  refine dx_eff 2 rfl (by kernel_rfl) ?_
  refine sx_call rfl rfl Tryz.call11 (c_iDecRat os_70.sv (by first | exact lst_len hz | exact hz _ (by omega) | (have h9 := len_i64 (n := 1) (by omega); omega))) (fun v72 w72 p72 => ?_)
  obtain ⟨s72, t72, ls72, us72, lt72, ut72, rfl, os_72, ot_72, hd72, hl72, c72⟩ := p72
  have zw72 := c72.size
  have s73 : Chg b4 (b4 + 1) w55 w72 := (Chg.zero (l := b4) (h := (b4 + 1)) ((d69.t c70).t c72))
  refine wl_nil ?_
  refine dx_next s73 ?_
  refine dx_eff 4 rfl (by kernel_rfl) ?_
  have f76 := ((f68.ext d69).ext c70).ext c72
  refine sx_call rfl rfl Tryz.call11 (c_iDecRat f76 (by first | exact lst_len hz | exact hz _ (by omega) | (have h9 := len_i64 (n := 1) (by omega); omega))) (fun v77 w77 p77 => ?_)
  obtain ⟨s77, t77, ls77, us77, lt77, ut77, rfl, os_77, ot_77, hd77, hl77, c77⟩ := p77
  have zw77 := c77.size
  have s78 : Chg b4 (b4 + 1) w55 w77 := (Chg.zero (l := b4) (h := (b4 + 1)) (((d69.t c70).t c72).t c77))
  refine wl_nil ?_
  refine dx_next s78 ?_
  refine dx_eff 5 rfl (by kernel_rfl) ?_
  have f79 := os_72.ext c77
  have f80 := ot_72.ext c77
  refine sx_call rfl rfl Tryz.call62 (c_iRatDiv f79.sv f80.sv os_77.sv ot_77.sv (by omega)) (fun v81 w81 p81 => ?_)
  obtain ⟨s81, t81, ls81, us81, lt81, ut81, rfl, os_81, ot_81, hd81, hl81, c81⟩ := p81
  have zw81 := c81.size
  have s82 : Chg b4 (b4 + 1) w55 w81 := (Chg.zero (l := b4) (h := (b4 + 1)) ((((d69.t c70).t c72).t c77).t c81))
  refine wl_nil ?_
  refine dx_next s82 ?_
  refine dt 6 rfl rfl rfl rfl s82 (fun _ hS => px_ex2 rfl rfl) ?_
  refine dt 7 rfl rfl rfl rfl s82 (fun _ hS => px_ex2 rfl rfl) ?_
  refine dx_eff 8 rfl (by kernel_rfl) ?_
  have f86 := ((fb4.ext c13).ext c52).ext cb53
  have f87 := f86.chg cw55 (by omega)
  have f92 := ((((f87.ext d69).ext c70).ext c72).ext c77).ext c81
  refine sx_store (vs := [.bool ((rDiv ((dRat (ng (1 : Int)) (dg ((1 : Int)).natAbs) (0 : Int)).1) ((dRat (ng (1 : Int)) (dg ((1 : Int)).natAbs) (0 : Int)).2.1) ((dRat (ng (1 : Int)) (dg ((1 : Int)).natAbs) (0 : Int)).2.2.1) ((dRat ((lst ts b a).1) ((lst ts b a).2.1) ((lst ts b a).2.2.1)).1) ((dRat ((lst ts b a).1) ((lst ts b a).2.1) ((lst ts b a).2.2.1)).2.1) ((dRat ((lst ts b a).1) ((lst ts b a).2.1) ((lst ts b a).2.2.1)).2.2.1)).1), s81, t81]) rfl rfl f92 rfl Tryz.sizeOf37 (nbl rfl) (one_cons rfl (one_cons os_81.one (one_cons ot_81.one one_nil))) (fun w83 sw83 fw83 cw83 => ?_)
  have zw83 := cw83.size
  have gw83 : Blk w83 b4 [.bool ((rDiv ((dRat (ng (1 : Int)) (dg ((1 : Int)).natAbs) (0 : Int)).1) ((dRat (ng (1 : Int)) (dg ((1 : Int)).natAbs) (0 : Int)).2.1) ((dRat (ng (1 : Int)) (dg ((1 : Int)).natAbs) (0 : Int)).2.2.1) ((dRat ((lst ts b a).1) ((lst ts b a).2.1) ((lst ts b a).2.2.1)).1) ((dRat ((lst ts b a).1) ((lst ts b a).2.1) ((lst ts b a).2.2.1)).2.1) ((dRat ((lst ts b a).1) ((lst ts b a).2.1) ((lst ts b a).2.2.1)).2.2.1)).1), s81, t81] 37 := fw83
  have q94 := Chg.step (l := b4) (h := (b4 + 1)) (Chg.zero (l := b4) (h := (b4 + 1)) ((((d69.t c70).t c72).t c77).t c81)) cw83 (by omega)
  have s93 : Chg b4 (b4 + 1) w55 w83 := q94
  refine wl_nil ?_
  refine dx_next s93 ?_
  refine dt 9 rfl rfl rfl rfl s93 (fun _ hS => px_assign rfl) ?_
  refine dx_done (by kernel_rfl) ?_
  refine q_n (k57 _ _ ?_)
  refine sx_retc ?_
  refine q_br (q_r (sx_ret2 Tryz.results26 ⟨_, rfl, gw83.loadA (vs := [.bool ((rDiv ((dRat (ng (1 : Int)) (dg ((1 : Int)).natAbs) (0 : Int)).1) ((dRat (ng (1 : Int)) (dg ((1 : Int)).natAbs) (0 : Int)).2.1) ((dRat (ng (1 : Int)) (dg ((1 : Int)).natAbs) (0 : Int)).2.2.1) ((dRat ((lst ts b a).1) ((lst ts b a).2.1) ((lst ts b a).2.2.1)).1) ((dRat ((lst ts b a).1) ((lst ts b a).2.1) ((lst ts b a).2.2.1)).2.1) ((dRat ((lst ts b a).1) ((lst ts b a).2.1) ((lst ts b a).2.2.1)).2.2.1)).1), s81, t81]) (look_lit rfl) Tryz.isAgg37 Tryz.sizeOf37⟩ rfl ?_))
  have hrl := rOf_len (pv := pv) (ts := ts) (a := a) (b := b)
  rw [rOf_3 h130] at hrl ⊢
  have q95 := Chg.step (l := 0) (h := 0) (Chg.zero (l := 0) (h := 0) ((((cb2.t cb4).t c13).t c52).t cb53)) cw55 (by omega)
  have q96 := Chg.step (l := 0) (h := 0) q95 ((((d69.t c70).t c72).t c77).t c81) (by omega)
  have q97 := Chg.step (l := 0) (h := 0) q96 cw83 (by omega)
  have f98 := os_81.chg cw83 (by omega)
  have f99 := ot_81.chg cw83 (by omega)
  exact ⟨_, _, _, _, _, _, rfl, f98, f99, by omega, hrl, q97⟩
 refine sx_seq fun K100 k100 => sx_region ?_
 refine sp rfl (px_eq rfl rfl) ?_
 refine av rfl rfl (wl_nil (q_n (k100 _ _ ?_)))
 have h133 : ¬ ((how pv ts a b : Int) = 4) := h4
 refine sx_condPF rfl h133 ?_
 refine sx_skip ?_
 refine q_bn (q_n (k6 _ _ ?_))
 refine sx_seq fun K101 k101 => sx_region ?_
 refine sp rfl (px_build rfl (xbld37x  _)) ?_
 have f103 := fb4.ext c13
 refine sx_store (vs := [.bool false, (.slice none 0 0), (.slice none 0 0)]) rfl rfl f103 rfl Tryz.sizeOf37 (nbl rfl) (o3 rfl rfl rfl) (fun w102 sw102 fw102 cw102 => ?_)
 have zw102 := cw102.size
 have gw102 : Blk w102 b4 [.bool false, (.slice none 0 0), (.slice none 0 0)] 37 := fw102
 refine av rfl rfl (wl_nil (q_n (k101 _ _ ?_)))
 refine sx_retc ?_
 refine sx_ret2 Tryz.results26 ⟨_, rfl, gw102.loadA (vs := [.bool false, (.slice none 0 0), (.slice none 0 0)]) (look_lit rfl) Tryz.isAgg37 Tryz.sizeOf37⟩ rfl ?_
 rw [rOf_0 h125 h127 h130 h4]
 have q104 := Chg.step (l := 0) (h := 0) (Chg.zero (l := 0) (h := 0) ((cb2.t cb4).t c13)) cw102 (by omega)
 exact ⟨_, _, w.heap.size, w.heap.size, w.heap.size, w.heap.size, rfl, Own.nil _ _ _ _ _, Own.nil _ _ _ _ _, by omega, ⟨by simp [noR], by simp [noR]⟩, q104⟩

theorem c_iRateOf {w : World} {pv : ByteArray} {vt : Value} {lvt uvt : Nat} {ts : List Rt} {vvt : List Value} {a : ByteArray} {b : ByteArray} (hG0 : Glob w) (hvt : RtS w lvt uvt vt ts vvt) (h63 : ts.length ≤ 4611686018427387904) (hz : ∀ i, i < ts.length → (ts.getD i rt0).2.2.2.1.length ≤ 4611686018427387904) :
  Ret Tryz.prog 26 [.agg #[.string pv, vt], .string a, .string b] w fun v w' => ∃ s t ls us lt ut, v = .tuple #[.agg #[.bool ((rOf pv ts a b).1), s, t], .bool ((rOf pv ts a b).2.2.2)] ∧ OwnI w' (ls) (us) s intT ((rOf pv ts a b).2.1) ∧ OwnI w' (lt) (ut) t intT ((rOf pv ts a b).2.2.1) ∧ (w.heap.size ≤ ls ∧ us ≤ w'.heap.size ∧ w.heap.size ≤ lt ∧ ut ≤ w'.heap.size ∧ (us ≤ lt ∨ ut ≤ ls)) ∧ ((rOf pv ts a b).2.1.length ≤ 18 ∧ (rOf pv ts a b).2.2.1.length ≤ 18) ∧ Chg 0 0 w w' := by
 have hvt0 := hvt.fit
 refine sx_enter Tryz.func26 rfl Tryz.ntmps26 (nbl rfl) ?_
 refine sx_seq fun K1 k1 => sx_region ?_
 refine sx_box [.string pv, vt] rfl rfl rfl (fun b2 w3 eb2 sb2 fb2 cb2 => ?_)
 have zw3 := cb2.size
 refine sx_alloc [.bool false, (.slice none 0 0), (.slice none 0 0)] rfl Tryz.zeroValue37 rfl (fun b4 w5 eb4 sb4 fb4 cb4 => ?_)
 have zw5 := cb4.size
 refine av rfl rfl (wl_nil (q_n (k1 _ _ ?_)))
 refine sx_seq fun K6 k6 => ?_
 refine sx_seq fun K7 k7 => sx_region ?_
 have f8 := fb2.ext cb4
 refine sp rfl (px_load rfl (f8.loadA (vs := [.string pv, vt]) (look_lit rfl) Tryz.isAgg47 Tryz.sizeOf47)) ?_
 refine mv rfl rfl (mv rfl rfl ?_)
 have f9 := hG0.ext cb2
 have f10 := f9.ext cb4
 have f11 := hvt0.ext cb2
 have f12 := f11.ext cb4
 refine sx_call rfl rfl Tryz.call59 (c_iRateHow f10 f12 (by omega) (by first | assumption | exact fun i hi => Nat.le_trans (hzz i hi) (by omega))) (fun v13 w13 p13 => ?_)
 obtain ⟨rfl, c13⟩ := p13
 have zw13 := c13.size
 refine wl_nil (q_n (k7 _ _ ?_))
 refine sx_block ?_
 refine sx_seq fun K14 k14 => sx_region ?_
 refine sp rfl (px_eq rfl rfl) ?_
 refine av rfl rfl (wl_nil (q_n (k14 _ _ ?_)))
 refine sx_condP rfl (fun h125 => ?_) (fun h125 => ?_)
 ·
  refine sx_seq fun K15 k15 => sx_region ?_
  refine sx_call rfl rfl Tryz.call21 (c_iIntOf (by omega)) (fun v16 w16 p16 => ?_)
  obtain ⟨s16, rfl, os_16, c16⟩ := p16
  have zw16 := c16.size
  refine sx_call rfl rfl Tryz.call60 (c_iRatInt os_16.sv (by have h9 := len_i64 (n := 1) (by omega); omega)) (fun v17 w17 p17 => ?_)
  obtain ⟨s17, t17, ls17, us17, lt17, ut17, rfl, os_17, ot_17, hd17, hl17, c17⟩ := p17
  have zw17 := c17.size
  refine sp rfl (px_ex2 rfl rfl) ?_
  refine sp rfl (px_ex2 rfl rfl) ?_
  have f21 := ((fb4.ext c13).ext c16).ext c17
  refine sx_store (vs := [.bool ((rInt (ng (1 : Int)) (dg ((1 : Int)).natAbs)).1), s17, t17]) rfl rfl f21 rfl Tryz.sizeOf37 (nbl rfl) (one_cons rfl (one_cons os_17.one (one_cons ot_17.one one_nil))) (fun w18 sw18 fw18 cw18 => ?_)
  have zw18 := cw18.size
  have gw18 : Blk w18 b4 [.bool ((rInt (ng (1 : Int)) (dg ((1 : Int)).natAbs)).1), s17, t17] 37 := fw18
  refine av rfl rfl (wl_nil (q_n (k15 _ _ ?_)))
  refine sx_sub (Sub.c 6 rfl (.c 7 rfl .nil)) ?_
  refine sx_retc ?_
  refine q_br (q_r (sx_ret2 Tryz.results26 ⟨_, rfl, gw18.loadA (vs := [.bool ((rInt (ng (1 : Int)) (dg ((1 : Int)).natAbs)).1), s17, t17]) (look_lit rfl) Tryz.isAgg37 Tryz.sizeOf37⟩ rfl ?_))
  have hrl := rOf_len (pv := pv) (ts := ts) (a := a) (b := b)
  rw [rOf_1 h125] at hrl ⊢
  have q22 := Chg.step (l := 0) (h := 0) (Chg.zero (l := 0) (h := 0) ((((cb2.t cb4).t c13).t c16).t c17)) cw18 (by omega)
  have f23 := os_17.chg cw18 (by omega)
  have f24 := ot_17.chg cw18 (by omega)
  exact ⟨_, _, _, _, _, _, rfl, f23, f24, by omega, hrl, q22⟩
 refine sx_seq fun K25 k25 => sx_region ?_
 refine sp rfl (px_eq rfl rfl) ?_
 refine av rfl rfl (wl_nil (q_n (k25 _ _ ?_)))
 refine sx_condP rfl (fun h127 => ?_) (fun h127 => ?_)
 ·
  refine sx_seq fun K26 k26 => sx_region ?_
  have f27 := f8.ext c13
  refine sp rfl (px_load rfl (f27.loadA (vs := [.string pv, vt]) (look_lit rfl) Tryz.isAgg47 Tryz.sizeOf47)) ?_
  refine mv rfl rfl (mv rfl rfl (sp rfl (px_build rfl (xbld107x0x1 rfl rfl _)) ?_))
  have f28 := f12.ext c13
  refine sx_call rfl rfl Tryz.call61 (c_listed f28 (by omega)) (fun v29 w29 p29 => ?_)
  obtain ⟨s29, rfl, os_29, c29⟩ := p29
  have zw29 := c29.size
  refine mv rfl rfl (sp rfl (px_ex2 rfl rfl) ?_)
  refine sp rfl (px_ex2 rfl rfl) ?_
  refine sx_alloc [.bool false, (.slice none 0 0), .int .i64 0] rfl Tryz.zeroValue27 rfl (fun b30 w31 eb30 sb30 fb30 cb30 => ?_)
  have zw31 := cb30.size
  have f33 := os_29.ext cb30
  refine sx_store (vs := [.bool ((lst ts a b).1), s29, .int .i64 ((lst ts a b).2.2.1)]) rfl rfl fb30 rfl Tryz.sizeOf27 (nbl rfl) (one_cons rfl (one_cons f33.one (o1 rfl))) (fun w32 sw32 fw32 cw32 => ?_)
  have zw32 := cw32.size
  have gw32 : Blk w32 b30 [.bool ((lst ts a b).1), s29, .int .i64 ((lst ts a b).2.2.1)] 27 := fw32
  refine av rfl rfl (wl_nil (q_n (k26 _ _ ?_)))
  refine sx_sub (Sub.c 6 rfl (.c 7 rfl (.c 8 rfl .nil))) ?_
  refine sx_seq fun K34 k34 => sx_region ?_
  refine sp rfl (px_load rfl (gw32.loadA (vs := [.bool ((lst ts a b).1), s29, .int .i64 ((lst ts a b).2.2.1)]) (look_lit rfl) Tryz.isAgg27 Tryz.sizeOf27)) ?_
  have f35 := f33.chg cw32 (by omega)
  refine sx_call rfl rfl Tryz.call11 (c_iDecRat f35 (by first | exact lst_len hz | exact hz _ (by omega) | (have h9 := len_i64 (n := 1) (by omega); omega))) (fun v36 w36 p36 => ?_)
  obtain ⟨s36, t36, ls36, us36, lt36, ut36, rfl, os_36, ot_36, hd36, hl36, c36⟩ := p36
  have zw36 := c36.size
  have f40 := ((fb4.ext c13).ext c29).ext cb30
  have f41 := f40.chg cw32 (by omega)
  have f42 := f41.ext c36
  refine sx_store (vs := [.bool ((dRat ((lst ts a b).1) ((lst ts a b).2.1) ((lst ts a b).2.2.1)).1), s36, t36]) rfl rfl f42 rfl Tryz.sizeOf37 (nbl rfl) (one_cons rfl (one_cons os_36.one (one_cons ot_36.one one_nil))) (fun w37 sw37 fw37 cw37 => ?_)
  have zw37 := cw37.size
  have gw37 : Blk w37 b4 [.bool ((dRat ((lst ts a b).1) ((lst ts a b).2.1) ((lst ts a b).2.2.1)).1), s36, t36] 37 := fw37
  refine av rfl rfl (wl_nil (q_n (k34 _ _ ?_)))
  refine sx_retc ?_
  refine q_br (q_r (sx_ret2 Tryz.results26 ⟨_, rfl, gw37.loadA (vs := [.bool ((dRat ((lst ts a b).1) ((lst ts a b).2.1) ((lst ts a b).2.2.1)).1), s36, t36]) (look_lit rfl) Tryz.isAgg37 Tryz.sizeOf37⟩ rfl ?_))
  have hrl := rOf_len (pv := pv) (ts := ts) (a := a) (b := b)
  have hps := (rOf_23 (.inl h127)).2.ok
  rw [← (rOf_23 (.inl h127)).1, rOf_2 h127] at hps
  rw [rOf_2 h127] at hrl ⊢
  have q43 := Chg.step (l := 0) (h := 0) (Chg.zero (l := 0) (h := 0) ((((cb2.t cb4).t c13).t c29).t cb30)) cw32 (by omega)
  have q44 := Chg.step (l := 0) (h := 0) q43 c36 (by omega)
  have q45 := Chg.step (l := 0) (h := 0) q44 cw37 (by omega)
  have f46 := os_36.chg cw37 (by omega)
  have f47 := ot_36.chg cw37 (by omega)
  exact ⟨_, _, _, _, _, _, by rw [hps], f46, f47, by omega, hrl, q45⟩
 refine sx_seq fun K48 k48 => sx_region ?_
 refine sp rfl (px_eq rfl rfl) ?_
 refine av rfl rfl (wl_nil (q_n (k48 _ _ ?_)))
 refine sx_sub (Sub.c 1 rfl (.c 2 rfl (.c 3 rfl (.c 6 rfl (.c 7 rfl (.c 19 rfl (.c 38 rfl .nil))))))) ?_
 refine sx_condP rfl (fun h130 => ?_) (fun h130 => ?_)
 ·
  refine sx_seq fun K49 k49 => sx_region ?_
  have f50 := f8.ext c13
  refine sp rfl (px_load rfl (f50.loadA (vs := [.string pv, vt]) (look_lit rfl) Tryz.isAgg47 Tryz.sizeOf47)) ?_
  refine mv rfl rfl (mv rfl rfl (sp rfl (px_build rfl (xbld107x0x1 rfl rfl _)) ?_))
  have f51 := f12.ext c13
  refine sx_call rfl rfl Tryz.call61 (c_listed f51 (by omega)) (fun v52 w52 p52 => ?_)
  obtain ⟨s52, rfl, os_52, c52⟩ := p52
  have zw52 := c52.size
  refine mv rfl rfl (sp rfl (px_ex2 rfl rfl) ?_)
  refine sp rfl (px_ex2 rfl rfl) ?_
  refine sx_alloc [.bool false, (.slice none 0 0), .int .i64 0] rfl Tryz.zeroValue27 rfl (fun b53 w54 eb53 sb53 fb53 cb53 => ?_)
  have zw54 := cb53.size
  have f56 := os_52.ext cb53
  refine sx_store (vs := [.bool ((lst ts b a).1), s52, .int .i64 ((lst ts b a).2.2.1)]) rfl rfl fb53 rfl Tryz.sizeOf27 (nbl rfl) (one_cons rfl (one_cons f56.one (o1 rfl))) (fun w55 sw55 fw55 cw55 => ?_)
  have zw55 := cw55.size
  have gw55 : Blk w55 b53 [.bool ((lst ts b a).1), s52, .int .i64 ((lst ts b a).2.2.1)] 27 := fw55
  refine av rfl rfl (wl_nil (q_n (k49 _ _ ?_)))
  refine sx_sub (Sub.c 6 rfl (.c 7 rfl (.c 10 rfl .nil))) ?_
  refine sx_seq fun K57 k57 => ?_
  have f60 := ((f10.ext c13).ext c52).ext cb53
  have f61 := f60.chg cw55 (by omega)
  have f63 := (f50.ext c52).ext cb53
  have f64 := f63.chg cw55 (by omega)
  have f66 := (f51.ext c52).ext cb53
  have f67 := f66.chg cw55 (by omega)
  have f68 := f56.chg cw55 (by omega)
  refine dx_region (fun w' => Chg b4 (b4 + 1) w55 w') (by kernel_rfl) (Chg.zero (Chg.drew _)) ?_
  have d69 := Chg.drew w55
  have s69 : Chg b4 (b4 + 1) w55 (World.drew w55) := Chg.zero (Chg.drew _)
  have y69 : (World.drew w55).heap.size = w55.heap.size := rfl
  generalize World.drew w55 = w69 at *
  have zw69 := d69.size
  refine dt 3 rfl rfl rfl rfl s69 (fun _ hS => px_load rfl ((gw55.chg hS (by omega)).loadA (vs := [.bool ((lst ts b a).1), s52, .int .i64 ((lst ts b a).2.2.1)]) (look_lit rfl) Tryz.isAgg27 Tryz.sizeOf27)) ?_
  refine dx_eff 0 rfl (by kernel_rfl) ?_
  refine sx_call rfl rfl Tryz.call21 (c_iIntOf (by omega)) (fun v70 w70 p70 => ?_)
  obtain ⟨s70, rfl, os_70, c70⟩ := p70
  have zw70 := c70.size
  have s71 : Chg b4 (b4 + 1) w55 w70 := (Chg.zero (l := b4) (h := (b4 + 1)) (d69.t c70))
  refine wl_nil ?_
  refine dx_next s71 ?_
  refine dt 1 rfl rfl rfl rfl s71 (fun _ hS => px_build rfl (xbld27x0x1 rfl _)) ?_
  refine dx_eff 2 rfl (by kernel_rfl) ?_
  refine sx_call rfl rfl Tryz.call11 (c_iDecRat os_70.sv (by first | exact lst_len hz | exact hz _ (by omega) | (have h9 := len_i64 (n := 1) (by omega); omega))) (fun v72 w72 p72 => ?_)
  obtain ⟨s72, t72, ls72, us72, lt72, ut72, rfl, os_72, ot_72, hd72, hl72, c72⟩ := p72
  have zw72 := c72.size
  have s73 : Chg b4 (b4 + 1) w55 w72 := (Chg.zero (l := b4) (h := (b4 + 1)) ((d69.t c70).t c72))
  refine wl_nil ?_
  refine dx_next s73 ?_
  refine dx_eff 4 rfl (by kernel_rfl) ?_
  have f76 := ((f68.ext d69).ext c70).ext c72
  refine sx_call rfl rfl Tryz.call11 (c_iDecRat f76 (by first | exact lst_len hz | exact hz _ (by omega) | (have h9 := len_i64 (n := 1) (by omega); omega))) (fun v77 w77 p77 => ?_)
  obtain ⟨s77, t77, ls77, us77, lt77, ut77, rfl, os_77, ot_77, hd77, hl77, c77⟩ := p77
  have zw77 := c77.size
  have s78 : Chg b4 (b4 + 1) w55 w77 := (Chg.zero (l := b4) (h := (b4 + 1)) (((d69.t c70).t c72).t c77))
  refine wl_nil ?_
  refine dx_next s78 ?_
  refine dx_eff 5 rfl (by kernel_rfl) ?_
  have f79 := os_72.ext c77
  have f80 := ot_72.ext c77
  refine sx_call rfl rfl Tryz.call62 (c_iRatDiv f79.sv f80.sv os_77.sv ot_77.sv (by omega)) (fun v81 w81 p81 => ?_)
  obtain ⟨s81, t81, ls81, us81, lt81, ut81, rfl, os_81, ot_81, hd81, hl81, c81⟩ := p81
  have zw81 := c81.size
  have s82 : Chg b4 (b4 + 1) w55 w81 := (Chg.zero (l := b4) (h := (b4 + 1)) ((((d69.t c70).t c72).t c77).t c81))
  refine wl_nil ?_
  refine dx_next s82 ?_
  refine dt 6 rfl rfl rfl rfl s82 (fun _ hS => px_ex2 rfl rfl) ?_
  refine dt 7 rfl rfl rfl rfl s82 (fun _ hS => px_ex2 rfl rfl) ?_
  refine dx_eff 8 rfl (by kernel_rfl) ?_
  have f86 := ((fb4.ext c13).ext c52).ext cb53
  have f87 := f86.chg cw55 (by omega)
  have f92 := ((((f87.ext d69).ext c70).ext c72).ext c77).ext c81
  refine sx_store (vs := [.bool ((rDiv ((dRat (ng (1 : Int)) (dg ((1 : Int)).natAbs) (0 : Int)).1) ((dRat (ng (1 : Int)) (dg ((1 : Int)).natAbs) (0 : Int)).2.1) ((dRat (ng (1 : Int)) (dg ((1 : Int)).natAbs) (0 : Int)).2.2.1) ((dRat ((lst ts b a).1) ((lst ts b a).2.1) ((lst ts b a).2.2.1)).1) ((dRat ((lst ts b a).1) ((lst ts b a).2.1) ((lst ts b a).2.2.1)).2.1) ((dRat ((lst ts b a).1) ((lst ts b a).2.1) ((lst ts b a).2.2.1)).2.2.1)).1), s81, t81]) rfl rfl f92 rfl Tryz.sizeOf37 (nbl rfl) (one_cons rfl (one_cons os_81.one (one_cons ot_81.one one_nil))) (fun w83 sw83 fw83 cw83 => ?_)
  have zw83 := cw83.size
  have gw83 : Blk w83 b4 [.bool ((rDiv ((dRat (ng (1 : Int)) (dg ((1 : Int)).natAbs) (0 : Int)).1) ((dRat (ng (1 : Int)) (dg ((1 : Int)).natAbs) (0 : Int)).2.1) ((dRat (ng (1 : Int)) (dg ((1 : Int)).natAbs) (0 : Int)).2.2.1) ((dRat ((lst ts b a).1) ((lst ts b a).2.1) ((lst ts b a).2.2.1)).1) ((dRat ((lst ts b a).1) ((lst ts b a).2.1) ((lst ts b a).2.2.1)).2.1) ((dRat ((lst ts b a).1) ((lst ts b a).2.1) ((lst ts b a).2.2.1)).2.2.1)).1), s81, t81] 37 := fw83
  have q94 := Chg.step (l := b4) (h := (b4 + 1)) (Chg.zero (l := b4) (h := (b4 + 1)) ((((d69.t c70).t c72).t c77).t c81)) cw83 (by omega)
  have s93 : Chg b4 (b4 + 1) w55 w83 := q94
  refine wl_nil ?_
  refine dx_next s93 ?_
  refine dt 9 rfl rfl rfl rfl s93 (fun _ hS => px_assign rfl) ?_
  refine dx_done (by kernel_rfl) ?_
  refine q_n (k57 _ _ ?_)
  refine sx_retc ?_
  refine q_br (q_r (sx_ret2 Tryz.results26 ⟨_, rfl, gw83.loadA (vs := [.bool ((rDiv ((dRat (ng (1 : Int)) (dg ((1 : Int)).natAbs) (0 : Int)).1) ((dRat (ng (1 : Int)) (dg ((1 : Int)).natAbs) (0 : Int)).2.1) ((dRat (ng (1 : Int)) (dg ((1 : Int)).natAbs) (0 : Int)).2.2.1) ((dRat ((lst ts b a).1) ((lst ts b a).2.1) ((lst ts b a).2.2.1)).1) ((dRat ((lst ts b a).1) ((lst ts b a).2.1) ((lst ts b a).2.2.1)).2.1) ((dRat ((lst ts b a).1) ((lst ts b a).2.1) ((lst ts b a).2.2.1)).2.2.1)).1), s81, t81]) (look_lit rfl) Tryz.isAgg37 Tryz.sizeOf37⟩ rfl ?_))
  have hrl := rOf_len (pv := pv) (ts := ts) (a := a) (b := b)
  rw [rOf_3 h130] at hrl ⊢
  have q95 := Chg.step (l := 0) (h := 0) (Chg.zero (l := 0) (h := 0) ((((cb2.t cb4).t c13).t c52).t cb53)) cw55 (by omega)
  have q96 := Chg.step (l := 0) (h := 0) q95 ((((d69.t c70).t c72).t c77).t c81) (by omega)
  have q97 := Chg.step (l := 0) (h := 0) q96 cw83 (by omega)
  have f98 := os_81.chg cw83 (by omega)
  have f99 := ot_81.chg cw83 (by omega)
  exact ⟨_, _, _, _, _, _, rfl, f98, f99, by omega, hrl, q97⟩
 refine sx_seq fun K100 k100 => sx_region ?_
 refine sp rfl (px_eq rfl rfl) ?_
 refine av rfl rfl (wl_nil (q_n (k100 _ _ ?_)))
 refine sx_condP rfl (fun h133 => ?_) (fun h133 => ?_)
 ·
  refine sx_seq fun K101 k101 => sx_region ?_
  have f102 := f8.ext c13
  refine sp rfl (px_load rfl (f102.loadA (vs := [.string pv, vt]) (look_lit rfl) Tryz.isAgg47 Tryz.sizeOf47)) ?_
  refine mv rfl rfl (sp rfl (px_field rfl xfld47x0) ?_)
  refine sp rfl (px_load rfl (f102.load1 rfl Tryz.isAgg9)) ?_
  have f103 := f10.ext c13
  have f104 := f12.ext c13
  refine sx_call rfl rfl Tryz.call26 (c_iRateOfNp f103 f104 (by omega) (by first | assumption | exact fun i hi => Nat.le_trans (hzz i hi) (by omega)) ((rOf_4 h133).2.2.2.2.1)) (fun v105 w105 p105 => ?_)
  obtain ⟨s105, t105, ls105, us105, lt105, ut105, rfl, os_105, ot_105, hd105, hl105, c105⟩ := p105
  have zw105 := c105.size
  refine mv rfl rfl (sp rfl (px_ex2 rfl rfl) ?_)
  refine sp rfl (px_ex2 rfl rfl) ?_
  refine sx_alloc [.bool false, (.slice none 0 0), (.slice none 0 0)] rfl Tryz.zeroValue37 rfl (fun b106 w107 eb106 sb106 fb106 cb106 => ?_)
  have zw107 := cb106.size
  have f109 := ot_105.ext cb106
  have f110 := os_105.ext cb106
  refine sx_store (vs := [.bool ((rOf pv ts a pv).1), s105, t105]) rfl rfl fb106 rfl Tryz.sizeOf37 (nbl rfl) (one_cons rfl (one_cons f110.one (one_cons f109.one one_nil))) (fun w108 sw108 fw108 cw108 => ?_)
  have zw108 := cw108.size
  have gw108 : Blk w108 b106 [.bool ((rOf pv ts a pv).1), s105, t105] 37 := fw108
  refine av rfl rfl (wl_nil (q_n (k101 _ _ ?_)))
  refine sx_sub (Sub.c 2 rfl (.c 3 rfl (.c 6 rfl (.c 7 rfl (.c 12 rfl (.c 13 rfl .nil)))))) ?_
  refine sx_seq fun K111 k111 => sx_region ?_
  have f113 := (f102.ext c105).ext cb106
  have f114 := f113.chg cw108 (by omega)
  refine sp rfl (px_load rfl (f114.loadA (vs := [.string pv, vt]) (look_lit rfl) Tryz.isAgg47 Tryz.sizeOf47)) ?_
  refine sp rfl (px_field rfl xfld47x0) ?_
  refine sp rfl (px_load rfl (f114.load1 rfl Tryz.isAgg9)) ?_
  refine mv rfl rfl ?_
  have f116 := (f103.ext c105).ext cb106
  have f117 := f116.chg cw108 (by omega)
  have f119 := (f104.ext c105).ext cb106
  have f120 := f119.chg cw108 (by omega)
  refine sx_call rfl rfl Tryz.call26 (c_iRateOfNp f117 f120 (by omega) (by first | assumption | exact fun i hi => Nat.le_trans (hzz i hi) (by omega)) ((rOf_4 h133).2.2.2.2.2.1)) (fun v121 w121 p121 => ?_)
  obtain ⟨s121, t121, ls121, us121, lt121, ut121, rfl, os_121, ot_121, hd121, hl121, c121⟩ := p121
  have zw121 := c121.size
  refine mv rfl rfl (sp rfl (px_ex2 rfl rfl) ?_)
  refine sp rfl (px_ex2 rfl rfl) ?_
  refine sx_alloc [.bool false, (.slice none 0 0), (.slice none 0 0)] rfl Tryz.zeroValue37 rfl (fun b122 w123 eb122 sb122 fb122 cb122 => ?_)
  have zw123 := cb122.size
  have f125 := ot_121.ext cb122
  have f126 := os_121.ext cb122
  refine sx_store (vs := [.bool ((rOf pv ts pv b).1), s121, t121]) rfl rfl fb122 rfl Tryz.sizeOf37 (nbl rfl) (one_cons rfl (one_cons f126.one (one_cons f125.one one_nil))) (fun w124 sw124 fw124 cw124 => ?_)
  have zw124 := cw124.size
  have gw124 : Blk w124 b122 [.bool ((rOf pv ts pv b).1), s121, t121] 37 := fw124
  refine av rfl rfl (wl_nil (q_n (k111 _ _ ?_)))
  refine sx_sub (Sub.c 6 rfl (.c 7 rfl (.c 12 rfl (.c 13 rfl (.c 14 rfl (.c 15 rfl .nil)))))) ?_
  refine sx_seq fun K127 k127 => sx_region ?_
  refine mv rfl rfl (mv rfl rfl ?_)
  have h136 : ((rOf pv ts a pv).2.2.2) = true := by rw [(rOf_4 h133).1]; exact (rOf_4 h133).2.1.ok
  refine sx_tmpBT (t := 75) rfl h136 ?_
  refine sx_guardT rfl rfl rfl ?_
  refine mv rfl rfl (sp rfl (px_pick rfl rfl) ?_)
  refine wl_nil (q_n (k127 _ _ ?_))
  have h136x1 : ((rOf pv ts pv b).2.2.2) = true := by rw [(rOf_4 h133).2.2.1]; exact (rOf_4 h133).2.2.2.1.ok
  refine sx_condBT rfl h136x1 ?_
  refine sx_seq fun K128 k128 => sx_region ?_
  have f130 := (gw108.ext c121).ext cb122
  have f131 := f130.chg cw124 (by omega)
  refine sp rfl (px_load rfl (f131.loadA (vs := [.bool ((rOf pv ts a pv).1), s105, t105]) (look_lit rfl) Tryz.isAgg37 Tryz.sizeOf37)) ?_
  refine sp rfl (px_load rfl (gw124.loadA (vs := [.bool ((rOf pv ts pv b).1), s121, t121]) (look_lit rfl) Tryz.isAgg37 Tryz.sizeOf37)) ?_
  have f132 := f110.chg cw108 (by omega)
  have f134 := (f132.ext c121).ext cb122
  have f135 := f134.chg cw124 (by omega)
  have f136 := f109.chg cw108 (by omega)
  have f138 := (f136.ext c121).ext cb122
  have f139 := f138.chg cw124 (by omega)
  have f140 := f126.chg cw124 (by omega)
  have f141 := f125.chg cw124 (by omega)
  refine sx_call rfl rfl Tryz.call18 (c_iRatMul f135.sv f139.sv f140.sv f141.sv (by omega)) (fun v142 w142 p142 => ?_)
  obtain ⟨s142, t142, ls142, us142, lt142, ut142, rfl, os_142, ot_142, hd142, hl142, c142⟩ := p142
  have zw142 := c142.size
  refine sp rfl (px_ex2 rfl rfl) ?_
  refine sp rfl (px_ex2 rfl rfl) ?_
  have f146 := ((fb4.ext c13).ext c105).ext cb106
  have f147 := f146.chg cw108 (by omega)
  have f149 := (f147.ext c121).ext cb122
  have f150 := f149.chg cw124 (by omega)
  have f151 := f150.ext c142
  refine sx_store (vs := [.bool ((rMul ((rOf pv ts a pv).1) ((rOf pv ts a pv).2.1) ((rOf pv ts a pv).2.2.1) ((rOf pv ts pv b).1) ((rOf pv ts pv b).2.1) ((rOf pv ts pv b).2.2.1)).1), s142, t142]) rfl rfl f151 rfl Tryz.sizeOf37 (nbl rfl) (one_cons rfl (one_cons os_142.one (one_cons ot_142.one one_nil))) (fun w143 sw143 fw143 cw143 => ?_)
  have zw143 := cw143.size
  have gw143 : Blk w143 b4 [.bool ((rMul ((rOf pv ts a pv).1) ((rOf pv ts a pv).2.1) ((rOf pv ts a pv).2.2.1) ((rOf pv ts pv b).1) ((rOf pv ts pv b).2.1) ((rOf pv ts pv b).2.2.1)).1), s142, t142] 37 := fw143
  refine av rfl rfl (wl_nil (q_n (k128 _ _ ?_)))
  refine sx_sub (Sub.c 6 rfl (.c 7 rfl .nil)) ?_
  refine sx_retc ?_
  refine q_br (q_r (sx_ret2 Tryz.results26 ⟨_, rfl, gw143.loadA (vs := [.bool ((rMul ((rOf pv ts a pv).1) ((rOf pv ts a pv).2.1) ((rOf pv ts a pv).2.2.1) ((rOf pv ts pv b).1) ((rOf pv ts pv b).2.1) ((rOf pv ts pv b).2.2.1)).1), s142, t142]) (look_lit rfl) Tryz.isAgg37 Tryz.sizeOf37⟩ rfl ?_))
  have hrl := rOf_len (pv := pv) (ts := ts) (a := a) (b := b)
  have h4f := rOf_4 h133
  have hre : rOf pv ts a b = rMul (rOf pv ts a pv).1 (rOf pv ts a pv).2.1 (rOf pv ts a pv).2.2.1 (rOf pv ts pv b).1 (rOf pv ts pv b).2.1 (rOf pv ts pv b).2.2.1 := by rw [h4f.1, h4f.2.2.1]; exact h4f.2.2.2.2.2.2
  rw [hre] at hrl ⊢
  have q152 := Chg.step (l := 0) (h := 0) (Chg.zero (l := 0) (h := 0) ((((cb2.t cb4).t c13).t c105).t cb106)) cw108 (by omega)
  have q153 := Chg.step (l := 0) (h := 0) q152 (c121.t cb122) (by omega)
  have q154 := Chg.step (l := 0) (h := 0) q153 cw124 (by omega)
  have q155 := Chg.step (l := 0) (h := 0) q154 c142 (by omega)
  have q156 := Chg.step (l := 0) (h := 0) q155 cw143 (by omega)
  have f157 := os_142.chg cw143 (by omega)
  have f158 := ot_142.chg cw143 (by omega)
  exact ⟨_, _, _, _, _, _, rfl, f157, f158, by omega, hrl, q156⟩
 refine sx_skip ?_
 refine q_bn (q_n (k6 _ _ ?_))
 refine sx_seq fun K159 k159 => sx_region ?_
 refine sp rfl (px_build rfl (xbld37x  _)) ?_
 have f161 := fb4.ext c13
 refine sx_store (vs := [.bool false, (.slice none 0 0), (.slice none 0 0)]) rfl rfl f161 rfl Tryz.sizeOf37 (nbl rfl) (o3 rfl rfl rfl) (fun w160 sw160 fw160 cw160 => ?_)
 have zw160 := cw160.size
 have gw160 : Blk w160 b4 [.bool false, (.slice none 0 0), (.slice none 0 0)] 37 := fw160
 refine av rfl rfl (wl_nil (q_n (k159 _ _ ?_)))
 refine sx_retc ?_
 refine sx_ret2 Tryz.results26 ⟨_, rfl, gw160.loadA (vs := [.bool false, (.slice none 0 0), (.slice none 0 0)]) (look_lit rfl) Tryz.isAgg37 Tryz.sizeOf37⟩ rfl ?_
 rw [rOf_0 h125 h127 h130 h133]
 have q162 := Chg.step (l := 0) (h := 0) (Chg.zero (l := 0) (h := 0) ((cb2.t cb4).t c13)) cw160 (by omega)
 exact ⟨_, _, w.heap.size, w.heap.size, w.heap.size, w.heap.size, rfl, Own.nil _ _ _ _ _, Own.nil _ _ _ _ _, by omega, ⟨by simp [noR], by simp [noR]⟩, q162⟩

theorem c_iRateOfK {w : World} {pv : ByteArray} {vt : Value} {lvt uvt : Nat} {ts : List Rt} {vvt : List Value} {a : ByteArray} {b : ByteArray} (hG0 : Glob w) (hvt : RtS w lvt uvt vt ts vvt) (h63 : ts.length ≤ 4611686018427387904) (hz : ∀ i, i < ts.length → (ts.getD i rt0).2.2.2.1.length ≤ 4611686018427387904) :
  Ret Tryz.prog 26 [.agg #[.string pv, vt], .string a, .string b] w fun v w' => ∃ s t ls us lt ut x e, v = .tuple #[.agg #[.bool (ng x), s, t], .bool (decide (how pv ts a b ≠ 0))] ∧ OwnI w' (ls) (us) s intT (dg (x).natAbs) ∧ OwnI w' (lt) (ut) t intT (dg e) ∧ (w.heap.size ≤ ls ∧ us ≤ w'.heap.size ∧ w.heap.size ≤ lt ∧ ut ≤ w'.heap.size ∧ (us ≤ lt ∨ ut ≤ ls)) ∧ ((how pv ts a b ≠ 0 → ROk (ng x) (dg (x).natAbs) (dg e) ∧ 0 < x)) ∧ (rOf pv ts a b = (ng x, dg (x).natAbs, dg e, decide (how pv ts a b ≠ 0))) ∧ ((dg (x).natAbs).length ≤ 8 ∧ (dg e).length ≤ 8) ∧ Chg 0 0 w w' := by
 obtain ⟨X, E, hE, hX, l1, l2⟩ := rOf_form (pv := pv) (ts := ts) a b
 have h := c_iRateOf (pv := pv) (a := a) (b := b) hG0 hvt h63 hz; rw [hE] at h
 exact Calls.mono h fun ev w' ⟨v, he, s, t, ls, us, lt, ut, e1, o1, o2, hd, _, hc⟩ => ⟨v, he, s, t, ls, us, lt, ut, X, E, e1, o1, o2, hd, hX, hE, ⟨l1, l2⟩, hc⟩

theorem c_ratNum {w : World} {va : Value} {lva uva : Nat} {x : Int} {vd : Value} {lvd uvd : Nat} {yy : List Int} {vb : Value} {lvb uvb : Nat} {b : Nat} (hva : Sl w lva uva va (dg x.natAbs)) (hvd : Sl w lvd uvd vd (yy)) (hvb : Sl w lvb uvb vb (dg b)) (hbx : (dg x.natAbs).length ≤ 1000) (hbb : (dg b).length ≤ 1000) :
  Ret Tryz.prog 48 [.agg #[.bool (ng x), va, vd], vb] w fun v w' => ∃ s, v = .agg #[.bool (ng (x * ((b : Nat) : Int))), s] ∧ OwnI w' w.heap.size w'.heap.size s intT (dg (x * ((b : Nat) : Int)).natAbs) ∧ Chg 0 0 w w' := by
 have hva0 := hva.fit
 have hvd0 := hvd.fit
 have hvb0 := hvb.fit
 have lmb := len_mul x.natAbs b
 refine sx_enter Tryz.func48 rfl Tryz.ntmps48 (nbl rfl) ?_
 refine sx_seq fun K1 k1 => sx_region ?_
 refine sx_box [.bool (ng x), va, vd] rfl rfl rfl (fun b2 w3 eb2 sb2 fb2 cb2 => ?_)
 have zw3 := cb2.size
 refine sx_alloc [.bool false, (.slice none 0 0)] rfl Tryz.zeroValue25 rfl (fun b4 w5 eb4 sb4 fb4 cb4 => ?_)
 have zw5 := cb4.size
 refine wl_nil (q_n (k1 _ _ ?_))
 refine sx_seq fun K6 k6 => ?_
 have f7 := fb2.ext cb4
 have f8 := hva0.ext cb2
 have f9 := f8.ext cb4
 have f10 := hvd0.ext cb2
 have f11 := f10.ext cb4
 have f12 := hvb0.ext cb2
 have f13 := f12.ext cb4
 refine dx_region (fun w' => Chg b4 (b4 + 1) w5 w') (by kernel_rfl) (Chg.zero (Chg.drew _)) ?_
 have d14 := Chg.drew w5
 have s14 : Chg b4 (b4 + 1) w5 (World.drew w5) := Chg.zero (Chg.drew _)
 have y14 : (World.drew w5).heap.size = w5.heap.size := rfl
 generalize World.drew w5 = w14 at *
 have zw14 := d14.size
 refine dt 0 rfl rfl rfl rfl s14 (fun _ hS => px_field rfl xfld37x0) ?_
 refine dt 1 rfl rfl rfl rfl s14 (fun _ hS => px_field rfl xfld25x0) ?_
 refine dt 2 rfl rfl rfl rfl s14 (fun _ hS => px_load rfl ((f7.chg hS (by omega)).load1 rfl Tryz.isAgg4)) ?_
 refine dt 3 rfl rfl rfl rfl s14 (fun _ hS => px_field rfl xfld37x0) ?_
 refine dt 4 rfl rfl rfl rfl s14 (fun _ hS => px_field rfl xfld25x1) ?_
 refine dt 5 rfl rfl rfl rfl s14 (fun _ hS => px_load rfl ((f7.chg hS (by omega)).load1 rfl Tryz.isAgg23)) ?_
 refine dt 6 rfl rfl rfl rfl s14 (fun _ hS => px_move rfl) ?_
 refine dx_eff 7 rfl (by kernel_rfl) ?_
 have f15 := f9.ext d14
 have f16 := f13.ext d14
 refine sx_call rfl rfl Tryz.call49 (c_natMul f15 f16 (by omega) (by omega)) (fun v17 w17 p17 => ?_)
 obtain ⟨s17, rfl, os_17, c17⟩ := p17
 have zw17 := c17.size
 have s18 : Chg b4 (b4 + 1) w5 w17 := (Chg.zero (l := b4) (h := (b4 + 1)) (d14.t c17))
 refine wl_nil ?_
 refine dx_next s18 ?_
 refine dx_eff 8 rfl (by kernel_rfl) ?_
 refine sx_call rfl rfl Tryz.call33 (c_signed os_17.sv (by omega)) (fun v19 w19 p19 => ?_)
 obtain ⟨rfl, c19⟩ := p19
 have zw19 := c19.size
 have s20 : Chg b4 (b4 + 1) w5 w19 := (Chg.zero (l := b4) (h := (b4 + 1)) ((d14.t c17).t c19))
 refine wl_nil ?_
 refine dx_next s20 ?_
 refine dx_eff 9 rfl (by kernel_rfl) ?_
 have f24 := ((fb4.ext d14).ext c17).ext c19
 have f25 := os_17.ext c19
 refine sx_store (vs := [.bool (nz (ng x) (dg (x.natAbs * b))), v17]) rfl rfl f24 rfl Tryz.sizeOf25 (nbl rfl) (one_cons rfl (one_cons f25.one one_nil)) (fun w21 sw21 fw21 cw21 => ?_)
 have zw21 := cw21.size
 have gw21 : Blk w21 b4 [.bool (nz (ng x) (dg (x.natAbs * b))), v17] 25 := fw21
 have q27 := Chg.step (l := b4) (h := (b4 + 1)) (Chg.zero (l := b4) (h := (b4 + 1)) ((d14.t c17).t c19)) cw21 (by omega)
 have s26 : Chg b4 (b4 + 1) w5 w21 := q27
 refine wl_nil ?_
 refine dx_next s26 ?_
 refine dx_done (by kernel_rfl) ?_
 refine q_n (k6 _ _ ?_)
 refine sx_retc ?_
 refine sx_ret1 Tryz.results48 ⟨_, rfl, gw21.loadA (vs := [.bool (nz (ng x) (dg (x.natAbs * b))), v17]) (look_lit rfl) Tryz.isAgg25 Tryz.sizeOf25⟩ ?_
 have hh := mul_nat_sg x b
 rw [← hh.1, ← hh.2]
 have q28 := Chg.step (l := 0) (h := 0) (Chg.zero (l := 0) (h := 0) ((((cb2.t cb4).t d14).t c17).t c19)) cw21 (by omega)
 have f29 := f25.chg cw21 (by omega)
 exact ⟨_, rfl, (Own.mono f29 (by omega) (by omega)), q28⟩

theorem c_intNeg {w : World} {va : Value} {lva uva : Nat} {x : Int} (hva : Sl w lva uva va (dg x.natAbs)) (hbx : (dg x.natAbs).length ≤ 1000) :
  Ret Tryz.prog 46 [.agg #[.bool (ng x), va]] w fun v w' => ∃ s, v = .agg #[.bool (ng (-x)), s] ∧ OwnI w' w.heap.size w'.heap.size s intT (dg (-x).natAbs) ∧ Chg 0 0 w w' := by
 have hva0 := hva.fit
 refine sx_enter Tryz.func46 rfl Tryz.ntmps46 (nbl rfl) ?_
 refine sx_seq fun K1 k1 => sx_region ?_
 refine sx_box [.bool (ng x), va] rfl rfl rfl (fun b2 w3 eb2 sb2 fb2 cb2 => ?_)
 have zw3 := cb2.size
 refine sx_alloc [.bool false, (.slice none 0 0)] rfl Tryz.zeroValue25 rfl (fun b4 w5 eb4 sb4 fb4 cb4 => ?_)
 have zw5 := cb4.size
 refine wl_nil (q_n (k1 _ _ ?_))
 refine sx_seq fun K6 k6 => ?_
 have f7 := fb2.ext cb4
 have f8 := hva0.ext cb2
 have f9 := f8.ext cb4
 refine dx_region (fun w' => Chg b4 (b4 + 1) w5 w') (by kernel_rfl) (Chg.zero (Chg.drew _)) ?_
 have d10 := Chg.drew w5
 have s10 : Chg b4 (b4 + 1) w5 (World.drew w5) := Chg.zero (Chg.drew _)
 have y10 : (World.drew w5).heap.size = w5.heap.size := rfl
 generalize World.drew w5 = w10 at *
 have zw10 := d10.size
 refine dt 0 rfl rfl rfl rfl s10 (fun _ hS => px_field rfl xfld25x0) ?_
 refine dt 1 rfl rfl rfl rfl s10 (fun _ hS => px_load rfl ((f7.chg hS (by omega)).load1 rfl Tryz.isAgg4)) ?_
 refine dt 2 rfl rfl rfl rfl s10 (fun _ hS => px_not rfl) ?_
 refine dt 3 rfl rfl rfl rfl s10 (fun _ hS => px_field rfl xfld25x1) ?_
 refine dt 4 rfl rfl rfl rfl s10 (fun _ hS => px_load rfl ((f7.chg hS (by omega)).load1 rfl Tryz.isAgg23)) ?_
 refine dx_eff 5 rfl (by kernel_rfl) ?_
 have f11 := f9.ext d10
 refine sx_call rfl rfl Tryz.call75 (c_natCopy f11 (by omega)) (fun v12 w12 p12 => ?_)
 obtain ⟨s12, rfl, os_12, c12⟩ := p12
 have zw12 := c12.size
 have s13 : Chg b4 (b4 + 1) w5 w12 := (Chg.zero (l := b4) (h := (b4 + 1)) (d10.t c12))
 refine wl_nil ?_
 refine dx_next s13 ?_
 refine dx_eff 6 rfl (by kernel_rfl) ?_
 refine sx_call rfl rfl Tryz.call33 (c_signed os_12.sv (by omega)) (fun v14 w14 p14 => ?_)
 obtain ⟨rfl, c14⟩ := p14
 have zw14 := c14.size
 have s15 : Chg b4 (b4 + 1) w5 w14 := (Chg.zero (l := b4) (h := (b4 + 1)) ((d10.t c12).t c14))
 refine wl_nil ?_
 refine dx_next s15 ?_
 refine dx_eff 7 rfl (by kernel_rfl) ?_
 have f19 := ((fb4.ext d10).ext c12).ext c14
 have f20 := os_12.ext c14
 refine sx_store (vs := [.bool (nz (!(ng x)) (dg x.natAbs)), v12]) rfl rfl f19 rfl Tryz.sizeOf25 (nbl rfl) (one_cons rfl (one_cons f20.one one_nil)) (fun w16 sw16 fw16 cw16 => ?_)
 have zw16 := cw16.size
 have gw16 : Blk w16 b4 [.bool (nz (!(ng x)) (dg x.natAbs)), v12] 25 := fw16
 have q22 := Chg.step (l := b4) (h := (b4 + 1)) (Chg.zero (l := b4) (h := (b4 + 1)) ((d10.t c12).t c14)) cw16 (by omega)
 have s21 : Chg b4 (b4 + 1) w5 w16 := q22
 refine wl_nil ?_
 refine dx_next s21 ?_
 refine dx_done (by kernel_rfl) ?_
 refine q_n (k6 _ _ ?_)
 refine sx_retc ?_
 refine sx_ret1 Tryz.results46 ⟨_, rfl, gw16.loadA (vs := [.bool (nz (!(ng x)) (dg x.natAbs)), v12]) (look_lit rfl) Tryz.isAgg25 Tryz.sizeOf25⟩ ?_
 have hh := neg_sg x
 rw [← hh.1, ← hh.2]
 have q23 := Chg.step (l := 0) (h := 0) (Chg.zero (l := 0) (h := 0) ((((cb2.t cb4).t d10).t c12).t c14)) cw16 (by omega)
 have f24 := f20.chg cw16 (by omega)
 exact ⟨_, rfl, (Own.mono f24 (by omega) (by omega)), q23⟩

theorem c_natAdd {w : World} {va : Value} {lva uva : Nat} {m : Nat} {vb : Value} {lvb uvb : Nat} {n : Nat} (hva : Sl w lva uva va (dg m)) (hvb : Sl w lvb uvb vb (dg n)) (hbm : (dg m).length ≤ 1000) (hbn : (dg n).length ≤ 1000) :
  Ret Tryz.prog 81 [va, vb] w fun v w' => ∃ s, v = s ∧ OwnI w' w.heap.size w'.heap.size s intT (dg (m + n)) ∧ Chg 0 0 w w' := by
 have hva0 := hva.fit
 have hvb0 := hvb.fit
 refine sx_enter Tryz.func81 rfl Tryz.ntmps81 (nbl rfl) ?_
 refine sx_seq fun K1 k1 => sx_region ?_
 refine av rfl rfl (wl_nil (q_n (k1 _ _ ?_)))
 refine sx_seq fun K2 k2 => sx_region ?_
 refine mv rfl rfl (sp rfl (px_len rfl Tryz.underlying23 hva0) ?_)
 refine mv rfl rfl (sp rfl (px_len rfl Tryz.underlying23 hvb0) ?_)
 refine sp rfl (px_max rfl rfl) ?_
 refine sp rfl (px_add rfl rfl (by omega)) ?_
 refine sx_make0 (c := max (dg m).length (dg n).length + 1) rfl xelt23 rfl (look_int rfl (by omega)) (by omega) (by unfold maxLen; omega) (fun s3 ws3 fs3 cs3 ls3 => ?_)
 have zws3 := cs3.size
 refine av rfl rfl (wl_nil (q_n (k2 _ _ ?_)))
 refine sx_seq fun K4 k4 => sx_region ?_
 refine av rfl rfl (wl_nil (q_n (k4 _ _ ?_)))
 refine sx_seq fun K5 k5 => ?_
 refine sx_seq fun K6 k6 => sx_region ?_
 refine av rfl rfl (wl_nil (q_n (k6 _ _ ?_)))
 refine sx_block ?_
 refine sx_loop (fun mm aa w' => ∃ (k : Nat) (s : Value) (os : List Int) (c : Nat), Agr 56 [(0, va), (1, vb), (5, s), (6, .int .i64 ((c : Nat) : Int)), (7, .int .i64 ↑k)] aa ∧ Chg w.heap.size ws3.heap.size ws3 w' ∧ Own w' w.heap.size w'.heap.size s intT os.length 1 (os.map (Value.int .i64)) ∧ (mm = max (dg m).length (dg n).length + 1 - k) ∧ (os.length = k) ∧ (Lm os) ∧ (c ≤ 1) ∧ (k ≤ max (dg m).length (dg n).length) ∧ (vl os + Bs ^ k * c = vl ((dg m).take k) + vl ((dg n).take k))) (_) (fun a ha => ⟨0, s3, [], 0, ha.sub (Sub.c 0 rfl (.c 1 rfl (.c 5 rfl (.c 6 (look_int (t := 6) rfl (by first | omega | simp)) (.c 7 (look_int (t := 7) rfl (by first | omega | simp)) .nil))))), Chg.refl _ _ _, (fs3.mono (by omega) (by omega)), rfl, rfl, Lm.nil, by omega, by omega, by simp [vl]⟩) ?_
 rintro mm aa wl7 ⟨k, s, os, c, hAwl7, cwl7, hs_s, hm, hos, hlm, hc, hk, hv⟩
 refine (show cw Tryz.prog 56 _ _ _ wl7 from ?_) aa hAwl7
 clear hAwl7
 have zwl7 := cwl7.size
 have am := (Lm_dg m).getD k
 have bn := (Lm_dg n).getD k
 refine sx_seq fun K8 k8 => ?_
 refine sx_seq fun K9 k9 => sx_region ?_
 refine mv rfl rfl (mv rfl rfl ?_)
 have f10 := hva0.ext cs3
 have f11 := f10.chg cwl7 (by omega)
 refine sp rfl (px_len rfl Tryz.underlying23 f11) ?_
 refine mv rfl rfl ?_
 have f12 := hvb0.ext cs3
 have f13 := f12.chg cwl7 (by omega)
 refine sp rfl (px_len rfl Tryz.underlying23 f13) ?_
 refine sp rfl (px_max rfl rfl) ?_
 refine sp rfl (px_lt rfl rfl) ?_
 refine wl_nil (q_n (k9 _ _ ?_))
 refine sx_condP rfl (fun h105 => ?_) (fun h105 => ?_)
 ·
  refine sx_skip ?_
  refine q_n (k8 _ _ ?_)
  refine sx_seq fun K14 k14 => ?_
  refine sx_block ?_
  refine sx_seq fun K15 k15 => ?_
  refine sx_seq fun K16 k16 => sx_region ?_
  refine mv rfl rfl (mv rfl rfl (sp rfl (px_len rfl Tryz.underlying23 f11) ?_))
  refine sp rfl (px_lt rfl rfl) ?_
  refine wl_nil (q_n (k16 _ _ ?_))
  refine sx_sub (Sub.c 0 rfl (.c 1 rfl (.c 5 rfl (.c 6 rfl (.c 7 rfl (.c 27 rfl .nil)))))) ?_
  refine sx_condP rfl (fun h106 => ?_) (fun h106 => ?_)
  ·
   refine sx_region ?_
   refine mv rfl rfl (mv rfl rfl (mv rfl rfl (sp rfl (px_index1 (j := k) rfl rfl (by omega) Tryz.underlying23 Tryz.sizeOf3 f11 (by omega)) ?_)))
   refine sp rfl (px_load rfl (f11.load1 (at_int (by omega)) Tryz.isAgg3)) ?_
   refine sp rfl (px_add rfl rfl (by omega)) ?_
   refine av rfl rfl (wl_nil (q_n (k15 _ _ ?_)))
   refine sx_seq fun K17 k17 => ?_
   refine sx_seq fun K18 k18 => sx_region ?_
   refine mv rfl rfl (mv rfl rfl (sp rfl (px_len rfl Tryz.underlying23 f13) ?_))
   refine sp rfl (px_lt rfl rfl) ?_
   refine wl_nil (q_n (k18 _ _ ?_))
   refine sx_sub (Sub.c 0 rfl (.c 1 rfl (.c 5 rfl (.c 6 rfl (.c 7 rfl (.c 37 rfl .nil)))))) ?_
   refine sx_condP rfl (fun h109 => ?_) (fun h109 => ?_)
   ·
    refine sx_region ?_
    refine mv rfl rfl (mv rfl rfl (mv rfl rfl (sp rfl (px_index1 (j := k) rfl rfl (by omega) Tryz.underlying23 Tryz.sizeOf3 f13 (by omega)) ?_)))
    refine sp rfl (px_load rfl (f13.load1 (at_int (by omega)) Tryz.isAgg3)) ?_
    refine sp rfl (px_add rfl rfl (by omega)) ?_
    refine av rfl rfl (wl_nil (q_n (k17 _ _ ?_)))
    refine sx_seq fun K19 k19 => sx_region ?_
    refine mv rfl rfl (mv rfl rfl (sp rfl (px_rem rfl rfl (by omega) (by omega)) ?_))
    refine sx_lit1 rfl xelt23 rfl rfl (fun s20 ws20 ss20 fs20 cs20 => ?_)
    have ns20 := Own.norm (f := (Value.int .i64)) (zs := [((((c : Nat) : Int) + ((dg m).getD k 0)) + ((dg n).getD k 0)) % 1000000000]) fs20
    have zws20 := cs20.size
    have f22 := hs_s.ext cs20
    refine sx_append rfl xelt23 rfl rfl f22 ns20.sv one_int (by omega) (by simp only [List.length_cons, List.length_nil]; omega) (by unfold maxLen; simp only [List.length_cons, List.length_nil]; omega) (fun a21 w21 fw21 cw21 => ?_)
    have nw21 := Own.app (f := (Value.int .i64)) (a := os) (b := [((((c : Nat) : Int) + ((dg m).getD k 0)) + ((dg n).getD k 0)) % 1000000000]) fw21
    have zw21 := cw21.size
    refine av rfl rfl (wl_nil (q_n (k19 _ _ ?_)))
    refine sx_sub (Sub.c 0 rfl (.c 1 rfl (.c 5 rfl (.c 6 rfl (.c 7 rfl .nil))))) ?_
    refine sx_region ?_
    refine mv rfl rfl (sp rfl (px_quo rfl rfl (by omega) (by omega) (by omega)) ?_)
    refine av rfl rfl (wl_nil ?_)
    refine q_bn (q_n (k14 _ _ ?_))
    refine sx_region ?_
    refine mv rfl rfl (sp rfl (px_add rfl rfl (by omega)) ?_)
    refine av rfl rfl (wl_nil ?_)
    have q23 := Chg.step (l := w.heap.size) (h := ws3.heap.size) cwl7 cs20 (by omega)
    have q24 := Chg.step (l := w.heap.size) (h := ws3.heap.size) q23 cw21 (by omega)
    have hs : (((((c : Nat) : Int) + ((dg m).getD k 0)) + ((dg n).getD k 0)) : Int) = ((c : Nat) : Int) + (((dg m).getD k 0).toNat : Nat) + (((dg n).getD k 0).toNat : Nat) := by omega
    have hv2 : vl (os ++ [(((((c : Nat) : Int) + ((dg m).getD k 0)) + ((dg n).getD k 0))) % 1000000000]) + Bs ^ (k + 1) * ((((((c : Nat) : Int) + ((dg m).getD k 0)) + ((dg n).getD k 0))) / 1000000000 : Int).toNat = vl ((dg m).take (k + 1)) + vl ((dg n).take (k + 1)) := by
     rw [vl_concat, hos, vl_take_succ', vl_take_succ', Nat.pow_succ]
     exact add_step hs hv
    have hX := mod_bd (s := ((((c : Nat) : Int) + ((dg m).getD k 0)) + ((dg n).getD k 0))) (by omega)
    exact fun a ha => ⟨_, by omega, (k + 1), a21, (os ++ ([((((c : Nat) : Int) + ((dg m).getD k 0)) + ((dg n).getD k 0)) % 1000000000])), ((((((c : Nat) : Int) + ((dg m).getD k 0)) + ((dg n).getD k 0))) / 1000000000 : Int).toNat, ha.sub (Sub.c 0 rfl (.c 1 rfl (.c 5 rfl (.c 6 (look_int (t := 6) rfl (by first | omega | simp)) (.c 7 (look_int (t := 7) rfl (by first | omega | simp)) .nil))))), q24, (nw21.mono (by omega) (by omega)), rfl, by simp [hos], hlm.append (Lm.single hX.1 hX.2), by omega, by omega, hv2⟩
   have gn := getD_ge (zs := dg n) (k := k) (by omega)
   refine sx_skip ?_
   refine q_n (k17 _ _ ?_)
   refine sx_seq fun K25 k25 => sx_region ?_
   refine mv rfl rfl (mv rfl rfl (sp rfl (px_rem rfl rfl (by omega) (by omega)) ?_))
   refine sx_lit1 rfl xelt23 rfl rfl (fun s26 ws26 ss26 fs26 cs26 => ?_)
   have ns26 := Own.norm (f := (Value.int .i64)) (zs := [(((c : Nat) : Int) + ((dg m).getD k 0)) % 1000000000]) fs26
   have zws26 := cs26.size
   have f28 := hs_s.ext cs26
   refine sx_append rfl xelt23 rfl rfl f28 ns26.sv one_int (by omega) (by simp only [List.length_cons, List.length_nil]; omega) (by unfold maxLen; simp only [List.length_cons, List.length_nil]; omega) (fun a27 w27 fw27 cw27 => ?_)
   have nw27 := Own.app (f := (Value.int .i64)) (a := os) (b := [(((c : Nat) : Int) + ((dg m).getD k 0)) % 1000000000]) fw27
   have zw27 := cw27.size
   refine av rfl rfl (wl_nil (q_n (k25 _ _ ?_)))
   refine sx_region ?_
   refine mv rfl rfl (sp rfl (px_quo rfl rfl (by omega) (by omega) (by omega)) ?_)
   refine av rfl rfl (wl_nil ?_)
   refine q_bn (q_n (k14 _ _ ?_))
   refine sx_region ?_
   refine mv rfl rfl (sp rfl (px_add rfl rfl (by omega)) ?_)
   refine av rfl rfl (wl_nil ?_)
   have q29 := Chg.step (l := w.heap.size) (h := ws3.heap.size) cwl7 cs26 (by omega)
   have q30 := Chg.step (l := w.heap.size) (h := ws3.heap.size) q29 cw27 (by omega)
   have hs : ((((c : Nat) : Int) + ((dg m).getD k 0)) : Int) = ((c : Nat) : Int) + (((dg m).getD k 0).toNat : Nat) + (((dg n).getD k 0).toNat : Nat) := by omega
   have hv2 : vl (os ++ [((((c : Nat) : Int) + ((dg m).getD k 0))) % 1000000000]) + Bs ^ (k + 1) * (((((c : Nat) : Int) + ((dg m).getD k 0))) / 1000000000 : Int).toNat = vl ((dg m).take (k + 1)) + vl ((dg n).take (k + 1)) := by
    rw [vl_concat, hos, vl_take_succ', vl_take_succ', Nat.pow_succ]
    exact add_step hs hv
   have hX := mod_bd (s := (((c : Nat) : Int) + ((dg m).getD k 0))) (by omega)
   exact fun a ha => ⟨_, by omega, (k + 1), a27, (os ++ ([(((c : Nat) : Int) + ((dg m).getD k 0)) % 1000000000])), (((((c : Nat) : Int) + ((dg m).getD k 0))) / 1000000000 : Int).toNat, ha.sub (Sub.c 0 rfl (.c 1 rfl (.c 5 rfl (.c 6 (look_int (t := 6) rfl (by first | omega | simp)) (.c 7 (look_int (t := 7) rfl (by first | omega | simp)) .nil))))), q30, (nw27.mono (by omega) (by omega)), rfl, by simp [hos], hlm.append (Lm.single hX.1 hX.2), by omega, by omega, hv2⟩
  have gm := getD_ge (zs := dg m) (k := k) (by omega)
  refine sx_skip ?_
  refine q_n (k15 _ _ ?_)
  refine sx_seq fun K31 k31 => ?_
  refine sx_seq fun K32 k32 => sx_region ?_
  refine mv rfl rfl (mv rfl rfl (sp rfl (px_len rfl Tryz.underlying23 f13) ?_))
  refine sp rfl (px_lt rfl rfl) ?_
  refine wl_nil (q_n (k32 _ _ ?_))
  refine sx_condP rfl (fun h109 => ?_) (fun h109 => ?_)
  ·
   refine sx_region ?_
   refine mv rfl rfl (mv rfl rfl (mv rfl rfl (sp rfl (px_index1 (j := k) rfl rfl (by omega) Tryz.underlying23 Tryz.sizeOf3 f13 (by omega)) ?_)))
   refine sp rfl (px_load rfl (f13.load1 (at_int (by omega)) Tryz.isAgg3)) ?_
   refine sp rfl (px_add rfl rfl (by omega)) ?_
   refine av rfl rfl (wl_nil (q_n (k31 _ _ ?_)))
   refine sx_sub (Sub.c 0 rfl (.c 1 rfl (.c 5 rfl (.c 6 rfl (.c 7 rfl .nil))))) ?_
   refine sx_seq fun K33 k33 => sx_region ?_
   refine mv rfl rfl (mv rfl rfl (sp rfl (px_rem rfl rfl (by omega) (by omega)) ?_))
   refine sx_lit1 rfl xelt23 rfl rfl (fun s34 ws34 ss34 fs34 cs34 => ?_)
   have ns34 := Own.norm (f := (Value.int .i64)) (zs := [(((c : Nat) : Int) + ((dg n).getD k 0)) % 1000000000]) fs34
   have zws34 := cs34.size
   have f36 := hs_s.ext cs34
   refine sx_append rfl xelt23 rfl rfl f36 ns34.sv one_int (by omega) (by simp only [List.length_cons, List.length_nil]; omega) (by unfold maxLen; simp only [List.length_cons, List.length_nil]; omega) (fun a35 w35 fw35 cw35 => ?_)
   have nw35 := Own.app (f := (Value.int .i64)) (a := os) (b := [(((c : Nat) : Int) + ((dg n).getD k 0)) % 1000000000]) fw35
   have zw35 := cw35.size
   refine av rfl rfl (wl_nil (q_n (k33 _ _ ?_)))
   refine sx_region ?_
   refine mv rfl rfl (sp rfl (px_quo rfl rfl (by omega) (by omega) (by omega)) ?_)
   refine av rfl rfl (wl_nil ?_)
   refine q_bn (q_n (k14 _ _ ?_))
   refine sx_region ?_
   refine mv rfl rfl (sp rfl (px_add rfl rfl (by omega)) ?_)
   refine av rfl rfl (wl_nil ?_)
   have q37 := Chg.step (l := w.heap.size) (h := ws3.heap.size) cwl7 cs34 (by omega)
   have q38 := Chg.step (l := w.heap.size) (h := ws3.heap.size) q37 cw35 (by omega)
   have hs : ((((c : Nat) : Int) + ((dg n).getD k 0)) : Int) = ((c : Nat) : Int) + (((dg m).getD k 0).toNat : Nat) + (((dg n).getD k 0).toNat : Nat) := by omega
   have hv2 : vl (os ++ [((((c : Nat) : Int) + ((dg n).getD k 0))) % 1000000000]) + Bs ^ (k + 1) * (((((c : Nat) : Int) + ((dg n).getD k 0))) / 1000000000 : Int).toNat = vl ((dg m).take (k + 1)) + vl ((dg n).take (k + 1)) := by
    rw [vl_concat, hos, vl_take_succ', vl_take_succ', Nat.pow_succ]
    exact add_step hs hv
   have hX := mod_bd (s := (((c : Nat) : Int) + ((dg n).getD k 0))) (by omega)
   exact fun a ha => ⟨_, by omega, (k + 1), a35, (os ++ ([(((c : Nat) : Int) + ((dg n).getD k 0)) % 1000000000])), (((((c : Nat) : Int) + ((dg n).getD k 0))) / 1000000000 : Int).toNat, ha.sub (Sub.c 0 rfl (.c 1 rfl (.c 5 rfl (.c 6 (look_int (t := 6) rfl (by first | omega | simp)) (.c 7 (look_int (t := 7) rfl (by first | omega | simp)) .nil))))), q38, (nw35.mono (by omega) (by omega)), rfl, by simp [hos], hlm.append (Lm.single hX.1 hX.2), by omega, by omega, hv2⟩
  have gn := getD_ge (zs := dg n) (k := k) (by omega)
  refine sx_skip ?_
  refine q_n (k31 _ _ ?_)
  refine sx_seq fun K39 k39 => sx_region ?_
  refine mv rfl rfl (mv rfl rfl (sp rfl (px_rem rfl rfl (by omega) (by omega)) ?_))
  refine sx_lit1 rfl xelt23 rfl rfl (fun s40 ws40 ss40 fs40 cs40 => ?_)
  have ns40 := Own.norm (f := (Value.int .i64)) (zs := [((c : Nat) : Int) % 1000000000]) fs40
  have zws40 := cs40.size
  have f42 := hs_s.ext cs40
  refine sx_append rfl xelt23 rfl rfl f42 ns40.sv one_int (by omega) (by simp only [List.length_cons, List.length_nil]; omega) (by unfold maxLen; simp only [List.length_cons, List.length_nil]; omega) (fun a41 w41 fw41 cw41 => ?_)
  have nw41 := Own.app (f := (Value.int .i64)) (a := os) (b := [((c : Nat) : Int) % 1000000000]) fw41
  have zw41 := cw41.size
  refine av rfl rfl (wl_nil (q_n (k39 _ _ ?_)))
  refine sx_sub (Sub.c 0 rfl (.c 1 rfl (.c 5 rfl (.c 6 rfl (.c 7 rfl .nil))))) ?_
  refine sx_region ?_
  refine mv rfl rfl (sp rfl (px_quo rfl rfl (by omega) (by omega) (by omega)) ?_)
  refine av rfl rfl (wl_nil ?_)
  refine q_bn (q_n (k14 _ _ ?_))
  refine sx_region ?_
  refine mv rfl rfl (sp rfl (px_add rfl rfl (by omega)) ?_)
  refine av rfl rfl (wl_nil ?_)
  have q43 := Chg.step (l := w.heap.size) (h := ws3.heap.size) cwl7 cs40 (by omega)
  have q44 := Chg.step (l := w.heap.size) (h := ws3.heap.size) q43 cw41 (by omega)
  have hs : (((c : Nat) : Int) : Int) = ((c : Nat) : Int) + (((dg m).getD k 0).toNat : Nat) + (((dg n).getD k 0).toNat : Nat) := by omega
  have hv2 : vl (os ++ [(((c : Nat) : Int)) % 1000000000]) + Bs ^ (k + 1) * ((((c : Nat) : Int)) / 1000000000 : Int).toNat = vl ((dg m).take (k + 1)) + vl ((dg n).take (k + 1)) := by
   rw [vl_concat, hos, vl_take_succ', vl_take_succ', Nat.pow_succ]
   exact add_step hs hv
  have hX := mod_bd (s := ((c : Nat) : Int)) (by omega)
  exact fun a ha => ⟨_, by omega, (k + 1), a41, (os ++ ([((c : Nat) : Int) % 1000000000])), ((((c : Nat) : Int)) / 1000000000 : Int).toNat, ha.sub (Sub.c 0 rfl (.c 1 rfl (.c 5 rfl (.c 6 (look_int (t := 6) rfl (by first | omega | simp)) (.c 7 (look_int (t := 7) rfl (by first | omega | simp)) .nil))))), q44, (nw41.mono (by omega) (by omega)), rfl, by simp [hos], hlm.append (Lm.single hX.1 hX.2), by omega, by omega, hv2⟩
 refine sx_exit ?_
 refine q_e (q_e (q_bx (q_n (k5 _ _ ?_))))
 refine sx_seq fun K45 k45 => ?_
 have ek : k = max (dg m).length (dg n).length := by omega
 have hz : Lm (os ++ [((c : Nat) : Int)]) := hlm.append (Lm.single (by omega) (by omega))
 have hvv : vl (os ++ [((c : Nat) : Int)]) = m + n := by rw [vl_concat, hos, Int.toNat_natCast, hv, vl_take_ge (by omega), vl_take_ge (by omega), vl_dg, vl_dg]
 refine sx_region ?_
 refine mv rfl rfl (mv rfl rfl ?_)
 refine sx_lit1 rfl xelt23 rfl rfl (fun s46 ws46 ss46 fs46 cs46 => ?_)
 have ns46 := Own.norm (f := (Value.int .i64)) (zs := [((c : Nat) : Int)]) fs46
 have zws46 := cs46.size
 have f48 := hs_s.ext cs46
 refine sx_append rfl xelt23 rfl rfl f48 ns46.sv one_int (by omega) (by simp only [List.length_cons, List.length_nil]; omega) (by unfold maxLen; simp only [List.length_cons, List.length_nil]; omega) (fun a47 w47 fw47 cw47 => ?_)
 have nw47 := Own.app (f := (Value.int .i64)) (a := os) (b := [((c : Nat) : Int)]) fw47
 have zw47 := cw47.size
 refine sx_call rfl rfl Tryz.call69 (c_trim nw47 (by assumption) (by first | omega | (simp only [List.length_append, List.length_set, List.length_replicate, List.length_cons, List.length_nil] at *; omega))) (fun v49 w49 p49 => ?_)
 obtain ⟨s49, rfl, os_49, c49⟩ := p49
 have zw49 := c49.size
 refine av rfl rfl (wl_nil (q_n (k45 _ _ ?_)))
 refine sx_sub (Sub.c 4 rfl .nil) ?_
 refine sx_retc ?_
 refine sx_ret1 Tryz.results81 rfl ?_
 have hr := os_49
 rw [hvv] at hr
 have q50 := Chg.step (l := 0) (h := 0) (Chg.zero (l := 0) (h := 0) cs3) cwl7 (by omega)
 have q51 := Chg.step (l := 0) (h := 0) q50 cs46 (by omega)
 have q52 := Chg.step (l := 0) (h := 0) q51 cw47 (by omega)
 have q53 := Chg.step (l := 0) (h := 0) q52 c49 (by omega)
 exact ⟨_, rfl, hr.mono (by omega) (by omega), q53⟩

theorem c_natAdd1 {w : World} {va : Value} {lva uva : Nat} {m : Nat} {vb : Value} {lvb uvb : Nat} {ys : List Int} (hva : Sl w lva uva va (dg m)) (hvb : Sl w lvb uvb vb (ys)) (hbm : (dg m).length ≤ 1000) (hy : ys = [1]) :
  Ret Tryz.prog 81 [va, vb] w fun v w' => ∃ s, v = s ∧ OwnI w' w.heap.size w'.heap.size s intT (dg (m + 1)) ∧ Chg 0 0 w w' := by
 rw [hy, ← dg_1] at hvb; exact c_natAdd hva hvb hbm (by rw [dg_1]; simp)

theorem c_natSub {w : World} {va : Value} {lva uva : Nat} {m : Nat} {vb : Value} {lvb uvb : Nat} {n : Nat} (hva : Sl w lva uva va (dg m)) (hvb : Sl w lvb uvb vb (dg n)) (hbm : (dg m).length ≤ 1000) (hbn : (dg n).length ≤ 1000) (hle : n ≤ m) :
  Ret Tryz.prog 82 [va, vb] w fun v w' => ∃ s, v = s ∧ OwnI w' w.heap.size w'.heap.size s intT (dg (m - n)) ∧ Chg 0 0 w w' := by
 have hva0 := hva.fit
 have hvb0 := hvb.fit
 refine sx_enter Tryz.func82 rfl Tryz.ntmps82 (nbl rfl) ?_
 refine sx_seq fun K1 k1 => sx_region ?_
 refine av rfl rfl (wl_nil (q_n (k1 _ _ ?_)))
 refine sx_seq fun K2 k2 => sx_region ?_
 refine mv rfl rfl (sp rfl (px_len rfl Tryz.underlying23 hva0) ?_)
 refine sx_make (c := (dg m).length) rfl xelt23 (rfl) (rfl) (by omega) (by unfold maxLen; omega) (fun s3 ws3 fs3 cs3 ls3 => ?_)
 have ns3 := fs3.made
 have zws3 := cs3.size
 refine av rfl rfl (wl_nil (q_n (k2 _ _ ?_)))
 refine sx_seq fun K4 k4 => sx_region ?_
 refine av rfl rfl (wl_nil (q_n (k4 _ _ ?_)))
 refine sx_seq fun K5 k5 => ?_
 refine sx_seq fun K6 k6 => sx_region ?_
 refine mv rfl rfl ?_
 have f7 := hva0.ext cs3
 refine sp rfl (px_len rfl Tryz.underlying23 f7) ?_
 refine mv rfl rfl (wl_nil (q_n (k6 _ _ ?_)))
 refine sx_block ?_
 refine sx_loop (fun mm aa w' => ∃ (k : Nat) (os : List Int) (c : Nat), Agr 44 [(0, va), (1, vb), (5, s3), (6, .int .i64 ((c : Nat) : Int)), (13, .int .i64 (↑(dg m).length)), (14, .int .i64 ↑k)] aa ∧ Chg w.heap.size ws3.heap.size ws3 w' ∧ Own w' w.heap.size ws3.heap.size s3 intT os.length 1 (os.map (Value.int .i64)) ∧ (mm = (dg m).length - k) ∧ (os.length = (dg m).length) ∧ (Lm os) ∧ (c ≤ 1) ∧ (k ≤ (dg m).length) ∧ (vl ((dg m).take k) + Bs ^ k * c = vl (os.take k) + vl ((dg n).take k))) (_) (fun a ha => ⟨0, List.replicate (dg m).length 0, 0, ha.sub (Sub.c 0 rfl (.c 1 rfl (.c 5 rfl (.c 6 (look_int (t := 6) rfl (by first | omega | simp)) (.c 13 (look_int (t := 13) rfl (by first | omega | simp)) (.c 14 (look_int (t := 14) rfl (by first | omega | simp)) .nil)))))), Chg.refl _ _ _, (ns3.mono (by omega) (by omega)), rfl, by simp, Lm.replicate _, by omega, by omega, by simp [vl]⟩) ?_
 rintro mm aa wl8 ⟨k, os, c, hAwl8, cwl8, hs_s3, hm, hos, hlm, hc, hk, hv⟩
 refine (show cw Tryz.prog 44 _ _ _ wl8 from ?_) aa hAwl8
 clear hAwl8
 have zwl8 := cwl8.size
 have am := (Lm_dg m).getD k
 have bn := (Lm_dg n).getD k
 refine sx_seq fun K9 k9 => sx_region ?_
 refine sp rfl (px_lt rfl rfl) ?_
 refine wl_nil (q_n (k9 _ _ ?_))
 refine sx_seq fun K10 k10 => ?_
 refine sx_condP rfl (fun h122 => ?_) (fun h122 => ?_)
 ·
  refine sx_skip ?_
  refine q_n (k10 _ _ ?_)
  refine sx_seq fun K11 k11 => ?_
  refine sx_block ?_
  refine sx_seq fun K12 k12 => sx_region ?_
  refine mv rfl rfl (av rfl rfl (wl_nil (q_n (k12 _ _ ?_))))
  refine sx_seq fun K13 k13 => sx_region ?_
  refine mv rfl rfl (mv rfl rfl ?_)
  have f14 := f7.chg cwl8 (by omega)
  refine sp rfl (px_index1 (j := k) rfl rfl (by omega) Tryz.underlying23 Tryz.sizeOf3 f14 (by omega)) ?_
  refine sp rfl (px_load rfl (f14.load1 (at_int (by omega)) Tryz.isAgg3)) ?_
  refine mv rfl rfl (sp rfl (px_sub rfl rfl (by omega)) ?_)
  refine av rfl rfl (wl_nil (q_n (k13 _ _ ?_)))
  refine sx_sub (Sub.c 0 rfl (.c 1 rfl (.c 5 rfl (.c 6 rfl (.c 7 rfl (.c 8 rfl (.c 13 rfl (.c 14 rfl .nil)))))))) ?_
  refine sx_seq fun K15 k15 => ?_
  refine sx_seq fun K16 k16 => sx_region ?_
  refine mv rfl rfl (mv rfl rfl ?_)
  have f17 := hvb0.ext cs3
  have f18 := f17.chg cwl8 (by omega)
  refine sp rfl (px_len rfl Tryz.underlying23 f18) ?_
  refine sp rfl (px_lt rfl rfl) ?_
  refine wl_nil (q_n (k16 _ _ ?_))
  refine sx_condP rfl (fun h124 => ?_) (fun h124 => ?_)
  ·
   refine sx_region ?_
   refine mv rfl rfl (mv rfl rfl (mv rfl rfl (sp rfl (px_index1 (j := k) rfl rfl (by omega) Tryz.underlying23 Tryz.sizeOf3 f18 (by omega)) ?_)))
   refine sp rfl (px_load rfl (f18.load1 (at_int (by omega)) Tryz.isAgg3)) ?_
   refine sp rfl (px_sub rfl rfl (by omega)) ?_
   refine av rfl rfl (wl_nil (q_n (k15 _ _ ?_)))
   refine sx_sub (Sub.c 0 rfl (.c 1 rfl (.c 5 rfl (.c 6 rfl (.c 7 rfl (.c 8 rfl (.c 13 rfl (.c 14 rfl .nil)))))))) ?_
   refine sx_seq fun K19 k19 => sx_region ?_
   refine av rfl rfl (wl_nil (q_n (k19 _ _ ?_)))
   refine sx_seq fun K20 k20 => ?_
   refine sx_seq fun K21 k21 => sx_region ?_
   refine mv rfl rfl (sp rfl (px_lt rfl rfl) ?_)
   refine wl_nil (q_n (k21 _ _ ?_))
   refine sx_condP rfl (fun h128 => ?_) (fun h128 => ?_)
   ·
    refine sx_seq fun K22 k22 => sx_region ?_
    refine mv rfl rfl (sp rfl (px_add rfl rfl (by omega)) ?_)
    refine av rfl rfl (wl_nil (q_n (k22 _ _ ?_)))
    refine sx_region ?_
    refine av rfl rfl (wl_nil (q_n (k20 _ _ ?_)))
    refine sx_region ?_
    refine mv rfl rfl (mv rfl rfl (mv rfl rfl (sp rfl (px_index1 (j := k) rfl rfl (by omega) Tryz.underlying23 Tryz.sizeOf3 hs_s3.sv (by omega)) ?_)))
    refine sx_storeO rfl rfl hs_s3 (by first | omega | (simp only [List.length_map]; omega)) Tryz.sizeOf3 rfl (fun w23 sw23 fw23 cw23 => ?_)
    have zw23 := cw23.size
    have nw23 := fw23.set
    refine wl_nil ?_
    refine q_bn (q_n (k11 _ _ ?_))
    refine sx_sub (Sub.c 0 rfl (.c 1 rfl (.c 5 rfl (.c 6 rfl (.c 13 rfl (.c 14 rfl .nil)))))) ?_
    refine sx_region ?_
    refine sp rfl (px_add rfl rfl (by omega)) ?_
    refine mv rfl rfl (wl_nil ?_)
    have q24 := Chg.step (l := w.heap.size) (h := ws3.heap.size) cwl8 cw23 (by omega)
    have hs : ((dg m).getD k 0).toNat + Bs * 1 = ((dg n).getD k 0).toNat + c + ((((((dg m).getD k 0) - ((c : Nat) : Int)) - ((dg n).getD k 0)) + 1000000000) : Int).toNat := by simp only [Bs]; omega
    have hv2 : vl ((dg m).take (k + 1)) + Bs ^ (k + 1) * 1 = vl ((os.set k ((((((dg m).getD k 0) - ((c : Nat) : Int)) - ((dg n).getD k 0)) + 1000000000))).take (k + 1)) + vl ((dg n).take (k + 1)) := by
     rw [vl_take_set (by omega), vl_take_succ', vl_take_succ', Nat.pow_succ]
     exact sub_step hs hv
    exact fun a ha => ⟨_, by omega, (k + 1), ((os).set k (((((dg m).getD k 0) - ((c : Nat) : Int)) - ((dg n).getD k 0)) + 1000000000)), 1, ha.sub (Sub.c 0 rfl (.c 1 rfl (.c 5 rfl (.c 6 (look_int (t := 6) rfl (by first | omega | simp)) (.c 13 rfl (.c 14 (look_int (t := 14) rfl (by first | omega | simp)) .nil)))))), q24, (nw23.mono (by omega) (by omega)), rfl, by simp [hos], hlm.set k (by omega) (by omega), by omega, by omega, hv2⟩
   refine sx_skip ?_
   refine q_n (k20 _ _ ?_)
   refine sx_region ?_
   refine mv rfl rfl (mv rfl rfl (mv rfl rfl (sp rfl (px_index1 (j := k) rfl rfl (by omega) Tryz.underlying23 Tryz.sizeOf3 hs_s3.sv (by omega)) ?_)))
   refine sx_storeO rfl rfl hs_s3 (by first | omega | (simp only [List.length_map]; omega)) Tryz.sizeOf3 rfl (fun w25 sw25 fw25 cw25 => ?_)
   have zw25 := cw25.size
   have nw25 := fw25.set
   refine wl_nil ?_
   refine q_bn (q_n (k11 _ _ ?_))
   refine sx_region ?_
   refine sp rfl (px_add rfl rfl (by omega)) ?_
   refine mv rfl rfl (wl_nil ?_)
   have q26 := Chg.step (l := w.heap.size) (h := ws3.heap.size) cwl8 cw25 (by omega)
   have hs : ((dg m).getD k 0).toNat + Bs * 0 = ((dg n).getD k 0).toNat + c + (((((dg m).getD k 0) - ((c : Nat) : Int)) - ((dg n).getD k 0)) : Int).toNat := by simp only [Bs]; omega
   have hv2 : vl ((dg m).take (k + 1)) + Bs ^ (k + 1) * 0 = vl ((os.set k (((((dg m).getD k 0) - ((c : Nat) : Int)) - ((dg n).getD k 0)))).take (k + 1)) + vl ((dg n).take (k + 1)) := by
    rw [vl_take_set (by omega), vl_take_succ', vl_take_succ', Nat.pow_succ]
    exact sub_step hs hv
   exact fun a ha => ⟨_, by omega, (k + 1), ((os).set k ((((dg m).getD k 0) - ((c : Nat) : Int)) - ((dg n).getD k 0))), 0, ha.sub (Sub.c 0 rfl (.c 1 rfl (.c 5 rfl (.c 6 (look_int (t := 6) rfl (by first | omega | simp)) (.c 13 rfl (.c 14 (look_int (t := 14) rfl (by first | omega | simp)) .nil)))))), q26, (nw25.mono (by omega) (by omega)), rfl, by simp [hos], hlm.set k (by omega) (by omega), by omega, by omega, hv2⟩
  have gn := getD_ge (zs := dg n) (k := k) (by omega)
  refine sx_skip ?_
  refine q_n (k15 _ _ ?_)
  refine sx_seq fun K27 k27 => sx_region ?_
  refine av rfl rfl (wl_nil (q_n (k27 _ _ ?_)))
  refine sx_seq fun K28 k28 => ?_
  refine sx_seq fun K29 k29 => sx_region ?_
  refine mv rfl rfl (sp rfl (px_lt rfl rfl) ?_)
  refine wl_nil (q_n (k29 _ _ ?_))
  refine sx_condP rfl (fun h128 => ?_) (fun h128 => ?_)
  ·
   refine sx_seq fun K30 k30 => sx_region ?_
   refine mv rfl rfl (sp rfl (px_add rfl rfl (by omega)) ?_)
   refine av rfl rfl (wl_nil (q_n (k30 _ _ ?_)))
   refine sx_sub (Sub.c 0 rfl (.c 1 rfl (.c 5 rfl (.c 6 rfl (.c 7 rfl (.c 8 rfl (.c 13 rfl (.c 14 rfl .nil)))))))) ?_
   refine sx_region ?_
   refine av rfl rfl (wl_nil (q_n (k28 _ _ ?_)))
   refine sx_region ?_
   refine mv rfl rfl (mv rfl rfl (mv rfl rfl (sp rfl (px_index1 (j := k) rfl rfl (by omega) Tryz.underlying23 Tryz.sizeOf3 hs_s3.sv (by omega)) ?_)))
   refine sx_storeO rfl rfl hs_s3 (by first | omega | (simp only [List.length_map]; omega)) Tryz.sizeOf3 rfl (fun w31 sw31 fw31 cw31 => ?_)
   have zw31 := cw31.size
   have nw31 := fw31.set
   refine wl_nil ?_
   refine q_bn (q_n (k11 _ _ ?_))
   refine sx_region ?_
   refine sp rfl (px_add rfl rfl (by omega)) ?_
   refine mv rfl rfl (wl_nil ?_)
   have q32 := Chg.step (l := w.heap.size) (h := ws3.heap.size) cwl8 cw31 (by omega)
   have hs : ((dg m).getD k 0).toNat + Bs * 1 = ((dg n).getD k 0).toNat + c + (((((dg m).getD k 0) - ((c : Nat) : Int)) + 1000000000) : Int).toNat := by simp only [Bs]; omega
   have hv2 : vl ((dg m).take (k + 1)) + Bs ^ (k + 1) * 1 = vl ((os.set k (((((dg m).getD k 0) - ((c : Nat) : Int)) + 1000000000))).take (k + 1)) + vl ((dg n).take (k + 1)) := by
    rw [vl_take_set (by omega), vl_take_succ', vl_take_succ', Nat.pow_succ]
    exact sub_step hs hv
   exact fun a ha => ⟨_, by omega, (k + 1), ((os).set k ((((dg m).getD k 0) - ((c : Nat) : Int)) + 1000000000)), 1, ha.sub (Sub.c 0 rfl (.c 1 rfl (.c 5 rfl (.c 6 (look_int (t := 6) rfl (by first | omega | simp)) (.c 13 rfl (.c 14 (look_int (t := 14) rfl (by first | omega | simp)) .nil)))))), q32, (nw31.mono (by omega) (by omega)), rfl, by simp [hos], hlm.set k (by omega) (by omega), by omega, by omega, hv2⟩
  refine sx_skip ?_
  refine q_n (k28 _ _ ?_)
  refine sx_region ?_
  refine mv rfl rfl (mv rfl rfl (mv rfl rfl (sp rfl (px_index1 (j := k) rfl rfl (by omega) Tryz.underlying23 Tryz.sizeOf3 hs_s3.sv (by omega)) ?_)))
  refine sx_storeO rfl rfl hs_s3 (by first | omega | (simp only [List.length_map]; omega)) Tryz.sizeOf3 rfl (fun w33 sw33 fw33 cw33 => ?_)
  have zw33 := cw33.size
  have nw33 := fw33.set
  refine wl_nil ?_
  refine q_bn (q_n (k11 _ _ ?_))
  refine sx_sub (Sub.c 0 rfl (.c 1 rfl (.c 5 rfl (.c 6 rfl (.c 13 rfl (.c 14 rfl .nil)))))) ?_
  refine sx_region ?_
  refine sp rfl (px_add rfl rfl (by omega)) ?_
  refine mv rfl rfl (wl_nil ?_)
  have q34 := Chg.step (l := w.heap.size) (h := ws3.heap.size) cwl8 cw33 (by omega)
  have hs : ((dg m).getD k 0).toNat + Bs * 0 = ((dg n).getD k 0).toNat + c + ((((dg m).getD k 0) - ((c : Nat) : Int)) : Int).toNat := by simp only [Bs]; omega
  have hv2 : vl ((dg m).take (k + 1)) + Bs ^ (k + 1) * 0 = vl ((os.set k ((((dg m).getD k 0) - ((c : Nat) : Int)))).take (k + 1)) + vl ((dg n).take (k + 1)) := by
   rw [vl_take_set (by omega), vl_take_succ', vl_take_succ', Nat.pow_succ]
   exact sub_step hs hv
  exact fun a ha => ⟨_, by omega, (k + 1), ((os).set k (((dg m).getD k 0) - ((c : Nat) : Int))), 0, ha.sub (Sub.c 0 rfl (.c 1 rfl (.c 5 rfl (.c 6 (look_int (t := 6) rfl (by first | omega | simp)) (.c 13 rfl (.c 14 (look_int (t := 14) rfl (by first | omega | simp)) .nil)))))), q34, (nw33.mono (by omega) (by omega)), rfl, by simp [hos], hlm.set k (by omega) (by omega), by omega, by omega, hv2⟩
 refine sx_exit ?_
 refine q_e (q_e (q_bx (q_n (k5 _ _ ?_))))
 refine sx_seq fun K35 k35 => ?_
 have ek : k = (dg m).length := by omega
 have hnm := len_le hle
 subst ek
 rw [List.take_length, vl_dg, vl_take_ge (show (dg n).length ≤ (dg m).length from hnm), vl_dg, ← hos, List.take_length] at hv
 have hend := sub_end hv hle (vl_lt hlm) hc
 have hvv := hend.2
 have hz := hlm
 refine sx_region ?_
 refine mv rfl rfl (sx_call rfl rfl Tryz.call69 (c_trim hs_s3 (by assumption) (by first | omega | (simp only [List.length_append, List.length_set, List.length_replicate, List.length_cons, List.length_nil] at *; omega))) (fun v36 w36 p36 => ?_))
 obtain ⟨s36, rfl, os_36, c36⟩ := p36
 have zw36 := c36.size
 refine av rfl rfl (wl_nil (q_n (k35 _ _ ?_)))
 refine sx_retc ?_
 refine sx_ret1 Tryz.results82 rfl ?_
 have hr := os_36
 rw [hvv] at hr
 have q37 := Chg.step (l := 0) (h := 0) (Chg.zero (l := 0) (h := 0) cs3) cwl8 (by omega)
 have q38 := Chg.step (l := 0) (h := 0) q37 c36 (by omega)
 exact ⟨_, rfl, hr.mono (by omega) (by omega), q38⟩

theorem c_intAdd {w : World} {va : Value} {lva uva : Nat} {x : Int} {vb : Value} {lvb uvb : Nat} {y : Int} (hva : Sl w lva uva va (dg x.natAbs)) (hvb : Sl w lvb uvb vb (dg y.natAbs)) (hbx : (dg x.natAbs).length ≤ 1000) (hby : (dg y.natAbs).length ≤ 1000) :
  Ret Tryz.prog 44 [.agg #[.bool (ng x), va], .agg #[.bool (ng y), vb]] w fun v w' => ∃ s, v = .agg #[.bool (ng (x + y)), s] ∧ OwnI w' w.heap.size w'.heap.size s intT (dg (x + y).natAbs) ∧ Chg 0 0 w w' := by
 have hva0 := hva.fit
 have hvb0 := hvb.fit
 have l2 := len_add x.natAbs y.natAbs
 have l3 := len_le (Nat.sub_le x.natAbs y.natAbs)
 have l4 := len_le (Nat.sub_le y.natAbs x.natAbs)
 refine sx_enter Tryz.func44 rfl Tryz.ntmps44 (nbl rfl) ?_
 refine sx_seq fun K1 k1 => sx_region ?_
 refine sx_box [.bool (ng x), va] rfl rfl rfl (fun b2 w3 eb2 sb2 fb2 cb2 => ?_)
 have zw3 := cb2.size
 refine sx_box [.bool (ng y), vb] rfl rfl rfl (fun b4 w5 eb4 sb4 fb4 cb4 => ?_)
 have zw5 := cb4.size
 refine sx_alloc [.bool false, (.slice none 0 0)] rfl Tryz.zeroValue25 rfl (fun b6 w7 eb6 sb6 fb6 cb6 => ?_)
 have zw7 := cb6.size
 refine wl_nil (q_n (k1 _ _ ?_))
 refine sx_seq fun K8 k8 => ?_
 refine sx_seq fun K9 k9 => sx_region ?_
 refine sp rfl (px_field rfl xfld25x0) ?_
 have f10 := fb2.ext cb4
 have f11 := f10.ext cb6
 refine sp rfl (px_load rfl (f11.load1 rfl Tryz.isAgg4)) ?_
 refine sp rfl (px_field rfl xfld25x0) ?_
 have f12 := fb4.ext cb6
 refine sp rfl (px_load rfl (f12.load1 rfl Tryz.isAgg4)) ?_
 refine sp rfl (px_eqB Tryz.underlying4 rfl rfl) ?_
 refine wl_nil (q_n (k9 _ _ ?_))
 refine sx_condB rfl (fun h46 => ?_) (fun h46 => ?_)
 ·
  refine sx_seq fun K13 k13 => ?_
  have f14 := hva0.ext cb2
  have f15 := f14.ext cb4
  have f16 := f15.ext cb6
  have f17 := hvb0.ext cb2
  have f18 := f17.ext cb4
  have f19 := f18.ext cb6
  refine dx_region (fun w' => Chg b6 (b6 + 1) w7 w') (by kernel_rfl) (Chg.zero (Chg.drew _)) ?_
  have d20 := Chg.drew w7
  have s20 : Chg b6 (b6 + 1) w7 (World.drew w7) := Chg.zero (Chg.drew _)
  have y20 : (World.drew w7).heap.size = w7.heap.size := rfl
  generalize World.drew w7 = w20 at *
  have zw20 := d20.size
  refine dt 0 rfl rfl rfl rfl s20 (fun _ hS => px_field rfl xfld25x0) ?_
  refine dt 1 rfl rfl rfl rfl s20 (fun _ hS => px_load rfl ((f11.chg hS (by omega)).load1 rfl Tryz.isAgg4)) ?_
  refine dt 2 rfl rfl rfl rfl s20 (fun _ hS => px_field rfl xfld25x1) ?_
  refine dt 3 rfl rfl rfl rfl s20 (fun _ hS => px_load rfl ((f11.chg hS (by omega)).load1 rfl Tryz.isAgg23)) ?_
  refine dt 4 rfl rfl rfl rfl s20 (fun _ hS => px_field rfl xfld25x1) ?_
  refine dt 5 rfl rfl rfl rfl s20 (fun _ hS => px_load rfl ((f12.chg hS (by omega)).load1 rfl Tryz.isAgg23)) ?_
  refine dx_eff 6 rfl (by kernel_rfl) ?_
  have f21 := f16.ext d20
  have f22 := f19.ext d20
  refine sx_call rfl rfl Tryz.call81 (c_natAdd f21 f22 (by omega) (by omega)) (fun v23 w23 p23 => ?_)
  obtain ⟨s23, rfl, os_23, c23⟩ := p23
  have zw23 := c23.size
  have s24 : Chg b6 (b6 + 1) w7 w23 := (Chg.zero (l := b6) (h := (b6 + 1)) (d20.t c23))
  refine wl_nil ?_
  refine dx_next s24 ?_
  refine dx_eff 7 rfl (by kernel_rfl) ?_
  refine sx_call rfl rfl Tryz.call33 (c_signed os_23.sv (by omega)) (fun v25 w25 p25 => ?_)
  obtain ⟨rfl, c25⟩ := p25
  have zw25 := c25.size
  have s26 : Chg b6 (b6 + 1) w7 w25 := (Chg.zero (l := b6) (h := (b6 + 1)) ((d20.t c23).t c25))
  refine wl_nil ?_
  refine dx_next s26 ?_
  refine dx_eff 8 rfl (by kernel_rfl) ?_
  have f30 := ((fb6.ext d20).ext c23).ext c25
  have f31 := os_23.ext c25
  refine sx_store (vs := [.bool (nz (ng x) (dg (x.natAbs + y.natAbs))), v23]) rfl rfl f30 rfl Tryz.sizeOf25 (nbl rfl) (one_cons rfl (one_cons f31.one one_nil)) (fun w27 sw27 fw27 cw27 => ?_)
  have zw27 := cw27.size
  have gw27 : Blk w27 b6 [.bool (nz (ng x) (dg (x.natAbs + y.natAbs))), v23] 25 := fw27
  have q33 := Chg.step (l := b6) (h := (b6 + 1)) (Chg.zero (l := b6) (h := (b6 + 1)) ((d20.t c23).t c25)) cw27 (by omega)
  have s32 : Chg b6 (b6 + 1) w7 w27 := q33
  refine wl_nil ?_
  refine dx_next s32 ?_
  refine dx_done (by kernel_rfl) ?_
  refine q_n (k13 _ _ ?_)
  refine sx_sub (Sub.c 2 rfl (.c 3 rfl (.c 4 rfl .nil))) ?_
  refine sx_retc ?_
  refine q_r (sx_ret1 Tryz.results44 ⟨_, rfl, gw27.loadA (vs := [.bool (nz (ng x) (dg (x.natAbs + y.natAbs))), v23]) (look_lit rfl) Tryz.isAgg25 Tryz.sizeOf25⟩ ?_)
  have hh := add_sg h46
  rw [← hh.1, ← hh.2]
  have f34 := f31.chg cw27 (by omega)
  have q35 := Chg.step (l := 0) (h := 0) (Chg.zero (l := 0) (h := 0) (((((cb2.t cb4).t cb6).t d20).t c23).t c25)) cw27 (by omega)
  exact ⟨_, rfl, (Own.mono f34 (by omega) (by omega)), q35⟩
 refine sx_skip ?_
 refine q_n (k8 _ _ ?_)
 refine sx_seq fun K36 k36 => ?_
 refine sx_seq fun K37 k37 => sx_region ?_
 refine sp rfl (px_field rfl xfld25x1) ?_
 refine sp rfl (px_load rfl (f11.load1 rfl Tryz.isAgg23)) ?_
 refine sp rfl (px_field rfl xfld25x1) ?_
 refine sp rfl (px_load rfl (f12.load1 rfl Tryz.isAgg23)) ?_
 have f38 := hva0.ext cb2
 have f39 := f38.ext cb4
 have f40 := f39.ext cb6
 have f41 := hvb0.ext cb2
 have f42 := f41.ext cb4
 have f43 := f42.ext cb6
 refine sx_call rfl rfl Tryz.call74 (c_natCmp f40 f43 (by omega)) (fun v44 w44 p44 => ?_)
 obtain ⟨rfl, c44⟩ := p44
 have zw44 := c44.size
 refine sp rfl (px_lt rfl rfl) ?_
 refine wl_nil (q_n (k37 _ _ ?_))
 refine sx_sub (Sub.c 2 rfl (.c 3 rfl (.c 4 rfl (.c 23 rfl .nil)))) ?_
 refine sx_condP rfl (fun h49 => ?_) (fun h49 => ?_)
 ·
  rw [cmpL_dg] at h49
  have hlt := cmpN_neg.1 h49
  refine sx_region ?_
  have f45 := f12.ext c44
  refine sp rfl (px_load rfl (f45.loadA (vs := [.bool (ng y), vb]) (look_lit rfl) Tryz.isAgg25 Tryz.sizeOf25)) ?_
  have f46 := f11.ext c44
  refine sp rfl (px_load rfl (f46.loadA (vs := [.bool (ng x), va]) (look_lit rfl) Tryz.isAgg25 Tryz.sizeOf25)) ?_
  have f48 := f43.ext c44
  refine sx_store (vs := [.bool (ng y), vb]) rfl rfl f46 rfl Tryz.sizeOf25 (nbl rfl) (one_cons rfl (one_cons f48.one one_nil)) (fun w47 sw47 fw47 cw47 => ?_)
  have zw47 := cw47.size
  have gw47 : Blk w47 b2 [.bool (ng y), vb] 25 := fw47
  have f50 := f45.chg cw47 (by omega)
  have f52 := (f40.ext c44).chg cw47 (by omega)
  refine sx_store (vs := [.bool (ng x), va]) rfl rfl f50 rfl Tryz.sizeOf25 (nbl rfl) (one_cons rfl (one_cons f52.one one_nil)) (fun w49 sw49 fw49 cw49 => ?_)
  have zw49 := cw49.size
  have gw49 : Blk w49 b4 [.bool (ng x), va] 25 := fw49
  refine wl_nil (q_n (k36 _ _ ?_))
  refine sx_seq fun K53 k53 => ?_
  have f54 := gw47.chg cw49 (by omega)
  have f55 := f52.chg cw49 (by omega)
  have f56 := f48.chg cw47 (by omega)
  have f57 := f56.chg cw49 (by omega)
  refine dx_region (fun w' => Chg b6 (b6 + 1) w49 w') (by kernel_rfl) (Chg.zero (Chg.drew _)) ?_
  have d58 := Chg.drew w49
  have s58 : Chg b6 (b6 + 1) w49 (World.drew w49) := Chg.zero (Chg.drew _)
  have y58 : (World.drew w49).heap.size = w49.heap.size := rfl
  generalize World.drew w49 = w58 at *
  have zw58 := d58.size
  refine dt 0 rfl rfl rfl rfl s58 (fun _ hS => px_field rfl xfld25x0) ?_
  refine dt 1 rfl rfl rfl rfl s58 (fun _ hS => px_load rfl ((f54.chg hS (by omega)).load1 rfl Tryz.isAgg4)) ?_
  refine dt 2 rfl rfl rfl rfl s58 (fun _ hS => px_field rfl xfld25x1) ?_
  refine dt 3 rfl rfl rfl rfl s58 (fun _ hS => px_load rfl ((f54.chg hS (by omega)).load1 rfl Tryz.isAgg23)) ?_
  refine dt 4 rfl rfl rfl rfl s58 (fun _ hS => px_field rfl xfld25x1) ?_
  refine dt 5 rfl rfl rfl rfl s58 (fun _ hS => px_load rfl ((gw49.chg hS (by omega)).load1 rfl Tryz.isAgg23)) ?_
  refine dx_eff 6 rfl (by kernel_rfl) ?_
  have f59 := f57.ext d58
  have f60 := f55.ext d58
  refine sx_call rfl rfl Tryz.call82 (c_natSub f59 f60 (by omega) (by omega) (by omega)) (fun v61 w61 p61 => ?_)
  obtain ⟨s61, rfl, os_61, c61⟩ := p61
  have zw61 := c61.size
  have s62 : Chg b6 (b6 + 1) w49 w61 := (Chg.zero (l := b6) (h := (b6 + 1)) (d58.t c61))
  refine wl_nil ?_
  refine dx_next s62 ?_
  refine dx_eff 7 rfl (by kernel_rfl) ?_
  refine sx_call rfl rfl Tryz.call33 (c_signed os_61.sv (by omega)) (fun v63 w63 p63 => ?_)
  obtain ⟨rfl, c63⟩ := p63
  have zw63 := c63.size
  have s64 : Chg b6 (b6 + 1) w49 w63 := (Chg.zero (l := b6) (h := (b6 + 1)) ((d58.t c61).t c63))
  refine wl_nil ?_
  refine dx_next s64 ?_
  refine dx_eff 8 rfl (by kernel_rfl) ?_
  have f67 := (fb6.ext c44).chg cw47 (by omega)
  have f68 := f67.chg cw49 (by omega)
  have f71 := ((f68.ext d58).ext c61).ext c63
  have f72 := os_61.ext c63
  refine sx_store (vs := [.bool (nz (ng y) (dg (y.natAbs - x.natAbs))), v61]) rfl rfl f71 rfl Tryz.sizeOf25 (nbl rfl) (one_cons rfl (one_cons f72.one one_nil)) (fun w65 sw65 fw65 cw65 => ?_)
  have zw65 := cw65.size
  have gw65 : Blk w65 b6 [.bool (nz (ng y) (dg (y.natAbs - x.natAbs))), v61] 25 := fw65
  have q74 := Chg.step (l := b6) (h := (b6 + 1)) (Chg.zero (l := b6) (h := (b6 + 1)) ((d58.t c61).t c63)) cw65 (by omega)
  have s73 : Chg b6 (b6 + 1) w49 w65 := q74
  refine wl_nil ?_
  refine dx_next s73 ?_
  refine dx_done (by kernel_rfl) ?_
  refine q_n (k53 _ _ ?_)
  refine sx_retc ?_
  refine sx_ret1 Tryz.results44 ⟨_, rfl, gw65.loadA (vs := [.bool (nz (ng y) (dg (y.natAbs - x.natAbs))), v61]) (look_lit rfl) Tryz.isAgg25 Tryz.sizeOf25⟩ ?_
  have hh := (sub_sg2 h46 (by omega))
  rw [← hh.1, ← hh.2]
  have f75 := f72.chg cw65 (by omega)
  have q76 := Chg.step (l := 0) (h := 0) (Chg.zero (l := 0) (h := 0) (((cb2.t cb4).t cb6).t c44)) cw47 (by omega)
  have q77 := Chg.step (l := 0) (h := 0) q76 cw49 (by omega)
  have q78 := Chg.step (l := 0) (h := 0) q77 ((d58.t c61).t c63) (by omega)
  have q79 := Chg.step (l := 0) (h := 0) q78 cw65 (by omega)
  exact ⟨_, rfl, (Own.mono f75 (by omega) (by omega)), q79⟩
 rw [cmpL_dg] at h49
 have hge := cmpN_nonneg.1 (Int.not_lt.1 h49)
 refine sx_skip ?_
 refine q_n (k36 _ _ ?_)
 refine sx_seq fun K80 k80 => ?_
 have f81 := f11.ext c44
 have f82 := f12.ext c44
 refine dx_region (fun w' => Chg b6 (b6 + 1) w44 w') (by kernel_rfl) (Chg.zero (Chg.drew _)) ?_
 have d85 := Chg.drew w44
 have s85 : Chg b6 (b6 + 1) w44 (World.drew w44) := Chg.zero (Chg.drew _)
 have y85 : (World.drew w44).heap.size = w44.heap.size := rfl
 generalize World.drew w44 = w85 at *
 have zw85 := d85.size
 refine dt 0 rfl rfl rfl rfl s85 (fun _ hS => px_field rfl xfld25x0) ?_
 refine dt 1 rfl rfl rfl rfl s85 (fun _ hS => px_load rfl ((f81.chg hS (by omega)).load1 rfl Tryz.isAgg4)) ?_
 refine dt 2 rfl rfl rfl rfl s85 (fun _ hS => px_field rfl xfld25x1) ?_
 refine dt 3 rfl rfl rfl rfl s85 (fun _ hS => px_load rfl ((f81.chg hS (by omega)).load1 rfl Tryz.isAgg23)) ?_
 refine dt 4 rfl rfl rfl rfl s85 (fun _ hS => px_field rfl xfld25x1) ?_
 refine dt 5 rfl rfl rfl rfl s85 (fun _ hS => px_load rfl ((f82.chg hS (by omega)).load1 rfl Tryz.isAgg23)) ?_
 refine dx_eff 6 rfl (by kernel_rfl) ?_
 have f86 := (f40.ext c44).ext d85
 have f87 := (f43.ext c44).ext d85
 refine sx_call rfl rfl Tryz.call82 (c_natSub f86 f87 (by omega) (by omega) (by omega)) (fun v88 w88 p88 => ?_)
 obtain ⟨s88, rfl, os_88, c88⟩ := p88
 have zw88 := c88.size
 have s89 : Chg b6 (b6 + 1) w44 w88 := (Chg.zero (l := b6) (h := (b6 + 1)) (d85.t c88))
 refine wl_nil ?_
 refine dx_next s89 ?_
 refine dx_eff 7 rfl (by kernel_rfl) ?_
 refine sx_call rfl rfl Tryz.call33 (c_signed os_88.sv (by omega)) (fun v90 w90 p90 => ?_)
 obtain ⟨rfl, c90⟩ := p90
 have zw90 := c90.size
 have s91 : Chg b6 (b6 + 1) w44 w90 := (Chg.zero (l := b6) (h := (b6 + 1)) ((d85.t c88).t c90))
 refine wl_nil ?_
 refine dx_next s91 ?_
 refine dx_eff 8 rfl (by kernel_rfl) ?_
 have f96 := (((fb6.ext c44).ext d85).ext c88).ext c90
 have f97 := os_88.ext c90
 refine sx_store (vs := [.bool (nz (ng x) (dg (x.natAbs - y.natAbs))), v88]) rfl rfl f96 rfl Tryz.sizeOf25 (nbl rfl) (one_cons rfl (one_cons f97.one one_nil)) (fun w92 sw92 fw92 cw92 => ?_)
 have zw92 := cw92.size
 have gw92 : Blk w92 b6 [.bool (nz (ng x) (dg (x.natAbs - y.natAbs))), v88] 25 := fw92
 have q99 := Chg.step (l := b6) (h := (b6 + 1)) (Chg.zero (l := b6) (h := (b6 + 1)) ((d85.t c88).t c90)) cw92 (by omega)
 have s98 : Chg b6 (b6 + 1) w44 w92 := q99
 refine wl_nil ?_
 refine dx_next s98 ?_
 refine dx_done (by kernel_rfl) ?_
 refine q_n (k80 _ _ ?_)
 refine sx_retc ?_
 refine sx_ret1 Tryz.results44 ⟨_, rfl, gw92.loadA (vs := [.bool (nz (ng x) (dg (x.natAbs - y.natAbs))), v88]) (look_lit rfl) Tryz.isAgg25 Tryz.sizeOf25⟩ ?_
 have hh := sub_sg h46 hge
 rw [← hh.1, ← hh.2]
 have f100 := f97.chg cw92 (by omega)
 have q101 := Chg.step (l := 0) (h := 0) (Chg.zero (l := 0) (h := 0) ((((((cb2.t cb4).t cb6).t c44).t d85).t c88).t c90)) cw92 (by omega)
 exact ⟨_, rfl, (Own.mono f100 (by omega) (by omega)), q101⟩

theorem c_intCmp {w : World} {va : Value} {lva uva : Nat} {x : Int} {vb : Value} {lvb uvb : Nat} {y : Int} (hva : Sl w lva uva va (dg x.natAbs)) (hvb : Sl w lvb uvb vb (dg y.natAbs)) (hbx : (dg x.natAbs).length ≤ 900) (hby : (dg y.natAbs).length ≤ 900) :
  Ret Tryz.prog 42 [.agg #[.bool (ng x), va], .agg #[.bool (ng y), vb]] w fun v w' => v = .int .i64 (cmpI x y) ∧ Chg 0 0 w w' := by
 have hva0 := hva.fit
 have hvb0 := hvb.fit
 refine sx_enter Tryz.func42 rfl Tryz.ntmps42 (nbl rfl) ?_
 refine sx_seq fun K1 k1 => sx_region ?_
 refine sx_box [.bool (ng x), va] rfl rfl rfl (fun b2 w3 eb2 sb2 fb2 cb2 => ?_)
 have zw3 := cb2.size
 refine sx_box [.bool (ng y), vb] rfl rfl rfl (fun b4 w5 eb4 sb4 fb4 cb4 => ?_)
 have zw5 := cb4.size
 refine av rfl rfl (wl_nil (q_n (k1 _ _ ?_)))
 refine sx_seq fun K6 k6 => ?_
 have f7 := fb2.ext cb4
 have f8 := hva0.ext cb2
 have f9 := f8.ext cb4
 have f10 := hvb0.ext cb2
 have f11 := f10.ext cb4
 refine dx_region (fun w' => Chg 0 0 w5 w') (by kernel_rfl) (Chg.zero (Chg.drew _)) ?_
 have d12 := Chg.drew w5
 have s12 : Chg 0 0 w5 (World.drew w5) := Chg.zero (Chg.drew _)
 have y12 : (World.drew w5).heap.size = w5.heap.size := rfl
 generalize World.drew w5 = w12 at *
 have zw12 := d12.size
 refine dt 0 rfl rfl rfl rfl s12 (fun _ hS => px_load rfl ((f7.chg hS (by omega)).loadA (vs := [.bool (ng x), va]) (look_lit rfl) Tryz.isAgg25 Tryz.sizeOf25)) ?_
 refine dt 1 rfl rfl rfl rfl s12 (fun _ hS => px_load rfl ((fb4.chg hS (by omega)).loadA (vs := [.bool (ng y), vb]) (look_lit rfl) Tryz.isAgg25 Tryz.sizeOf25)) ?_
 refine dx_eff 2 rfl (by kernel_rfl) ?_
 have f13 := f11.ext d12
 refine sx_call rfl rfl Tryz.call46 (c_intNeg f13 (by omega)) (fun v14 w14 p14 => ?_)
 obtain ⟨s14, rfl, os_14, c14⟩ := p14
 have zw14 := c14.size
 have s15 : Chg 0 0 w5 w14 := (d12.t c14)
 refine wl_nil ?_
 refine dx_next s15 ?_
 refine dx_eff 3 rfl (by kernel_rfl) ?_
 have f17 := (f9.ext d12).ext c14
 refine sx_call rfl rfl Tryz.call44 (c_intAdd f17 os_14.sv (by omega) (by rw [Int.natAbs_neg]; omega)) (fun v18 w18 p18 => ?_)
 obtain ⟨s18, rfl, os_18, c18⟩ := p18
 have zw18 := c18.size
 have s19 : Chg 0 0 w5 w18 := ((d12.t c14).t c18)
 refine wl_nil ?_
 refine dx_next s19 ?_
 refine dx_eff 4 rfl (by kernel_rfl) ?_
 refine sx_call rfl rfl Tryz.call79 (c_intSign os_18.sv (by have h := len_addI x (-y); rw [Int.natAbs_neg] at h; omega)) (fun v20 w20 p20 => ?_)
 obtain ⟨rfl, c20⟩ := p20
 have zw20 := c20.size
 have s21 : Chg 0 0 w5 w20 := (((d12.t c14).t c18).t c20)
 refine wl_nil ?_
 refine dx_next s21 ?_
 refine dt 5 rfl rfl rfl rfl s21 (fun _ hS => px_assign rfl) ?_
 refine dx_done (by kernel_rfl) ?_
 refine q_n (k6 _ _ ?_)
 refine sx_retc ?_
 refine sx_ret1 Tryz.results42 rfl ?_
 exact ⟨(by rw [cmpI_sign]), (((((cb2.t cb4).t d12).t c14).t c18).t c20)⟩

theorem c_iRatCmpK {w : World} {va1 : Value} {lva1 uva1 : Nat} {x1 : Int} {vd1 : Value} {lvd1 uvd1 : Nat} {e1 : Nat} {va2 : Value} {lva2 uva2 : Nat} {x2 : Int} {vd2 : Value} {lvd2 uvd2 : Nat} {e2 : Nat} (hva1 : Sl w lva1 uva1 va1 (dg x1.natAbs)) (hvd1 : Sl w lvd1 uvd1 vd1 (dg e1)) (hva2 : Sl w lva2 uva2 va2 (dg x2.natAbs)) (hvd2 : Sl w lvd2 uvd2 vd2 (dg e2)) (hR1 : ROk (ng x1) (dg x1.natAbs) (dg e1)) (hR2 : ROk (ng x2) (dg x2.natAbs) (dg e2)) :
  Ret Tryz.prog 15 [.agg #[.bool (ng x1), va1, vd1], .agg #[.bool (ng x2), va2, vd2]] w fun v w' => v = .int .i64 (cmpI (x1 * ((e2 : Nat) : Int)) (x2 * ((e1 : Nat) : Int))) ∧ Chg 0 0 w w' := by
 have hva10 := hva1.fit
 have hvd10 := hvd1.fit
 have hva20 := hva2.fit
 have hvd20 := hvd2.fit
 have hi1 := ROk_iff.1 hR1
 have hi2 := ROk_iff.1 hR2
 have l1 := len_mul x1.natAbs e2
 have l2 := len_mul x2.natAbs e1
 have a1 : (x1 * (e2 : Int)).natAbs = x1.natAbs * e2 := by rw [Int.natAbs_mul, Int.natAbs_natCast]
 have a2 : (x2 * (e1 : Int)).natAbs = x2.natAbs * e1 := by rw [Int.natAbs_mul, Int.natAbs_natCast]
 refine sx_enter Tryz.func15 rfl Tryz.ntmps15 (nbl rfl) ?_
 refine sx_seq fun K1 k1 => sx_region ?_
 refine sx_box [.bool (ng x1), va1, vd1] rfl rfl rfl (fun b2 w3 eb2 sb2 fb2 cb2 => ?_)
 have zw3 := cb2.size
 refine sx_box [.bool (ng x2), va2, vd2] rfl rfl rfl (fun b4 w5 eb4 sb4 fb4 cb4 => ?_)
 have zw5 := cb4.size
 refine av rfl rfl (wl_nil (q_n (k1 _ _ ?_)))
 refine sx_seq fun K6 k6 => ?_
 refine sx_seq fun K7 k7 => sx_region ?_
 have f8 := fb2.ext cb4
 refine sp rfl (px_load rfl (f8.loadA (vs := [.bool (ng x1), va1, vd1]) (look_lit rfl) Tryz.isAgg37 Tryz.sizeOf37)) ?_
 refine sp rfl (px_load rfl (fb4.loadA (vs := [.bool (ng x2), va2, vd2]) (look_lit rfl) Tryz.isAgg37 Tryz.sizeOf37)) ?_
 have f9 := hva10.ext cb2
 have f10 := f9.ext cb4
 have f11 := hvd10.ext cb2
 have f12 := f11.ext cb4
 have f13 := hva20.ext cb2
 have f14 := f13.ext cb4
 have f15 := hvd20.ext cb2
 have f16 := f15.ext cb4
 refine sx_call rfl rfl Tryz.call47 (c_ratsOk f10 f12 f14 f16 (by omega)) (fun v17 w17 p17 => ?_)
 obtain ⟨rfl, c17⟩ := p17
 have zw17 := c17.size
 refine sp rfl (px_notP rfl) ?_
 refine wl_nil (q_n (k7 _ _ ?_))
 have h98 : ¬ (¬ (ROk (ng x1) (dg x1.natAbs) (dg e1) ∧ ROk (ng x2) (dg x2.natAbs) (dg e2))) := fun h => h ⟨hR1, hR2⟩
 refine sx_condPF rfl h98 ?_
 refine sx_skip ?_
 refine q_n (k6 _ _ ?_)
 refine sx_seq fun K18 k18 => ?_
 have f19 := f8.ext c17
 have f20 := fb4.ext c17
 refine dx_region (fun w' => Chg 0 0 w17 w') (by kernel_rfl) (Chg.zero (Chg.drew _)) ?_
 have d25 := Chg.drew w17
 have s25 : Chg 0 0 w17 (World.drew w17) := Chg.zero (Chg.drew _)
 have y25 : (World.drew w17).heap.size = w17.heap.size := rfl
 generalize World.drew w17 = w25 at *
 have zw25 := d25.size
 refine dt 0 rfl rfl rfl rfl s25 (fun _ hS => px_load rfl ((f19.chg hS (by omega)).loadA (vs := [.bool (ng x1), va1, vd1]) (look_lit rfl) Tryz.isAgg37 Tryz.sizeOf37)) ?_
 refine dt 1 rfl rfl rfl rfl s25 (fun _ hS => px_field rfl xfld37x1) ?_
 refine dt 2 rfl rfl rfl rfl s25 (fun _ hS => px_load rfl ((f20.chg hS (by omega)).load1 rfl Tryz.isAgg23)) ?_
 refine dt 4 rfl rfl rfl rfl s25 (fun _ hS => px_load rfl ((f20.chg hS (by omega)).loadA (vs := [.bool (ng x2), va2, vd2]) (look_lit rfl) Tryz.isAgg37 Tryz.sizeOf37)) ?_
 refine dt 5 rfl rfl rfl rfl s25 (fun _ hS => px_field rfl xfld37x1) ?_
 refine dt 6 rfl rfl rfl rfl s25 (fun _ hS => px_load rfl ((f19.chg hS (by omega)).load1 rfl Tryz.isAgg23)) ?_
 refine dx_eff 3 rfl (by kernel_rfl) ?_
 have f26 := (f10.ext c17).ext d25
 have f27 := (f12.ext c17).ext d25
 have f28 := (f16.ext c17).ext d25
 refine sx_call rfl rfl Tryz.call48 (c_ratNum f26 f27 f28 (by omega) (by omega)) (fun v29 w29 p29 => ?_)
 obtain ⟨s29, rfl, os_29, c29⟩ := p29
 have zw29 := c29.size
 have s30 : Chg 0 0 w17 w29 := (d25.t c29)
 refine wl_nil ?_
 refine dx_next s30 ?_
 refine dx_eff 7 rfl (by kernel_rfl) ?_
 have f32 := ((f14.ext c17).ext d25).ext c29
 have f33 := f28.ext c29
 have f34 := f27.ext c29
 refine sx_call rfl rfl Tryz.call48 (c_ratNum f32 f33 f34 (by omega) (by omega)) (fun v35 w35 p35 => ?_)
 obtain ⟨s35, rfl, os_35, c35⟩ := p35
 have zw35 := c35.size
 have s36 : Chg 0 0 w17 w35 := ((d25.t c29).t c35)
 refine wl_nil ?_
 refine dx_next s36 ?_
 refine dx_eff 8 rfl (by kernel_rfl) ?_
 have f37 := os_29.ext c35
 refine sx_call rfl rfl Tryz.call42 (c_intCmp f37.sv os_35.sv (by rw [a1]; omega) (by rw [a2]; omega)) (fun v38 w38 p38 => ?_)
 obtain ⟨rfl, c38⟩ := p38
 have zw38 := c38.size
 have s39 : Chg 0 0 w17 w38 := (((d25.t c29).t c35).t c38)
 refine wl_nil ?_
 refine dx_next s39 ?_
 refine dt 9 rfl rfl rfl rfl s39 (fun _ hS => px_assign rfl) ?_
 refine dx_done (by kernel_rfl) ?_
 refine q_n (k18 _ _ ?_)
 refine sx_sub (Sub.c 4 rfl .nil) ?_
 refine sx_retc ?_
 refine sx_ret1 Tryz.results15 rfl ?_
 exact ⟨rfl, ((((((cb2.t cb4).t c17).t d25).t c29).t c35).t c38)⟩

end Go.Proofs.YtoeclobdbblohaaGreatDoor
