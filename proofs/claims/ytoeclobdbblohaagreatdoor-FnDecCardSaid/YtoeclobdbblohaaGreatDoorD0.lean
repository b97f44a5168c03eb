/- Contracts of functions of the program: what each call returns, and that it changes nothing that was. Conditions: as each says. -/
import Derived.Test.YtoeclobdbblohaaGreatDoorTy
import Derived.Test.YtoeclobdbblohaaGreatDoorNatJ
import Derived.Test.YtoeclobdbblohaaGreatDoorSxB
import Derived.Test.YtoeclobdbblohaaGreatDoorPair
import Derived.Test.YtoeclobdbblohaaGreatDoorSxW
import Derived.Test.YtoeclobdbblohaaGreatDoorNatI
import Derived.Test.YtoeclobdbblohaaGreatDoorTab
import Derived.Test.YtoeclobdbblohaaGreatDoorLay
import Derived.Test.YtoeclobdbblohaaGreatDoorLayB
import Derived.Test.YtoeclobdbblohaaGreatDoorNatX
import Derived.Test.YtoeclobdbblohaaGreatDoorSxP
import Derived.Test.YtoeclobdbblohaaGreatDoorNatDx
set_option linter.unusedVariables false
set_option linter.unusedSimpArgs false
namespace Go.Proofs.YtoeclobdbblohaaGreatDoor
open Go Go.RowKit
set_option maxRecDepth 100000
theorem c_l01New {w : World} {vb : Value} {lvb uvb : Nat} {bs : List Int} (hvb : SlB w lvb uvb vb (bs)) (hb8 : ∀ j, j < bs.length → 0 ≤ bs.getD j 0 ∧ bs.getD j 0 ≤ 255) (hbl : bs.length ≤ 1048576) :
  Ret Tryz.prog 28 [vb] w fun v w' => ∃ c h2, v = .pointer (some ⟨c, 0, none⟩) ∧ Blk w' c [vb, .int .i64 (0), .int .i64 (h2)] 97 ∧ (0 ≤ h2 ∧ h2 ≤ 1073741823) ∧ (w.heap.size ≤ c ∧ c < w'.heap.size) ∧ Chg 0 0 w w' := by
 refine sx_enter Tryz.func28 rfl Tryz.ntmps28 (nbl rfl) ?_
 refine sx_seq fun K1 k1 => sx_region ?_
 refine av rfl rfl (wl_nil (q_n (k1 _ _ ?_)))
 refine sx_seq fun K2 k2 => sx_region ?_
 refine mv rfl rfl (sp rfl (px_len rfl Tryz.underlying22 hvb) ?_)
 refine sp rfl (px_add rfl rfl (by omega)) ?_
 refine av rfl rfl (wl_nil (q_n (k2 _ _ ?_)))
 refine sx_seq fun K3 k3 => ?_
 refine sx_seq fun K4 k4 => sx_region ?_
 refine av rfl rfl (wl_nil (q_n (k4 _ _ ?_)))
 refine sx_block ?_
 refine sx_loop (fun mm aa w' => ∃ (k : Nat) (h : Int), Agr 32 [(0, vb), (3, .int .i64 h), (4, .int .i64 ↑k)] aa ∧ Chg 0 0 w w' ∧ (mm = bs.length - k) ∧ (k ≤ bs.length) ∧ (0 ≤ h ∧ h ≤ 1073741823)) (_) (fun a ha => ⟨0, (1616 + (bs.length : Int)), ha.sub (Sub.c 0 rfl (.c 3 (look_int (t := 3) rfl (by first | omega | simp)) (.c 4 (look_int (t := 4) rfl (by first | omega | simp)) .nil))), Chg.refl _ _ _, rfl, by omega, by omega⟩) ?_
 rintro mm aa wl5 ⟨k, h, hAwl5, cwl5, hm, hk, hh⟩
 refine (show cw Tryz.prog 32 _ _ _ wl5 from ?_) aa hAwl5
 clear hAwl5
 have zwl5 := cwl5.size
 have hv8 := hb8 k
 refine sx_seq fun K6 k6 => ?_
 refine sx_seq fun K7 k7 => sx_region ?_
 refine mv rfl rfl (mv rfl rfl ?_)
 have f8 := hvb.ext cwl5
 refine sp rfl (px_len rfl Tryz.underlying22 f8) ?_
 refine sp rfl (px_lt rfl rfl) ?_
 refine mv rfl rfl ?_
 refine sx_tmpP (t := 12) rfl (fun h135 => ?_) (fun h135 => ?_)
 ·
  refine sx_guardT rfl rfl rfl ?_
  refine mv rfl rfl ?_
  refine sx_guardT rfl rfl rfl ?_
  refine sp rfl (px_lt rfl rfl) ?_
  refine sp rfl (px_pick rfl rfl) ?_
  refine wl_nil (q_n (k7 _ _ ?_))
  refine sx_condP rfl (fun h135x1 => ?_) (fun h135x1 => ?_)
  ·
   refine sx_skip ?_
   refine q_n (k6 _ _ ?_)
   refine sx_seq fun K9 k9 => ?_
   refine sx_block ?_
   refine sx_region ?_
   refine mv rfl rfl (sp rfl (px_mul rfl rfl (by omega)) ?_)
   refine mv rfl rfl (mv rfl rfl (sp rfl (px_index1 (j := k) rfl rfl (by omega) Tryz.underlying22 Tryz.sizeOf5 f8 (by omega)) ?_))
   refine sp rfl (px_load rfl (f8.load1 (at_u8 (by omega)) Tryz.isAgg5)) ?_
   refine sp rfl (px_conv8 Tryz.underlying5 Tryz.underlying3 rfl (hb8 _ (by omega))) ?_
   refine sp rfl (px_add rfl rfl (by omega)) ?_
   refine sp rfl (px_add rfl rfl (by omega)) ?_
   have hm10 := andI_mask (((h * 41) + ((bs).getD k 0)) + 7) (m := 1073741823) (by decide) (by decide)
   refine sp rfl (px_andW rfl rfl) ?_
   refine av rfl rfl (wl_nil ?_)
   refine q_bn (q_n (k9 _ _ ?_))
   refine sx_sub (Sub.c 0 rfl (.c 3 rfl (.c 4 rfl .nil))) ?_
   refine sx_region ?_
   refine mv rfl rfl (sp rfl (px_add rfl rfl (by omega)) ?_)
   refine av rfl rfl (wl_nil ?_)
   exact fun a ha => ⟨_, by omega, (k + 1), (andI (((h * 41) + ((bs).getD k 0)) + 7) 1073741823), ha.sub (Sub.c 0 rfl (.c 3 (look_int (t := 3) rfl (by first | omega | simp)) (.c 4 (look_int (t := 4) rfl (by first | omega | simp)) .nil))), cwl5, rfl, by omega, by omega⟩
  refine sx_exit ?_
  refine q_e (q_e (q_bx (q_n (k3 _ _ ?_))))
  refine sx_seq fun K11 k11 => sx_region ?_
  refine mv rfl rfl (mv rfl rfl (sp rfl (px_build rfl (xbld97x0x2 f8.one rfl _)) ?_))
  refine sx_box [vb, .int .i64 0, .int .i64 h] rfl rfl rfl (fun b12 w13 eb12 sb12 fb12 cb12 => ?_)
  have zw13 := cb12.size
  refine av rfl rfl (wl_nil (q_n (k11 _ _ ?_)))
  refine sx_sub (Sub.c 2 rfl .nil) ?_
  refine sx_retc ?_
  refine sx_ret1 Tryz.results28 rfl ?_
  exact ⟨_, _, rfl, fb12, by omega, by omega, (cwl5.t cb12)⟩
 refine sx_guardF rfl rfl rfl rfl rfl rfl ?_
 refine sx_guardF rfl rfl rfl rfl rfl rfl ?_
 refine sp rfl (px_pick rfl rfl) ?_
 refine wl_nil (q_n (k7 _ _ ?_))
 refine sx_condF rfl ?_
 refine sx_exit ?_
 refine q_e (q_e (q_bx (q_n (k3 _ _ ?_))))
 refine sx_seq fun K14 k14 => sx_region ?_
 refine mv rfl rfl (mv rfl rfl (sp rfl (px_build rfl (xbld97x0x2 f8.one rfl _)) ?_))
 refine sx_box [vb, .int .i64 0, .int .i64 h] rfl rfl rfl (fun b15 w16 eb15 sb15 fb15 cb15 => ?_)
 have zw16 := cb15.size
 refine av rfl rfl (wl_nil (q_n (k14 _ _ ?_)))
 refine sx_sub (Sub.c 2 rfl .nil) ?_
 refine sx_retc ?_
 refine sx_ret1 Tryz.results28 rfl ?_
 exact ⟨_, _, rfl, fb15, by omega, by omega, (cwl5.t cb15)⟩

theorem c_l01Byte {w : World} {c : Nat} {vb : Value} {lvb uvb : Nat} {bs : List Int} {i : Int} {h : Int} (hc : Blk w c [vb, .int .i64 i, .int .i64 h] 97) (hvb : SlB w lvb uvb vb (bs)) (hb8 : ∀ j, j < bs.length → 0 ≤ bs.getD j 0 ∧ bs.getD j 0 ≤ 255) (hbl : bs.length ≤ 1048576) (hi : 0 ≤ i ∧ i ≤ bs.length) (hdis : uvb ≤ c) :
  Ret Tryz.prog 91 [.pointer (some ⟨c, 0, none⟩)] w fun v w' => ∃ x i2 h2, v = .int .i64 (x) ∧ Blk w' c [vb, .int .i64 (i2), .int .i64 (h2)] 97 ∧ (0 ≤ x ∧ x ≤ 255) ∧ (0 ≤ i2 ∧ i2 ≤ (bs).length) ∧ Chg c (c + 1) w w' := by
 have clt := hc.lt
 refine sx_enter Tryz.func91 rfl Tryz.ntmps91 (nbl rfl) ?_
 refine sx_seq fun K1 k1 => sx_region ?_
 refine av rfl rfl (wl_nil (q_n (k1 _ _ ?_)))
 refine sx_seq fun K2 k2 => sx_region ?_
 refine mv rfl rfl (mv rfl rfl (sp rfl (px_nil rfl) ?_))
 refine sp rfl (px_field rfl xfld97x2) ?_
 refine sp rfl (px_load rfl (hc.load1 rfl Tryz.isAgg3)) ?_
 refine sp rfl (px_mulW rfl rfl) ?_
 refine sp rfl (px_addW rfl rfl) ?_
 refine sp rfl (px_nil rfl) ?_
 refine sp rfl (px_field rfl xfld97x2) ?_
 refine sx_store (vs := [.int .i64 (i64w ((i64w (h * 6364136223846793005)) + 1442695040888963407))]) rfl rfl hc rfl Tryz.sizeOf3 (nbl rfl) (o1 rfl) (fun w3 sw3 fw3 cw3 => ?_)
 have zw3 := cw3.size
 have gw3 : Blk w3 c [vb, .int .i64 i, .int .i64 (i64w ((i64w (h * 6364136223846793005)) + 1442695040888963407))] 97 := fw3
 refine wl_nil (q_n (k2 _ _ ?_))
 refine sx_seq fun K4 k4 => ?_
 have f5 := hvb.chg cw3 (by omega)
 refine dx_region (fun w' => Chg 0 0 w3 w') (by kernel_rfl) (Chg.zero (Chg.drew _)) ?_
 have d6 := Chg.drew w3
 have s6 : Chg 0 0 w3 (World.drew w3) := Chg.zero (Chg.drew _)
 have y6 : (World.drew w3).heap.size = w3.heap.size := rfl
 generalize World.drew w3 = w6 at *
 have zw6 := d6.size
 refine dt 0 rfl rfl rfl rfl s6 (fun _ hS => px_move rfl) ?_
 refine dt 1 rfl rfl rfl rfl s6 (fun _ hS => px_nil rfl) ?_
 refine dt 2 rfl rfl rfl rfl s6 (fun _ hS => px_field rfl xfld97x2) ?_
 refine dt 3 rfl rfl rfl rfl s6 (fun _ hS => px_load rfl ((gw3.chg hS (by omega)).load1 rfl Tryz.isAgg3)) ?_
 refine dt 4 rfl rfl rfl rfl s6 (fun _ hS => px_shrW rfl rfl (by decide)) ?_
 refine dt 5 rfl rfl rfl rfl s6 (fun _ hS => px_move rfl) ?_
 refine dt 6 rfl rfl rfl rfl s6 (fun _ hS => px_nil rfl) ?_
 refine dt 7 rfl rfl rfl rfl s6 (fun _ hS => px_field rfl xfld97x2) ?_
 refine dt 8 rfl rfl rfl rfl s6 (fun _ hS => px_load rfl ((gw3.chg hS (by omega)).load1 rfl Tryz.isAgg3)) ?_
 refine dt 9 rfl rfl rfl rfl s6 (fun _ hS => px_shrW rfl rfl (by decide)) ?_
 refine dt 10 rfl rfl rfl rfl s6 (fun _ hS => px_xorW rfl rfl) ?_
 have hm7 := andI_mask (xorI ((i64w ((i64w (h * 6364136223846793005)) + 1442695040888963407)).fdiv (2 ^ min (33 : Int).toNat 64)) ((i64w ((i64w (h * 6364136223846793005)) + 1442695040888963407)).fdiv (2 ^ min (45 : Int).toNat 64))) (m := 255) (by decide) (by decide)
 refine dt 11 rfl rfl rfl rfl s6 (fun _ hS => px_andW rfl rfl) ?_
 refine dt 12 rfl rfl rfl rfl s6 (fun _ hS => px_assign rfl) ?_
 refine dx_done (by kernel_rfl) ?_
 refine q_n (k4 _ _ ?_)
 refine sx_sub (Sub.c 0 rfl (.c 2 rfl (.c 3 rfl .nil))) ?_
 refine sx_seq fun K8 k8 => ?_
 refine sx_seq fun K9 k9 => ?_
 have f10 := gw3.ext d6
 have f11 := f5.ext d6
 refine dx_region (fun w' => Chg 0 0 w6 w') (by kernel_rfl) (Chg.zero (Chg.drew _)) ?_
 have d12 := Chg.drew w6
 have s12 : Chg 0 0 w6 (World.drew w6) := Chg.zero (Chg.drew _)
 have y12 : (World.drew w6).heap.size = w6.heap.size := rfl
 generalize World.drew w6 = w12 at *
 have zw12 := d12.size
 refine dt 0 rfl rfl rfl rfl s12 (fun _ hS => px_move rfl) ?_
 refine dt 1 rfl rfl rfl rfl s12 (fun _ hS => px_nil rfl) ?_
 refine dt 2 rfl rfl rfl rfl s12 (fun _ hS => px_field rfl xfld97x1) ?_
 refine dt 3 rfl rfl rfl rfl s12 (fun _ hS => px_load rfl ((f10.chg hS (by omega)).load1 rfl Tryz.isAgg3)) ?_
 refine dt 4 rfl rfl rfl rfl s12 (fun _ hS => px_move rfl) ?_
 refine dt 5 rfl rfl rfl rfl s12 (fun _ hS => px_nil rfl) ?_
 refine dt 6 rfl rfl rfl rfl s12 (fun _ hS => px_field rfl xfld97x0) ?_
 refine dt 7 rfl rfl rfl rfl s12 (fun _ hS => px_load rfl ((f10.chg hS (by omega)).load1 rfl Tryz.isAgg22)) ?_
 refine dt 8 rfl rfl rfl rfl s12 (fun _ hS => px_len rfl Tryz.underlying22 ((f11).chg hS (by omega))) ?_
 refine dt 9 rfl rfl rfl rfl s12 (fun _ hS => px_lt rfl rfl) ?_
 refine dx_done (by kernel_rfl) ?_
 refine q_n (k9 _ _ ?_)
 refine sx_condP rfl (fun h144 => ?_) (fun h144 => ?_)
 ·
  refine sx_seq fun K13 k13 => ?_
  have f14 := f10.ext d12
  have f15 := f11.ext d12
  refine dx_region (fun w' => Chg 0 0 w12 w') (by kernel_rfl) (Chg.zero (Chg.drew _)) ?_
  have d16 := Chg.drew w12
  have s16 : Chg 0 0 w12 (World.drew w12) := Chg.zero (Chg.drew _)
  have y16 : (World.drew w12).heap.size = w12.heap.size := rfl
  generalize World.drew w12 = w16 at *
  have zw16 := d16.size
  refine dt 0 rfl rfl rfl rfl s16 (fun _ hS => px_move rfl) ?_
  refine dt 1 rfl rfl rfl rfl s16 (fun _ hS => px_move rfl) ?_
  refine dt 2 rfl rfl rfl rfl s16 (fun _ hS => px_nil rfl) ?_
  refine dt 3 rfl rfl rfl rfl s16 (fun _ hS => px_field rfl xfld97x0) ?_
  refine dt 4 rfl rfl rfl rfl s16 (fun _ hS => px_load rfl ((f14.chg hS (by omega)).load1 rfl Tryz.isAgg22)) ?_
  refine dt 5 rfl rfl rfl rfl s16 (fun _ hS => px_move rfl) ?_
  refine dt 6 rfl rfl rfl rfl s16 (fun _ hS => px_nil rfl) ?_
  refine dt 7 rfl rfl rfl rfl s16 (fun _ hS => px_field rfl xfld97x1) ?_
  refine dt 8 rfl rfl rfl rfl s16 (fun _ hS => px_load rfl ((f14.chg hS (by omega)).load1 rfl Tryz.isAgg3)) ?_
  refine dt 9 rfl rfl rfl rfl s16 (fun _ hS => px_index1 (j := i.toNat) rfl rfl (by omega) Tryz.underlying22 Tryz.sizeOf5 ((f15).chg hS (by omega)) (by omega)) ?_
  refine dt 10 rfl rfl rfl rfl s16 (fun _ hS => px_load rfl (((f15).chg hS (by omega)).load1 (at_u8 (by omega)) Tryz.isAgg5)) ?_
  refine dt 11 rfl rfl rfl rfl s16 (fun _ hS => px_conv8 Tryz.underlying5 Tryz.underlying3 rfl (hb8 _ (by omega))) ?_
  refine dt 12 rfl rfl rfl rfl s16 (fun _ hS => px_addW rfl rfl) ?_
  have hm17 := andI_mask (i64w ((andI (xorI ((i64w ((i64w (h * 6364136223846793005)) + 1442695040888963407)).fdiv (2 ^ min (33 : Int).toNat 64)) ((i64w ((i64w (h * 6364136223846793005)) + 1442695040888963407)).fdiv (2 ^ min (45 : Int).toNat 64))) 255) + ((bs).getD i.toNat 0))) (m := 255) (by decide) (by decide)
  refine dt 13 rfl rfl rfl rfl s16 (fun _ hS => px_andW rfl rfl) ?_
  refine dt 14 rfl rfl rfl rfl s16 (fun _ hS => px_assign rfl) ?_
  refine dx_done (by kernel_rfl) ?_
  refine q_n (k13 _ _ ?_)
  refine sx_sub (Sub.c 0 rfl (.c 2 rfl (.c 3 rfl .nil))) ?_
  refine sx_region ?_
  refine mv rfl rfl (mv rfl rfl (sp rfl (px_nil rfl) ?_))
  refine sp rfl (px_field rfl xfld97x1) ?_
  have f18 := f14.ext d16
  refine sp rfl (px_load rfl (f18.load1 rfl Tryz.isAgg3)) ?_
  refine sp rfl (px_add rfl rfl (by omega)) ?_
  refine sp rfl (px_nil rfl) ?_
  refine sp rfl (px_field rfl xfld97x1) ?_
  refine sx_store (vs := [.int .i64 (i + 1)]) rfl rfl f18 rfl Tryz.sizeOf3 (nbl rfl) (o1 rfl) (fun w19 sw19 fw19 cw19 => ?_)
  have zw19 := cw19.size
  have gw19 : Blk w19 c [vb, .int .i64 (i + 1), .int .i64 (i64w ((i64w (h * 6364136223846793005)) + 1442695040888963407))] 97 := fw19
  refine wl_nil (q_n (k8 _ _ ?_))
  refine sx_seq fun K20 k20 => sx_region ?_
  refine mv rfl rfl (av rfl rfl (wl_nil (q_n (k20 _ _ ?_))))
  refine sx_retc ?_
  refine sx_ret1 Tryz.results91 rfl ?_
  have q21 := Chg.step (l := c) (h := (c + 1)) cw3 ((d6.t d12).t d16) (by omega)
  have q22 := Chg.step (l := c) (h := (c + 1)) q21 cw19 (by omega)
  exact ⟨_, _, _, rfl, gw19, by omega, by omega, q22⟩
 refine sx_skip ?_
 refine q_n (k8 _ _ ?_)
 refine sx_seq fun K23 k23 => sx_region ?_
 refine mv rfl rfl (av rfl rfl (wl_nil (q_n (k23 _ _ ?_))))
 refine sx_retc ?_
 refine sx_ret1 Tryz.results91 rfl ?_
 have f24 := f10.ext d12
 have q25 := Chg.step (l := c) (h := (c + 1)) cw3 (d6.t d12) (by omega)
 exact ⟨_, _, _, rfl, f24, by omega, by omega, q25⟩

theorem c_l01Below {w : World} {c : Nat} {vb : Value} {lvb uvb : Nat} {bs : List Int} {i : Int} {h : Int} {n : Int} (hc : Blk w c [vb, .int .i64 i, .int .i64 h] 97) (hvb : SlB w lvb uvb vb (bs)) (hb8 : ∀ j, j < bs.length → 0 ≤ bs.getD j 0 ∧ bs.getD j 0 ≤ 255) (hbl : bs.length ≤ 1048576) (hi : 0 ≤ i ∧ i ≤ bs.length) (hdis : uvb ≤ c) (hn : 1 ≤ n ∧ n ≤ 1000000000) :
  Ret Tryz.prog 54 [.pointer (some ⟨c, 0, none⟩), .int .i64 n] w fun v w' => ∃ x i2 h2, v = .int .i64 (x) ∧ Blk w' c [vb, .int .i64 (i2), .int .i64 (h2)] 97 ∧ (0 ≤ x ∧ x < n) ∧ (0 ≤ i2 ∧ i2 ≤ (bs).length) ∧ Chg c (c + 1) w w' := by
 have clt := hc.lt
 refine sx_enter Tryz.func54 rfl Tryz.ntmps54 (nbl rfl) ?_
 refine sx_seq fun K1 k1 => sx_region ?_
 refine av rfl rfl (wl_nil (q_n (k1 _ _ ?_)))
 refine sx_seq fun K2 k2 => ?_
 refine sx_seq fun K3 k3 => sx_region ?_
 refine mv rfl rfl (sp rfl (px_le rfl rfl) ?_)
 refine wl_nil (q_n (k3 _ _ ?_))
 have h153 : ¬ ((n : Int) ≤ 0) := by omega
 refine sx_condPF rfl h153 ?_
 refine sx_skip ?_
 refine q_n (k2 _ _ ?_)
 refine sx_seq fun K4 k4 => ?_
 refine sx_seq fun K5 k5 => sx_region ?_
 refine mv rfl rfl (sp rfl (px_le rfl rfl) ?_)
 refine wl_nil (q_n (k5 _ _ ?_))
 refine sx_condP rfl (fun h156 => ?_) (fun h156 => ?_)
 ·
  refine sx_seq fun K6 k6 => sx_region ?_
  refine mv rfl rfl (sx_call rfl rfl Tryz.call91 (c_l01Byte hc hvb (by assumption) (by omega) (by omega) (by omega)) (fun v7 w7 p7 => ?_))
  obtain ⟨x7, i27, h27, rfl, xc_7, hx7, hi27, c7⟩ := p7
  have zw7 := c7.size
  refine mv rfl rfl (sp rfl (px_rem rfl rfl (by omega) (by omega)) ?_)
  refine av rfl rfl (wl_nil (q_n (k6 _ _ ?_)))
  refine sx_retc ?_
  refine q_r (sx_ret1 Tryz.results54 rfl ?_)
  have hmp := Int.emod_nonneg x7 (show n ≠ 0 by omega)
  have hml := Int.emod_lt_of_pos x7 (show 0 < n by omega)
  exact ⟨_, _, _, rfl, xc_7, by omega, by omega, c7⟩
 refine sx_skip ?_
 refine q_n (k4 _ _ ?_)
 refine sx_seq fun K8 k8 => sx_region ?_
 refine mv rfl rfl (sx_call rfl rfl Tryz.call91 (c_l01Byte hc hvb (by assumption) (by omega) (by omega) (by omega)) (fun v9 w9 p9 => ?_))
 obtain ⟨x9, i29, h29, rfl, xc_9, hx9, hi29, c9⟩ := p9
 have zw9 := c9.size
 refine av rfl rfl (wl_nil (q_n (k8 _ _ ?_)))
 refine sx_seq fun K10 k10 => sx_region ?_
 refine mv rfl rfl ?_
 have f11 := hvb.chg c9 (by omega)
 refine sx_call rfl rfl Tryz.call91 (c_l01Byte xc_9 f11 (by assumption) (by omega) (by omega) (by omega)) (fun v12 w12 p12 => ?_)
 obtain ⟨x12, i212, h212, rfl, xc_12, hx12, hi212, c12⟩ := p12
 have zw12 := c12.size
 refine av rfl rfl (wl_nil (q_n (k10 _ _ ?_)))
 refine sx_seq fun K13 k13 => sx_region ?_
 refine mv rfl rfl ?_
 have f14 := f11.chg c12 (by omega)
 refine sx_call rfl rfl Tryz.call91 (c_l01Byte xc_12 f14 (by assumption) (by omega) (by omega) (by omega)) (fun v15 w15 p15 => ?_)
 obtain ⟨x15, i215, h215, rfl, xc_15, hx15, hi215, c15⟩ := p15
 have zw15 := c15.size
 refine av rfl rfl (wl_nil (q_n (k13 _ _ ?_)))
 refine sx_sub (Sub.c 0 rfl (.c 1 rfl (.c 4 rfl (.c 5 rfl (.c 6 rfl (.c 7 rfl .nil)))))) ?_
 refine sx_seq fun K16 k16 => sx_region ?_
 refine mv rfl rfl ?_
 have f17 := f14.chg c15 (by omega)
 refine sx_call rfl rfl Tryz.call91 (c_l01Byte xc_15 f17 (by assumption) (by omega) (by omega) (by omega)) (fun v18 w18 p18 => ?_)
 obtain ⟨x18, i218, h218, rfl, xc_18, hx18, hi218, c18⟩ := p18
 have zw18 := c18.size
 refine av rfl rfl (wl_nil (q_n (k16 _ _ ?_)))
 refine sx_seq fun K19 k19 => sx_region ?_
 refine mv rfl rfl (sp rfl (px_mul rfl rfl (by omega)) ?_)
 refine mv rfl rfl (sp rfl (px_mul rfl rfl (by omega)) ?_)
 refine sp rfl (px_add rfl rfl (by omega)) ?_
 refine mv rfl rfl (sp rfl (px_mul rfl rfl (by omega)) ?_)
 refine sp rfl (px_add rfl rfl (by omega)) ?_
 refine mv rfl rfl (sp rfl (px_add rfl rfl (by omega)) ?_)
 refine mv rfl rfl (sp rfl (px_rem rfl rfl (by omega) (by omega)) ?_)
 refine av rfl rfl (wl_nil (q_n (k19 _ _ ?_)))
 refine sx_sub (Sub.c 4 rfl .nil) ?_
 refine sx_retc ?_
 refine sx_ret1 Tryz.results54 rfl ?_
 have hmp := Int.emod_nonneg ((((x9 * 16777216) + (x12 * 65536)) + (x15 * 256)) + x18) (show n ≠ 0 by omega)
 have hml := Int.emod_lt_of_pos ((((x9 * 16777216) + (x12 * 65536)) + (x15 * 256)) + x18) (show 0 < n by omega)
 have q20 := Chg.step (l := c) (h := (c + 1)) c9 c12 (by omega)
 have q21 := Chg.step (l := c) (h := (c + 1)) q20 c15 (by omega)
 have q22 := Chg.step (l := c) (h := (c + 1)) q21 c18 (by omega)
 exact ⟨_, _, _, rfl, xc_18, by omega, by omega, q22⟩

theorem c_l01Once {w : World} {c : Nat} {vb : Value} {lvb uvb : Nat} {bs : List Int} {i : Int} {h : Int} {n : Int} (hc : Blk w c [vb, .int .i64 i, .int .i64 h] 97) (hvb : SlB w lvb uvb vb (bs)) (hb8 : ∀ j, j < bs.length → 0 ≤ bs.getD j 0 ∧ bs.getD j 0 ≤ 255) (hbl : bs.length ≤ 1048576) (hi : 0 ≤ i ∧ i ≤ bs.length) (hdis : uvb ≤ c) (hn : 1 ≤ n ∧ n ≤ 1000000000) :
  Ret Tryz.prog 86 [.pointer (some ⟨c, 0, none⟩), .int .i64 n] w fun v w' => ∃ x i2 h2, v = .bool (decide ((x : Int) = 0)) ∧ Blk w' c [vb, .int .i64 (i2), .int .i64 (h2)] 97 ∧ (0 ≤ x ∧ x < n) ∧ (0 ≤ i2 ∧ i2 ≤ (bs).length) ∧ Chg c (c + 1) w w' := by
 have clt := hc.lt
 refine sx_enter Tryz.func86 rfl Tryz.ntmps86 (nbl rfl) ?_
 refine sx_seq fun K1 k1 => sx_region ?_
 refine av rfl rfl (wl_nil (q_n (k1 _ _ ?_)))
 refine sx_seq fun K2 k2 => sx_region ?_
 refine mv rfl rfl (mv rfl rfl (sx_call rfl rfl Tryz.call54 (c_l01Below hc hvb (by assumption) (by omega) (by omega) (by omega) (by omega)) (fun v3 w3 p3 => ?_)))
 obtain ⟨x3, i23, h23, rfl, xc_3, hx3, hi23, c3⟩ := p3
 have zw3 := c3.size
 refine sp rfl (px_eq rfl rfl) ?_
 refine av rfl rfl (wl_nil (q_n (k2 _ _ ?_)))
 refine sx_retc ?_
 refine sx_ret1 Tryz.results86 rfl ?_
 exact ⟨_, _, _, rfl, xc_3, by omega, by omega, c3⟩

theorem c_l02Trim {w : World} {va : Value} {lva uva : Nat} {zs : List Int} (hva : OwnI w lva uva va intT (zs)) (hz : Lm zs) (h63 : zs.length ≤ 1000000) :
  Ret Tryz.prog 121 [va] w fun v w' => ∃ s, v = s ∧ OwnI w' (lva) (uva) s intT (dg (vl zs)) ∧ Chg 0 0 w w' := by
 refine sx_enter Tryz.func121 rfl Tryz.ntmps121 (nbl rfl) ?_
 refine sx_seq fun K1 k1 => sx_region ?_
 refine av rfl rfl (wl_nil (q_n (k1 _ _ ?_)))
 refine sx_seq fun K2 k2 => sx_region ?_
 refine mv rfl rfl (sp rfl (px_len rfl Tryz.underlying23 hva.sv) ?_)
 refine av rfl rfl (wl_nil (q_n (k2 _ _ ?_)))
 refine sx_seq fun K3 k3 => ?_
 refine sx_block ?_
 refine sx_loop (fun mm aa w' => ∃ (k : Nat), Agr 21 [(0, va), (3, .int .i64 ↑k)] aa ∧ Chg 0 0 w w' ∧ (mm = k) ∧ (k ≤ zs.length) ∧ (vl (zs.take k) = vl zs)) (_) (fun a ha => ⟨zs.length, ha.sub (Sub.c 0 rfl (.c 3 (look_int (t := 3) rfl (by first | omega | simp)) .nil)), Chg.refl _ _ _, rfl, by omega, vl_take_all zs⟩) ?_
 rintro mm aa wl4 ⟨k, hAwl4, cwl4, hm, hk, hv⟩
 refine (show cw Tryz.prog 21 _ _ _ wl4 from ?_) aa hAwl4
 clear hAwl4
 have zwl4 := cwl4.size
 refine sx_seq fun K5 k5 => ?_
 refine sx_seq fun K6 k6 => sx_region ?_
 refine mv rfl rfl (sp rfl (px_gt rfl rfl) ?_)
 refine mv rfl rfl ?_
 refine sx_tmpP (t := 8) rfl (fun h17 => ?_) (fun h17 => ?_)
 ·
  refine sx_guardT rfl rfl rfl ?_
  refine mv rfl rfl ?_
  refine sx_guardT rfl rfl rfl ?_
  refine mv rfl rfl ?_
  refine sx_guardT rfl rfl rfl ?_
  refine sp rfl (px_sub rfl rfl (by omega)) ?_
  refine sx_guardT rfl rfl rfl ?_
  have f7 := hva.ext cwl4
  refine sp rfl (px_index1 (j := (k - 1)) rfl rfl (by omega) Tryz.underlying23 Tryz.sizeOf3 f7.sv (by omega)) ?_
  refine sx_guardT rfl rfl rfl ?_
  refine sp rfl (px_load rfl (f7.sv.load1 (at_int (by omega)) Tryz.isAgg3)) ?_
  refine sx_guardT rfl rfl rfl ?_
  refine sp rfl (px_eq rfl rfl) ?_
  refine sp rfl (px_pick rfl rfl) ?_
  refine wl_nil (q_n (k6 _ _ ?_))
  refine sx_condP rfl (fun h17x1 => ?_) (fun h17x1 => ?_)
  ·
   refine sx_skip ?_
   refine q_n (k5 _ _ ?_)
   refine sx_block ?_
   refine sx_region ?_
   refine mv rfl rfl (sp rfl (px_sub rfl rfl (by omega)) ?_)
   refine av rfl rfl (wl_nil ?_)
   exact q_bn (fun a ha => ⟨_, by omega, (k - 1), ha.sub (Sub.c 0 rfl (.c 3 (look_int (t := 3) rfl (by first | omega | simp)) .nil)), cwl4, rfl, by omega, trim_step (by omega) hk (by rw [getD_take (by omega)]; exact h17x1) hv⟩)
  refine sx_exit ?_
  refine q_e (q_e (q_bx (q_n (k3 _ _ ?_))))
  refine sx_seq fun K8 k8 => sx_region ?_
  refine mv rfl rfl (mv rfl rfl (sp rfl (px_sliceTo (h := k) rfl rfl (by omega) Tryz.underlying23 Tryz.sizeOf3 f7.sv (by omega)) ?_))
  refine av rfl rfl (wl_nil (q_n (k8 _ _ ?_)))
  refine sx_sub (Sub.c 2 rfl .nil) ?_
  refine sx_retc ?_
  refine sx_ret1 Tryz.results121 rfl ?_
  have hd := trim_done hz hk hv (by first | exact .inl (by omega) | exact .inr (by rw [getD_take (by omega)]; assumption))
  rw [← hd]
  exact ⟨_, rfl, (Own.takeI f7 (h := k) (by omega)), cwl4⟩
 refine sx_guardF rfl rfl rfl rfl rfl rfl ?_
 refine sx_guardF rfl rfl rfl rfl rfl rfl ?_
 refine sx_guardF rfl rfl rfl rfl rfl rfl ?_
 refine sx_guardF rfl rfl rfl rfl rfl rfl ?_
 refine sx_guardF rfl rfl rfl rfl rfl rfl ?_
 refine sx_guardF rfl rfl rfl rfl rfl rfl ?_
 refine sp rfl (px_pick rfl rfl) ?_
 refine wl_nil (q_n (k6 _ _ ?_))
 refine sx_condF rfl ?_
 refine sx_exit ?_
 refine q_e (q_e (q_bx (q_n (k3 _ _ ?_))))
 refine sx_seq fun K9 k9 => sx_region ?_
 refine mv rfl rfl (mv rfl rfl ?_)
 have f10 := hva.ext cwl4
 refine sp rfl (px_sliceTo (h := k) rfl rfl (by omega) Tryz.underlying23 Tryz.sizeOf3 f10.sv (by omega)) ?_
 refine av rfl rfl (wl_nil (q_n (k9 _ _ ?_)))
 refine sx_sub (Sub.c 2 rfl .nil) ?_
 refine sx_retc ?_
 refine sx_ret1 Tryz.results121 rfl ?_
 have hd := trim_done hz hk hv (by first | exact .inl (by omega) | exact .inr (by rw [getD_take (by omega)]; assumption))
 rw [← hd]
 exact ⟨_, rfl, (Own.takeI f10 (h := k) (by omega)), cwl4⟩

theorem c_l02TrimS {w : World} {va : Value} {lva uva : Nat} {zs : List Int} (hva : Sl w lva uva va (zs)) (hz : Lm zs) (h63 : zs.length ≤ 1000000) :
  Ret Tryz.prog 121 [va] w fun v w' => ∃ s, v = s ∧ Sl w' (lva) (uva) s (dg (vl zs)) ∧ Chg 0 0 w w' := by
 refine sx_enter Tryz.func121 rfl Tryz.ntmps121 (nbl rfl) ?_
 refine sx_seq fun K1 k1 => sx_region ?_
 refine av rfl rfl (wl_nil (q_n (k1 _ _ ?_)))
 refine sx_seq fun K2 k2 => sx_region ?_
 refine mv rfl rfl (sp rfl (px_len rfl Tryz.underlying23 hva) ?_)
 refine av rfl rfl (wl_nil (q_n (k2 _ _ ?_)))
 refine sx_seq fun K3 k3 => ?_
 refine sx_block ?_
 refine sx_loop (fun mm aa w' => ∃ (k : Nat), Agr 21 [(0, va), (3, .int .i64 ↑k)] aa ∧ Chg 0 0 w w' ∧ (mm = k) ∧ (k ≤ zs.length) ∧ (vl (zs.take k) = vl zs)) (_) (fun a ha => ⟨zs.length, ha.sub (Sub.c 0 rfl (.c 3 (look_int (t := 3) rfl (by first | omega | simp)) .nil)), Chg.refl _ _ _, rfl, by omega, vl_take_all zs⟩) ?_
 rintro mm aa wl4 ⟨k, hAwl4, cwl4, hm, hk, hv⟩
 refine (show cw Tryz.prog 21 _ _ _ wl4 from ?_) aa hAwl4
 clear hAwl4
 have zwl4 := cwl4.size
 refine sx_seq fun K5 k5 => ?_
 refine sx_seq fun K6 k6 => sx_region ?_
 refine mv rfl rfl (sp rfl (px_gt rfl rfl) ?_)
 refine mv rfl rfl ?_
 refine sx_tmpP (t := 8) rfl (fun h17 => ?_) (fun h17 => ?_)
 ·
  refine sx_guardT rfl rfl rfl ?_
  refine mv rfl rfl ?_
  refine sx_guardT rfl rfl rfl ?_
  refine mv rfl rfl ?_
  refine sx_guardT rfl rfl rfl ?_
  refine sp rfl (px_sub rfl rfl (by omega)) ?_
  refine sx_guardT rfl rfl rfl ?_
  have f7 := hva.ext cwl4
  refine sp rfl (px_index1 (j := (k - 1)) rfl rfl (by omega) Tryz.underlying23 Tryz.sizeOf3 f7 (by omega)) ?_
  refine sx_guardT rfl rfl rfl ?_
  refine sp rfl (px_load rfl (f7.load1 (at_int (by omega)) Tryz.isAgg3)) ?_
  refine sx_guardT rfl rfl rfl ?_
  refine sp rfl (px_eq rfl rfl) ?_
  refine sp rfl (px_pick rfl rfl) ?_
  refine wl_nil (q_n (k6 _ _ ?_))
  refine sx_condP rfl (fun h17x1 => ?_) (fun h17x1 => ?_)
  ·
   refine sx_skip ?_
   refine q_n (k5 _ _ ?_)
   refine sx_block ?_
   refine sx_region ?_
   refine mv rfl rfl (sp rfl (px_sub rfl rfl (by omega)) ?_)
   refine av rfl rfl (wl_nil ?_)
   exact q_bn (fun a ha => ⟨_, by omega, (k - 1), ha.sub (Sub.c 0 rfl (.c 3 (look_int (t := 3) rfl (by first | omega | simp)) .nil)), cwl4, rfl, by omega, trim_step (by omega) hk (by rw [getD_take (by omega)]; exact h17x1) hv⟩)
  refine sx_exit ?_
  refine q_e (q_e (q_bx (q_n (k3 _ _ ?_))))
  refine sx_seq fun K8 k8 => sx_region ?_
  refine mv rfl rfl (mv rfl rfl (sp rfl (px_sliceTo (h := k) rfl rfl (by omega) Tryz.underlying23 Tryz.sizeOf3 f7 (by omega)) ?_))
  refine av rfl rfl (wl_nil (q_n (k8 _ _ ?_)))
  refine sx_sub (Sub.c 2 rfl .nil) ?_
  refine sx_retc ?_
  refine sx_ret1 Tryz.results121 rfl ?_
  have hd := trim_done hz hk hv (by first | exact .inl (by omega) | exact .inr (by rw [getD_take (by omega)]; assumption))
  rw [← hd]
  exact ⟨_, rfl, (Sv.takeI f7 (h := k) (by omega)), cwl4⟩
 refine sx_guardF rfl rfl rfl rfl rfl rfl ?_
 refine sx_guardF rfl rfl rfl rfl rfl rfl ?_
 refine sx_guardF rfl rfl rfl rfl rfl rfl ?_
 refine sx_guardF rfl rfl rfl rfl rfl rfl ?_
 refine sx_guardF rfl rfl rfl rfl rfl rfl ?_
 refine sx_guardF rfl rfl rfl rfl rfl rfl ?_
 refine sp rfl (px_pick rfl rfl) ?_
 refine wl_nil (q_n (k6 _ _ ?_))
 refine sx_condF rfl ?_
 refine sx_exit ?_
 refine q_e (q_e (q_bx (q_n (k3 _ _ ?_))))
 refine sx_seq fun K9 k9 => sx_region ?_
 refine mv rfl rfl (mv rfl rfl ?_)
 have f10 := hva.ext cwl4
 refine sp rfl (px_sliceTo (h := k) rfl rfl (by omega) Tryz.underlying23 Tryz.sizeOf3 f10 (by omega)) ?_
 refine av rfl rfl (wl_nil (q_n (k9 _ _ ?_)))
 refine sx_sub (Sub.c 2 rfl .nil) ?_
 refine sx_retc ?_
 refine sx_ret1 Tryz.results121 rfl ?_
 have hd := trim_done hz hk hv (by first | exact .inl (by omega) | exact .inr (by rw [getD_take (by omega)]; assumption))
 rw [← hd]
 exact ⟨_, rfl, (Sv.takeI f10 (h := k) (by omega)), cwl4⟩

theorem c_l02TrimD {w : World} {va : Value} {lva uva : Nat} {m : Nat} (hva : Sl w lva uva va (dg m)) (h63 : (dg m).length ≤ 1000000) :
  Ret Tryz.prog 121 [va] w fun v w' => ∃ s, v = s ∧ Sl w' (lva) (uva) s (dg m) ∧ Chg 0 0 w w' := by
 simpa only [vl_dg] using c_l02TrimS hva (Lm_dg m) h63

theorem c_l02Cap {w : World} {va : Value} {lva uva : Nat} {m : Nat} (hva : Sl w lva uva va (dg m)) (h63 : (dg m).length ≤ 1000000) :
  Ret Tryz.prog 120 [va] w fun v w' => ∃ s, v = s ∧ Sl w' (lva) (uva) s (dg (capN m)) ∧ Chg 0 0 w w' := by
 refine sx_enter Tryz.func120 rfl Tryz.ntmps120 (nbl rfl) ?_
 refine sx_seq fun K1 k1 => sx_region ?_
 refine av rfl rfl (wl_nil (q_n (k1 _ _ ?_)))
 refine sx_seq fun K2 k2 => sx_region ?_
 refine mv rfl rfl (sx_call rfl rfl Tryz.call121 (c_l02TrimD hva (by omega)) (fun v3 w3 p3 => ?_))
 obtain ⟨s3, rfl, os_3, c3⟩ := p3
 have zw3 := c3.size
 refine av rfl rfl (wl_nil (q_n (k2 _ _ ?_)))
 refine sx_seq fun K4 k4 => ?_
 refine sx_seq fun K5 k5 => sx_region ?_
 refine mv rfl rfl (sp rfl (px_len rfl Tryz.underlying23 os_3) ?_)
 refine sp rfl (px_gt rfl rfl) ?_
 refine wl_nil (q_n (k5 _ _ ?_))
 refine sx_condP rfl (fun h25 => ?_) (fun h25 => ?_)
 ·
  refine sx_seq fun K6 k6 => sx_region ?_
  refine av rfl rfl (wl_nil (q_n (k6 _ _ ?_)))
  refine sx_retc ?_
  refine q_r (sx_ret1 Tryz.results120 rfl ?_)
  rw [capN_no (by omega), dg_zero]
  exact ⟨_, rfl, Sv.nil _ _ _ _, c3⟩
 refine sx_skip ?_
 refine q_n (k4 _ _ ?_)
 refine sx_seq fun K7 k7 => sx_region ?_
 refine mv rfl rfl (av rfl rfl (wl_nil (q_n (k7 _ _ ?_))))
 refine sx_retc ?_
 refine sx_ret1 Tryz.results120 rfl ?_
 rw [capN_ok (by omega)]
 exact ⟨_, rfl, (Sv.mono os_3 (by omega) (by omega)), c3⟩

theorem c_l04Make {w : World} {n : Bool} {va : Value} {lva uva : Nat} {m : Nat} (hva : Sl w lva uva va (dg m)) (h63 : (dg m).length ≤ 1000000) :
  Ret Tryz.prog 97 [.bool n, va] w fun v w' => ∃ s, v = .agg #[.bool (ng (capI n m)), s] ∧ OwnI w' w.heap.size w'.heap.size s intT (dg (capI n m).natAbs) ∧ Chg 0 0 w w' := by
 have hva0 := hva.fit
 have hcap : (dg (capN m)).length ≤ 50 := by unfold capN; split; assumption; rw [dg_zero]; simp
 refine sx_enter Tryz.func97 rfl Tryz.ntmps97 (nbl rfl) ?_
 refine sx_seq fun K1 k1 => sx_region ?_
 refine sx_alloc [.bool false, (.slice none 0 0)] rfl Tryz.zeroValue25 rfl (fun b2 w3 eb2 sb2 fb2 cb2 => ?_)
 have zw3 := cb2.size
 refine wl_nil (q_n (k1 _ _ ?_))
 refine sx_seq fun K4 k4 => sx_region ?_
 refine mv rfl rfl ?_
 have f5 := hva0.ext cb2
 refine sx_call rfl rfl Tryz.call120 (c_l02Cap f5 (by omega)) (fun v6 w6 p6 => ?_)
 obtain ⟨s6, rfl, os_6, c6⟩ := p6
 have zw6 := c6.size
 refine av rfl rfl (wl_nil (q_n (k4 _ _ ?_)))
 refine sx_seq fun K7 k7 => sx_region ?_
 refine mv rfl rfl (mv rfl rfl ?_)
 refine sx_tmpB (t := 9) rfl (fun h10 => ?_) (fun h10 => ?_)
 ·
  refine sx_guardT rfl rfl rfl ?_
  refine mv rfl rfl ?_
  refine sx_guardT rfl rfl rfl ?_
  refine sp rfl (px_len rfl Tryz.underlying23 os_6) ?_
  refine sx_guardT rfl rfl rfl ?_
  refine sp rfl (px_gt rfl rfl) ?_
  refine sp rfl (px_pick rfl rfl) ?_
  refine sx_lit0 rfl xelt23 (fun s8 ws8 ss8 fs8 cs8 => ?_)
  have zws8 := cs8.size
  refine mv rfl rfl ?_
  have f10 := os_6.ext cs8
  refine sx_append rfl xelt23 rfl rfl fs8 f10 one_int (by omega) (by first | omega | (simp only [List.length_nil]; omega)) (by unfold maxLen; first | omega | (simp only [List.length_nil]; omega)) (fun a9 w9 fw9 cw9 => ?_)
  have nw9 := Own.norm (f := (Value.int .i64)) (zs := dg (capN m)) fw9
  have zw9 := cw9.size
  refine sp rfl (px_build rfl (xbld25x0x1 rfl nw9.one _)) ?_
  have f13 := (fb2.ext c6).ext cs8
  have f14 := f13.chg cw9 (by omega)
  refine sx_store (vs := [.bool (decide ((0 : Int) < ↑((dg (capN m)).length))), a9]) rfl rfl f14 rfl Tryz.sizeOf25 (nbl rfl) (one_cons rfl (one_cons nw9.one one_nil)) (fun w11 sw11 fw11 cw11 => ?_)
  have zw11 := cw11.size
  have gw11 : Blk w11 b2 [.bool (decide ((0 : Int) < ↑((dg (capN m)).length))), a9] 25 := fw11
  refine wl_nil (q_n (k7 _ _ ?_))
  refine sx_sub (Sub.c 4 rfl .nil) ?_
  refine sx_retc ?_
  refine sx_ret1 Tryz.results97 ⟨_, rfl, gw11.loadA (vs := [.bool (decide ((0 : Int) < ↑((dg (capN m)).length))), a9]) (look_lit rfl) Tryz.isAgg25 Tryz.sizeOf25⟩ ?_
  have hh := cap_sg n m
  rw [← hh.1, ← hh.2]
  have q15 := Chg.step (l := 0) (h := 0) (Chg.zero (l := 0) (h := 0) ((cb2.t c6).t cs8)) cw9 (by omega)
  have q16 := Chg.step (l := 0) (h := 0) q15 cw11 (by omega)
  have f17 := nw9.chg cw11 (by omega)
  exact ⟨_, by simp [nz, h10], (Own.mono f17 (by omega) (by omega)), q16⟩
 refine sx_guardF rfl rfl rfl rfl rfl rfl ?_
 refine sx_guardF rfl rfl rfl rfl rfl rfl ?_
 refine sx_guardF rfl rfl rfl rfl rfl rfl ?_
 refine sp rfl (px_pick rfl rfl) ?_
 refine sx_lit0 rfl xelt23 (fun s18 ws18 ss18 fs18 cs18 => ?_)
 have zws18 := cs18.size
 refine mv rfl rfl ?_
 have f20 := os_6.ext cs18
 refine sx_append rfl xelt23 rfl rfl fs18 f20 one_int (by omega) (by first | omega | (simp only [List.length_nil]; omega)) (by unfold maxLen; first | omega | (simp only [List.length_nil]; omega)) (fun a19 w19 fw19 cw19 => ?_)
 have nw19 := Own.norm (f := (Value.int .i64)) (zs := dg (capN m)) fw19
 have zw19 := cw19.size
 refine sp rfl (px_build rfl (xbld25x0x1 rfl nw19.one _)) ?_
 have f23 := (fb2.ext c6).ext cs18
 have f24 := f23.chg cw19 (by omega)
 refine sx_store (vs := [.bool false, a19]) rfl rfl f24 rfl Tryz.sizeOf25 (nbl rfl) (one_cons rfl (one_cons nw19.one one_nil)) (fun w21 sw21 fw21 cw21 => ?_)
 have zw21 := cw21.size
 have gw21 : Blk w21 b2 [.bool false, a19] 25 := fw21
 refine wl_nil (q_n (k7 _ _ ?_))
 refine sx_sub (Sub.c 4 rfl .nil) ?_
 refine sx_retc ?_
 refine sx_ret1 Tryz.results97 ⟨_, rfl, gw21.loadA (vs := [.bool false, a19]) (look_lit rfl) Tryz.isAgg25 Tryz.sizeOf25⟩ ?_
 have hh := cap_sg n m
 rw [← hh.1, ← hh.2]
 have q25 := Chg.step (l := 0) (h := 0) (Chg.zero (l := 0) (h := 0) ((cb2.t c6).t cs18)) cw19 (by omega)
 have q26 := Chg.step (l := 0) (h := 0) q25 cw21 (by omega)
 have f27 := nw19.chg cw21 (by omega)
 exact ⟨_, by simp [nz, h10], (Own.mono f27 (by omega) (by omega)), q26⟩

theorem c_l04MakeMin {w : World} {n : Bool} {va : Value} {lva uva : Nat} {zs : List Int} (hva : Sl w lva uva va (zs)) (hz : zs = dg (-9223372036854775808 : Int).natAbs) :
  Ret Tryz.prog 97 [.bool n, va] w fun v w' => ∃ s, v = .agg #[.bool (ng (capI n (-9223372036854775808 : Int).natAbs)), s] ∧ OwnI w' w.heap.size w'.heap.size s intT (dg (capI n (-9223372036854775808 : Int).natAbs).natAbs) ∧ Chg 0 0 w w' := by
 subst hz; exact c_l04Make hva (by rw [dg_min]; simp)

theorem c_l04MakeOk {w : World} {n : Bool} {va : Value} {lva uva : Nat} {zs : List Int} (hva : Sl w lva uva va (zs)) (hI : IOk n zs) :
  Ret Tryz.prog 97 [.bool n, va] w fun v w' => ∃ s, v = .agg #[.bool (n), s] ∧ OwnI w' w.heap.size w'.heap.size s intT (zs) ∧ Chg 0 0 w w' := by
 obtain ⟨x, rfl, rfl, hx⟩ := hI.int
 have h := c_l04Make (n := ng x) hva (by omega)
 rw [capI_sgI hx, sgI_ng] at h
 exact h

theorem c_sNatOf {w : World} {n : Int} (hn : 0 ≤ n ∧ n ≤ 9223372036854775807) :
  Ret Tryz.prog 119 [.int .i64 n] w fun v w' => ∃ s, v = s ∧ OwnI w' w.heap.size w'.heap.size s intT (dg (n).toNat) ∧ Chg 0 0 w w' := by
 have l0 := len_u64 (n := n) (by omega)
 refine sx_enter Tryz.func119 rfl Tryz.ntmps119 (nbl rfl) ?_
 refine sx_seq fun K1 k1 => sx_region ?_
 refine av rfl rfl (wl_nil (q_n (k1 _ _ ?_)))
 refine sx_seq fun K2 k2 => sx_region ?_
 refine sx_lit0 rfl xelt23 (fun s3 ws3 ss3 fs3 cs3 => ?_)
 have zws3 := cs3.size
 refine av rfl rfl (wl_nil (q_n (k2 _ _ ?_)))
 refine sx_seq fun K4 k4 => ?_
 refine sx_block ?_
 refine sx_loop (fun mm aa w' => ∃ (s : Value) (os : List Int) (m : Int), Agr 15 [(0, .int .i64 m), (3, s)] aa ∧ Chg w.heap.size ws3.heap.size ws3 w' ∧ Own w' w.heap.size w'.heap.size s intT os.length 1 (os.map (Value.int .i64)) ∧ (mm = m.toNat) ∧ (Lm os) ∧ (0 ≤ m ∧ m ≤ n) ∧ (vl os + Bs ^ os.length * m.toNat = n.toNat) ∧ (os.length + (dg m.toNat).length = (dg n.toNat).length) ∧ (os.length = 0 ∨ Bs ^ (os.length - 1) ≤ n.toNat)) (_) (fun a ha => ⟨s3, [], n, ha.sub (Sub.c 0 (look_int (t := 0) rfl (by first | omega | simp)) (.c 3 rfl .nil)), Chg.refl _ _ _, (fs3.mono (by omega) (by omega)), rfl, Lm.nil, by omega, by simp [vl], by simp, .inl rfl⟩) ?_
 rintro mm aa wl5 ⟨s, os, m, hAwl5, cwl5, hs_s, hm, hlm, hb, hv, hln, hl⟩
 refine (show cw Tryz.prog 15 _ _ _ wl5 from ?_) aa hAwl5
 clear hAwl5
 have zwl5 := cwl5.size
 refine sx_seq fun K6 k6 => ?_
 refine sx_seq fun K7 k7 => sx_region ?_
 refine mv rfl rfl (sp rfl (px_gt rfl rfl) ?_)
 refine wl_nil (q_n (k7 _ _ ?_))
 refine sx_condP rfl (fun h34 => ?_) (fun h34 => ?_)
 ·
  refine sx_skip ?_
  refine q_n (k6 _ _ ?_)
  refine sx_block ?_
  refine sx_seq fun K8 k8 => sx_region ?_
  refine mv rfl rfl (mv rfl rfl (sp rfl (px_rem rfl rfl (by omega) (by omega)) ?_))
  refine sx_lit1 rfl xelt23 rfl rfl (fun s9 ws9 ss9 fs9 cs9 => ?_)
  have ns9 := Own.norm (f := (Value.int .i64)) (zs := [m % 1000000000]) fs9
  have zws9 := cs9.size
  have f11 := hs_s.ext cs9
  refine sx_append rfl xelt23 rfl rfl f11 ns9.sv one_int (by omega) (by simp only [List.length_cons, List.length_nil]; omega) (by unfold maxLen; simp only [List.length_cons, List.length_nil]; omega) (fun a10 w10 fw10 cw10 => ?_)
  have nw10 := Own.app (f := (Value.int .i64)) (a := os) (b := [m % 1000000000]) fw10
  have zw10 := cw10.size
  refine av rfl rfl (wl_nil (q_n (k8 _ _ ?_)))
  refine sx_region ?_
  refine mv rfl rfl (sp rfl (px_quo rfl rfl (by omega) (by omega) (by omega)) ?_)
  refine av rfl rfl (wl_nil ?_)
  have q12 := Chg.step (l := w.heap.size) (h := ws3.heap.size) cwl5 cs9 (by omega)
  have q13 := Chg.step (l := w.heap.size) (h := ws3.heap.size) q12 cw10 (by omega)
  have hmd := mod_bd (s := m) (by omega)
  have hm0 : m / 1000000000 < m := by omega
  exact q_bn (fun a ha => ⟨_, by omega, a10, (os ++ ([m % 1000000000])), (m / 1000000000), ha.sub (Sub.c 0 (look_int (t := 0) rfl (by first | omega | simp)) (.c 3 rfl .nil)), q13, (nw10.mono (by omega) (by omega)), rfl, hlm.append (Lm.single hmd.1 hmd.2), by omega, of_stepI (by omega) hv, by have h9 := of_ln (m := m) (by omega); simp only [List.length_append, List.length_singleton]; omega, .inr (of_len (by omega) hv)⟩)
 refine sx_exit ?_
 refine q_e (q_e (q_bx (q_n (k4 _ _ ?_))))
 refine sx_seq fun K14 k14 => sx_region ?_
 refine mv rfl rfl (av rfl rfl (wl_nil (q_n (k14 _ _ ?_))))
 refine sx_retc ?_
 refine sx_ret1 Tryz.results119 rfl ?_
 have hm0 : m = 0 := by omega
 subst hm0
 have hd : os = dg n.toNat := dg_of hlm (by simpa using hv) hl
 subst hd
 have q15 := Chg.step (l := 0) (h := 0) (Chg.zero (l := 0) (h := 0) cs3) cwl5 (by omega)
 exact ⟨_, rfl, (Own.mono hs_s (by omega) (by omega)), q15⟩

theorem c_sIntOf {w : World} {n : Int} (hn : -9223372036854775808 ≤ n ∧ n ≤ 9223372036854775807) :
  Ret Tryz.prog 96 [.int .i64 n] w fun v w' => ∃ s, v = .agg #[.bool (ng n), s] ∧ OwnI w' w.heap.size w'.heap.size s intT (dg (n).natAbs) ∧ Chg 0 0 w w' := by
 refine sx_enter Tryz.func96 rfl Tryz.ntmps96 (nbl rfl) ?_
 refine sx_seq fun K1 k1 => sx_region ?_
 refine sx_alloc [.bool false, (.slice none 0 0)] rfl Tryz.zeroValue25 rfl (fun b2 w3 eb2 sb2 fb2 cb2 => ?_)
 have zw3 := cb2.size
 refine wl_nil (q_n (k1 _ _ ?_))
 refine sx_seq fun K4 k4 => ?_
 refine sx_seq fun K5 k5 => sx_region ?_
 refine mv rfl rfl (sp rfl (px_eq rfl rfl) ?_)
 refine wl_nil (q_n (k5 _ _ ?_))
 refine sx_condP rfl (fun h15 => ?_) (fun h15 => ?_)
 ·
  subst h15
  refine sx_seq fun K6 k6 => sx_region ?_
  refine sx_lit3 rfl xelt23 rfl rfl rfl rfl rfl rfl (fun s7 ws7 ss7 fs7 cs7 => ?_)
  have ns7 := Own.norm (f := (Value.int .i64)) (zs := [854775808, 223372036, 9]) fs7
  have zws7 := cs7.size
  refine sx_call rfl rfl Tryz.call97 (c_l04MakeMin ns7.sv (dg_min.symm)) (fun v8 w8 p8 => ?_)
  obtain ⟨s8, rfl, os_8, c8⟩ := p8
  have zw8 := c8.size
  have f10 := fb2.ext cs7
  have f11 := f10.ext c8
  refine sx_store (vs := [.bool (ng (capI true (-9223372036854775808 : Int).natAbs)), s8]) rfl rfl f11 rfl Tryz.sizeOf25 (nbl rfl) (one_cons rfl (one_cons os_8.one one_nil)) (fun w9 sw9 fw9 cw9 => ?_)
  have zw9 := cw9.size
  have gw9 : Blk w9 b2 [.bool (ng (capI true (-9223372036854775808 : Int).natAbs)), s8] 25 := fw9
  refine wl_nil (q_n (k6 _ _ ?_))
  refine sx_retc ?_
  refine q_r (sx_ret1 Tryz.results96 ⟨_, rfl, gw9.loadA (vs := [.bool (ng (capI true (-9223372036854775808 : Int).natAbs)), s8]) (look_lit rfl) Tryz.isAgg25 Tryz.sizeOf25⟩ ?_)
  have e : capI true (-9223372036854775808 : Int).natAbs = -9223372036854775808 := capI_min
  have f12 := os_8.chg cw9 (by omega)
  have hr := f12
  rw [e] at hr
  have q13 := Chg.step (l := 0) (h := 0) (Chg.zero (l := 0) (h := 0) ((cb2.t cs7).t c8)) cw9 (by omega)
  exact ⟨_, by rw [e], hr.mono (by omega) (by omega), q13⟩
 refine sx_skip ?_
 refine q_n (k4 _ _ ?_)
 refine sx_seq fun K14 k14 => ?_
 refine sx_seq fun K15 k15 => sx_region ?_
 refine mv rfl rfl (sp rfl (px_lt rfl rfl) ?_)
 refine wl_nil (q_n (k15 _ _ ?_))
 refine sx_condP rfl (fun h18 => ?_) (fun h18 => ?_)
 ·
  refine sx_seq fun K16 k16 => sx_region ?_
  refine mv rfl rfl (sp rfl (px_neg rfl (by omega)) ?_)
  refine sx_call rfl rfl Tryz.call119 (c_sNatOf (by omega)) (fun v17 w17 p17 => ?_)
  obtain ⟨s17, rfl, os_17, c17⟩ := p17
  have zw17 := c17.size
  refine sx_call rfl rfl Tryz.call97 (c_l04Make os_17.sv (by first | (have h9 := len_u64 (n := -n) (by omega); omega) | (have h9 := len_u64 (n := n) (by omega); omega))) (fun v18 w18 p18 => ?_)
  obtain ⟨s18, rfl, os_18, c18⟩ := p18
  have zw18 := c18.size
  have f21 := (fb2.ext c17).ext c18
  refine sx_store (vs := [.bool (ng (capI true (((-n)).toNat))), s18]) rfl rfl f21 rfl Tryz.sizeOf25 (nbl rfl) (one_cons rfl (one_cons os_18.one one_nil)) (fun w19 sw19 fw19 cw19 => ?_)
  have zw19 := cw19.size
  have gw19 : Blk w19 b2 [.bool (ng (capI true (((-n)).toNat))), s18] 25 := fw19
  refine wl_nil (q_n (k16 _ _ ?_))
  refine sx_retc ?_
  refine q_r (sx_ret1 Tryz.results96 ⟨_, rfl, gw19.loadA (vs := [.bool (ng (capI true (((-n)).toNat))), s18]) (look_lit rfl) Tryz.isAgg25 Tryz.sizeOf25⟩ ?_)
  have e : capI true (-n).toNat = n := capI_neg (by omega)
  have f22 := os_18.chg cw19 (by omega)
  have hr := f22
  rw [e] at hr
  have q23 := Chg.step (l := 0) (h := 0) (Chg.zero (l := 0) (h := 0) ((cb2.t c17).t c18)) cw19 (by omega)
  exact ⟨_, by rw [e], hr.mono (by omega) (by omega), q23⟩
 refine sx_skip ?_
 refine q_n (k14 _ _ ?_)
 refine sx_seq fun K24 k24 => sx_region ?_
 refine mv rfl rfl (sx_call rfl rfl Tryz.call119 (c_sNatOf (by omega)) (fun v25 w25 p25 => ?_))
 obtain ⟨s25, rfl, os_25, c25⟩ := p25
 have zw25 := c25.size
 refine sx_call rfl rfl Tryz.call97 (c_l04Make os_25.sv (by first | (have h9 := len_u64 (n := -n) (by omega); omega) | (have h9 := len_u64 (n := n) (by omega); omega))) (fun v26 w26 p26 => ?_)
 obtain ⟨s26, rfl, os_26, c26⟩ := p26
 have zw26 := c26.size
 have f29 := (fb2.ext c25).ext c26
 refine sx_store (vs := [.bool (ng (capI false ((n).toNat))), s26]) rfl rfl f29 rfl Tryz.sizeOf25 (nbl rfl) (one_cons rfl (one_cons os_26.one one_nil)) (fun w27 sw27 fw27 cw27 => ?_)
 have zw27 := cw27.size
 have gw27 : Blk w27 b2 [.bool (ng (capI false ((n).toNat))), s26] 25 := fw27
 refine wl_nil (q_n (k24 _ _ ?_))
 refine sx_retc ?_
 refine sx_ret1 Tryz.results96 ⟨_, rfl, gw27.loadA (vs := [.bool (ng (capI false ((n).toNat))), s26]) (look_lit rfl) Tryz.isAgg25 Tryz.sizeOf25⟩ ?_
 have e : capI false n.toNat = n := capI_pos (by omega)
 have f30 := os_26.chg cw27 (by omega)
 have hr := f30
 rw [e] at hr
 have q31 := Chg.step (l := 0) (h := 0) (Chg.zero (l := 0) (h := 0) ((cb2.t c25).t c26)) cw27 (by omega)
 exact ⟨_, by rw [e], hr.mono (by omega) (by omega), q31⟩

theorem c_l01Pick {w : World} {c : Nat} {vb : Value} {lvb uvb : Nat} {bs : List Int} {i : Int} {h : Int} {vl : Value} {lvl uvl : Nat} {zs : List Int} (hc : Blk w c [vb, .int .i64 i, .int .i64 h] 97) (hvb : SlB w lvb uvb vb (bs)) (hvl : Sl w lvl uvl vl (zs)) (hb8 : ∀ j, j < bs.length → 0 ≤ bs.getD j 0 ∧ bs.getD j 0 ≤ 255) (hbl : bs.length ≤ 1048576) (hi : 0 ≤ i ∧ i ≤ bs.length) (hdis : uvb ≤ c) (hz : 1 ≤ zs.length ∧ zs.length ≤ 1000) (hd2 : uvl ≤ c ∨ c < lvl) :
  Ret Tryz.prog 65 [.pointer (some ⟨c, 0, none⟩), vl] w fun v w' => ∃ x i2 h2, v = .int .i64 (x) ∧ Blk w' c [vb, .int .i64 (i2), .int .i64 (h2)] 97 ∧ (x ∈ zs) ∧ (0 ≤ i2 ∧ i2 ≤ (bs).length) ∧ Chg c (c + 1) w w' := by
 have clt := hc.lt
 refine sx_enter Tryz.func65 rfl Tryz.ntmps65 (nbl rfl) ?_
 refine sx_seq fun K1 k1 => sx_region ?_
 refine av rfl rfl (wl_nil (q_n (k1 _ _ ?_)))
 refine sx_seq fun K2 k2 => sx_region ?_
 refine mv rfl rfl (mv rfl rfl (mv rfl rfl (sp rfl (px_len rfl Tryz.underlying23 hvl) ?_)))
 refine sx_call rfl rfl Tryz.call54 (c_l01Below hc hvb (by assumption) (by omega) (by omega) (by omega) (by omega)) (fun v3 w3 p3 => ?_)
 obtain ⟨x3, i23, h23, rfl, xc_3, hx3, hi23, c3⟩ := p3
 have zw3 := c3.size
 have f4 := hvl.chg c3 (by omega)
 refine sp rfl (px_index1 (j := x3.toNat) rfl rfl (by omega) Tryz.underlying23 Tryz.sizeOf3 f4 (by omega)) ?_
 refine sp rfl (px_load rfl (f4.load1 (at_int (by omega)) Tryz.isAgg3)) ?_
 refine av rfl rfl (wl_nil (q_n (k2 _ _ ?_)))
 refine sx_retc ?_
 refine sx_ret1 Tryz.results65 rfl ?_
 exact ⟨_, _, _, rfl, xc_3, mem_getD (by omega), by omega, c3⟩

theorem c_l02Nat {w : World} {c : Nat} {vb : Value} {lvb uvb : Nat} {bs : List Int} {i : Int} {h : Int} {most : Int} (hc : Blk w c [vb, .int .i64 i, .int .i64 h] 97) (hvb : SlB w lvb uvb vb (bs)) (hb8 : ∀ j, j < bs.length → 0 ≤ bs.getD j 0 ∧ bs.getD j 0 ≤ 255) (hbl : bs.length ≤ 1048576) (hi : 0 ≤ i ∧ i ≤ bs.length) (hdis : uvb ≤ c) (hn : 0 ≤ most ∧ most ≤ 100) :
  Ret Tryz.prog 98 [.pointer (some ⟨c, 0, none⟩), .int .i64 most] w fun v w' => ∃ s m i2 h2, v = s ∧ OwnI w' w.heap.size w'.heap.size s intT (dg m) ∧ Blk w' c [vb, .int .i64 (i2), .int .i64 (h2)] 97 ∧ (((dg m).length : Int) ≤ most) ∧ (0 ≤ i2 ∧ i2 ≤ (bs).length) ∧ Chg c (c + 1) w w' := by
 have clt := hc.lt
 have clt := hc.lt
 refine sx_enter Tryz.func98 rfl Tryz.ntmps98 (nbl rfl) ?_
 refine sx_seq fun K1 k1 => sx_region ?_
 refine av rfl rfl (wl_nil (q_n (k1 _ _ ?_)))
 refine sx_seq fun K2 k2 => sx_region ?_
 refine sx_lit0 rfl xelt23 (fun s3 ws3 ss3 fs3 cs3 => ?_)
 have zws3 := cs3.size
 refine av rfl rfl (wl_nil (q_n (k2 _ _ ?_)))
 refine sx_seq fun K4 k4 => ?_
 refine sx_seq fun K5 k5 => sx_region ?_
 refine mv rfl rfl (mv rfl rfl (sp rfl (px_add rfl rfl (by omega)) ?_))
 have f6 := hc.ext cs3
 have f7 := hvb.ext cs3
 refine sx_call rfl rfl Tryz.call54 (c_l01Below f6 f7 (by assumption) (by omega) (by omega) (by omega) (by omega)) (fun v8 w8 p8 => ?_)
 obtain ⟨x8, i28, h28, rfl, xc_8, hx8, hi28, c8⟩ := p8
 have zw8 := c8.size
 refine av rfl rfl (wl_nil (q_n (k5 _ _ ?_)))
 refine sx_block ?_
 have f10 := fs3.chg c8 (by omega)
 have q11 := Chg.step (l := c) (h := (c + 1)) (Chg.zero (l := c) (h := (c + 1)) cs3) c8 (by omega)
 refine sx_loop (fun mm aa w' => ∃ (s : Value) (os : List Int) (n2 : Int) (i2 : Int) (h2 : Int), Agr 28 [(0, .pointer (some ⟨c, 0, none⟩)), (5, s), (6, .int .i64 n2)] aa ∧ Chg c (c + 1) w w' ∧ Blk w' c [vb, .int .i64 i2, .int .i64 h2] 97 ∧ Own w' w.heap.size w'.heap.size s intT os.length 1 (os.map (Value.int .i64)) ∧ (mm = n2.toNat) ∧ (Lm os) ∧ ((os.length : Int) + n2 ≤ most ∧ 0 ≤ n2) ∧ (0 ≤ i2 ∧ i2 ≤ bs.length)) (_) (fun a ha => ⟨s3, [], x8, i28, h28, ha.sub (Sub.c 0 rfl (.c 5 rfl (.c 6 (look_int (t := 6) rfl (by first | omega | simp)) .nil))), q11, xc_8, (f10.mono (by omega) (by omega)), rfl, Lm.nil, by simp only [List.length_nil]; omega, by omega⟩) ?_
 rintro mm aa wl9 ⟨s, os, n2, i2, h2, hAwl9, cwl9, hb_c, hs_s, hm, hlm, hln, hi2⟩
 refine (show cw Tryz.prog 28 _ _ _ wl9 from ?_) aa hAwl9
 clear hAwl9
 have zwl9 := cwl9.size
 have lt12 := hb_c.lt
 refine sx_seq fun K13 k13 => ?_
 refine sx_seq fun K14 k14 => sx_region ?_
 refine mv rfl rfl (sp rfl (px_gt rfl rfl) ?_)
 refine wl_nil (q_n (k14 _ _ ?_))
 refine sx_condP rfl (fun h203 => ?_) (fun h203 => ?_)
 ·
  refine sx_skip ?_
  refine q_n (k13 _ _ ?_)
  refine sx_seq fun K15 k15 => ?_
  refine sx_block ?_
  refine sx_region ?_
  refine mv rfl rfl (mv rfl rfl (mv rfl rfl ?_))
  have f16 := hvb.chg cwl9 (by omega)
  refine sx_call rfl rfl Tryz.call54 (c_l01Below hb_c f16 (by assumption) (by omega) (by omega) (by omega) (by omega)) (fun v17 w17 p17 => ?_)
  obtain ⟨x17, i217, h217, rfl, xc_17, hx17, hi217, c17⟩ := p17
  have zw17 := c17.size
  refine mv rfl rfl ?_
  have f18 := f16.chg c17 (by omega)
  refine sx_call rfl rfl Tryz.call54 (c_l01Below xc_17 f18 (by assumption) (by omega) (by omega) (by omega) (by omega)) (fun v19 w19 p19 => ?_)
  obtain ⟨x19, i219, h219, rfl, xc_19, hx19, hi219, c19⟩ := p19
  have zw19 := c19.size
  refine sx_lit7 rfl xelt23 rfl rfl rfl rfl rfl rfl rfl rfl rfl rfl rfl rfl rfl rfl (fun s20 ws20 ss20 fs20 cs20 => ?_)
  have ns20 := Own.norm (f := (Value.int .i64)) (zs := [0, 1, 2, 999999999, 500000000, x17, x19]) fs20
  have zws20 := cs20.size
  have f21 := xc_19.ext cs20
  have f23 := (f18.chg c19 (by omega)).ext cs20
  refine sx_call rfl rfl Tryz.call65 (c_l01Pick f21 f23 ns20.sv (by assumption) (by omega) (by omega) (by omega) (by first | omega | simp) (by omega)) (fun v24 w24 p24 => ?_)
  obtain ⟨x24, i224, h224, rfl, xc_24, hx24, hi224, c24⟩ := p24
  have zw24 := c24.size
  refine sx_lit1 rfl xelt23 rfl rfl (fun s25 ws25 ss25 fs25 cs25 => ?_)
  have ns25 := Own.norm (f := (Value.int .i64)) (zs := [x24]) fs25
  have zws25 := cs25.size
  have f29 := ((hs_s.chg c17 (by omega)).chg c19 (by omega)).ext cs20
  have f31 := (f29.chg c24 (by omega)).ext cs25
  refine sx_append rfl xelt23 rfl rfl f31 ns25.sv one_int (by omega) (by simp only [List.length_cons, List.length_nil]; omega) (by unfold maxLen; simp only [List.length_cons, List.length_nil]; omega) (fun a26 w26 fw26 cw26 => ?_)
  have nw26 := Own.app (f := (Value.int .i64)) (a := os) (b := [x24]) fw26
  have zw26 := cw26.size
  refine av rfl rfl (wl_nil ?_)
  refine q_bn (q_n (k15 _ _ ?_))
  refine sx_sub (Sub.c 0 rfl (.c 5 rfl (.c 6 rfl .nil))) ?_
  refine sx_region ?_
  refine mv rfl rfl (sp rfl (px_sub rfl rfl (by omega)) ?_)
  refine av rfl rfl (wl_nil ?_)
  have f32 := xc_24.ext cs25
  have f33 := f32.chg cw26 (by omega)
  have q34 := Chg.step (l := c) (h := (c + 1)) cwl9 c17 (by omega)
  have q35 := Chg.step (l := c) (h := (c + 1)) q34 c19 (by omega)
  have q36 := Chg.step (l := c) (h := (c + 1)) q35 cs20 (by omega)
  have q37 := Chg.step (l := c) (h := (c + 1)) q36 c24 (by omega)
  have q38 := Chg.step (l := c) (h := (c + 1)) q37 cs25 (by omega)
  have q39 := Chg.step (l := c) (h := (c + 1)) q38 cw26 (by omega)
  have bx24 : 0 ≤ x24 ∧ x24 < 1000000000 := by have h9 := hx24; simp only [List.mem_cons, List.not_mem_nil, or_false] at h9; omega
  exact fun a ha => ⟨_, by omega, a26, (os ++ ([x24])), (n2 - 1), i224, h224, ha.sub (Sub.c 0 rfl (.c 5 rfl (.c 6 (look_int (t := 6) rfl (by first | omega | simp)) .nil))), q39, f33, (nw26.mono (by omega) (by omega)), rfl, hlm.append (Lm.single (by omega) (by omega)), by simp only [List.length_append, List.length_singleton]; omega, by omega⟩
 refine sx_exit ?_
 refine q_e (q_e (q_bx (q_n (k4 _ _ ?_))))
 refine sx_seq fun K40 k40 => sx_region ?_
 refine mv rfl rfl (sx_call rfl rfl Tryz.call121 (c_l02Trim hs_s (by assumption) (by first | omega | (simp only [List.length_append, List.length_set, List.length_replicate, List.length_cons, List.length_nil] at *; omega))) (fun v41 w41 p41 => ?_))
 obtain ⟨s41, rfl, os_41, c41⟩ := p41
 have zw41 := c41.size
 refine av rfl rfl (wl_nil (q_n (k40 _ _ ?_)))
 refine sx_retc ?_
 refine sx_ret1 Tryz.results98 rfl ?_
 have hvt := vl_trim_len hlm
 have f42 := hb_c.ext c41
 have q43 := Chg.step (l := c) (h := (c + 1)) cwl9 c41 (by omega)
 exact ⟨_, _, _, _, rfl, (Own.mono os_41 (by omega) (by omega)), f42, by omega, by omega, q43⟩

theorem c_l04Draw {w : World} {c : Nat} {vb : Value} {lvb uvb : Nat} {bs : List Int} {i : Int} {h : Int} {most : Int} (hc : Blk w c [vb, .int .i64 i, .int .i64 h] 97) (hvb : SlB w lvb uvb vb (bs)) (hb8 : ∀ j, j < bs.length → 0 ≤ bs.getD j 0 ∧ bs.getD j 0 ≤ 255) (hbl : bs.length ≤ 1048576) (hi : 0 ≤ i ∧ i ≤ bs.length) (hdis : uvb ≤ c) (hn : 1 ≤ most ∧ most ≤ 40) :
  Ret Tryz.prog 64 [.pointer (some ⟨c, 0, none⟩), .int .i64 most] w fun v w' => ∃ s x i2 h2, v = .agg #[.bool (ng x), s] ∧ OwnI w' w.heap.size w'.heap.size s intT (dg (x).natAbs) ∧ Blk w' c [vb, .int .i64 (i2), .int .i64 (h2)] 97 ∧ (((dg (x).natAbs).length : Int) ≤ most) ∧ (0 ≤ i2 ∧ i2 ≤ (bs).length) ∧ Chg c (c + 1) w w' := by
 have clt := hc.lt
 have clt := hc.lt
 refine sx_enter Tryz.func64 rfl Tryz.ntmps64 (nbl rfl) ?_
 refine sx_seq fun K1 k1 => sx_region ?_
 refine sx_alloc [.bool false, (.slice none 0 0)] rfl Tryz.zeroValue25 rfl (fun b2 w3 eb2 sb2 fb2 cb2 => ?_)
 have zw3 := cb2.size
 refine wl_nil (q_n (k1 _ _ ?_))
 refine sx_seq fun K4 k4 => ?_
 refine sx_seq fun K5 k5 => sx_region ?_
 refine mv rfl rfl ?_
 have f6 := hc.ext cb2
 have f7 := hvb.ext cb2
 refine sx_call rfl rfl Tryz.call86 (c_l01Once f6 f7 (by assumption) (by omega) (by omega) (by omega) (by omega)) (fun v8 w8 p8 => ?_)
 obtain ⟨x8, i28, h28, rfl, xc_8, hx8, hi28, c8⟩ := p8
 have zw8 := c8.size
 refine wl_nil (q_n (k5 _ _ ?_))
 refine sx_condP rfl (fun h144 => ?_) (fun h144 => ?_)
 ·
  refine sx_seq fun K9 k9 => sx_region ?_
  refine mv rfl rfl ?_
  have f10 := f7.chg c8 (by omega)
  refine sx_call rfl rfl Tryz.call54 (c_l01Below xc_8 f10 (by assumption) (by omega) (by omega) (by omega) (by omega)) (fun v11 w11 p11 => ?_)
  obtain ⟨x11, i211, h211, rfl, xc_11, hx11, hi211, c11⟩ := p11
  have zw11 := c11.size
  refine sp rfl (px_sub rfl rfl (by omega)) ?_
  refine sx_call rfl rfl Tryz.call96 (c_sIntOf (by omega)) (fun v12 w12 p12 => ?_)
  obtain ⟨s12, rfl, os_12, c12⟩ := p12
  have zw12 := c12.size
  have f16 := ((fb2.chg c8 (by omega)).chg c11 (by omega)).ext c12
  refine sx_store (vs := [.bool (ng (x11 - 1000)), s12]) rfl rfl f16 rfl Tryz.sizeOf25 (nbl rfl) (one_cons rfl (one_cons os_12.one one_nil)) (fun w13 sw13 fw13 cw13 => ?_)
  have zw13 := cw13.size
  have gw13 : Blk w13 b2 [.bool (ng (x11 - 1000)), s12] 25 := fw13
  refine wl_nil (q_n (k9 _ _ ?_))
  refine sx_retc ?_
  refine q_r (sx_ret1 Tryz.results64 ⟨_, rfl, gw13.loadA (vs := [.bool (ng (x11 - 1000)), s12]) (look_lit rfl) Tryz.isAgg25 Tryz.sizeOf25⟩ ?_)
  have hl1 : (dg ((x11 - 1000)).natAbs).length ≤ 1 := dg_len_le (by simp only [Bs]; omega)
  have f18 := (xc_11.ext c12).chg cw13 (by omega)
  have q19 := Chg.step (l := c) (h := (c + 1)) (Chg.zero (l := c) (h := (c + 1)) cb2) c8 (by omega)
  have q20 := Chg.step (l := c) (h := (c + 1)) q19 c11 (by omega)
  have q21 := Chg.step (l := c) (h := (c + 1)) q20 c12 (by omega)
  have q22 := Chg.step (l := c) (h := (c + 1)) q21 cw13 (by omega)
  have f23 := os_12.chg cw13 (by omega)
  exact ⟨_, _, _, _, rfl, (Own.mono f23 (by omega) (by omega)), f18, by omega, by omega, q22⟩
 refine sx_skip ?_
 refine q_n (k4 _ _ ?_)
 refine sx_seq fun K24 k24 => sx_region ?_
 refine mv rfl rfl ?_
 have f25 := f7.chg c8 (by omega)
 refine sx_call rfl rfl Tryz.call86 (c_l01Once xc_8 f25 (by assumption) (by omega) (by omega) (by omega) (by omega)) (fun v26 w26 p26 => ?_)
 obtain ⟨x26, i226, h226, rfl, xc_26, hx26, hi226, c26⟩ := p26
 have zw26 := c26.size
 refine mv rfl rfl (mv rfl rfl ?_)
 have f27 := f25.chg c26 (by omega)
 refine sx_call rfl rfl Tryz.call98 (c_l02Nat xc_26 f27 (by assumption) (by omega) (by omega) (by omega) (by omega)) (fun v28 w28 p28 => ?_)
 obtain ⟨s28, m28, i228, h228, rfl, os_28, xc_28, hx28, hi228, c28⟩ := p28
 have zw28 := c28.size
 refine sx_call rfl rfl Tryz.call97 (c_l04Make os_28.sv (by omega)) (fun v29 w29 p29 => ?_)
 obtain ⟨s29, rfl, os_29, c29⟩ := p29
 have zw29 := c29.size
 have f34 := (((fb2.chg c8 (by omega)).chg c26 (by omega)).chg c28 (by omega)).ext c29
 refine sx_store (vs := [.bool (ng (capI (decide ((x26 : Int) = 0)) m28)), s29]) rfl rfl f34 rfl Tryz.sizeOf25 (nbl rfl) (one_cons rfl (one_cons os_29.one one_nil)) (fun w30 sw30 fw30 cw30 => ?_)
 have zw30 := cw30.size
 have gw30 : Blk w30 b2 [.bool (ng (capI (decide ((x26 : Int) = 0)) m28)), s29] 25 := fw30
 refine wl_nil (q_n (k24 _ _ ?_))
 refine sx_retc ?_
 refine sx_ret1 Tryz.results64 ⟨_, rfl, gw30.loadA (vs := [.bool (ng (capI (decide ((x26 : Int) = 0)) m28)), s29]) (look_lit rfl) Tryz.isAgg25 Tryz.sizeOf25⟩ ?_
 have hcs := capI_sgI (n := (decide ((x26 : Int) = 0))) (m := m28) (by omega)
 have hl1 : (dg (capI (decide ((x26 : Int) = 0)) m28).natAbs).length = (dg m28).length := by rw [hcs, sgI_abs]
 have f36 := (xc_28.ext c29).chg cw30 (by omega)
 have q37 := Chg.step (l := c) (h := (c + 1)) (Chg.zero (l := c) (h := (c + 1)) cb2) c8 (by omega)
 have q38 := Chg.step (l := c) (h := (c + 1)) q37 c26 (by omega)
 have q39 := Chg.step (l := c) (h := (c + 1)) q38 c28 (by omega)
 have q40 := Chg.step (l := c) (h := (c + 1)) q39 c29 (by omega)
 have q41 := Chg.step (l := c) (h := (c + 1)) q40 cw30 (by omega)
 have f42 := os_29.chg cw30 (by omega)
 exact ⟨_, _, _, _, rfl, (Own.mono f42 (by omega) (by omega)), f36, by omega, by omega, q41⟩

theorem c_l07Draw {w : World} {c : Nat} {vb : Value} {lvb uvb : Nat} {bs : List Int} {i : Int} {h : Int} (hc : Blk w c [vb, .int .i64 i, .int .i64 h] 97) (hvb : SlB w lvb uvb vb (bs)) (hb8 : ∀ j, j < bs.length → 0 ≤ bs.getD j 0 ∧ bs.getD j 0 ≤ 255) (hbl : bs.length ≤ 1048576) (hi : 0 ≤ i ∧ i ≤ bs.length) (hdis : uvb ≤ c) :
  Ret Tryz.prog 29 [.pointer (some ⟨c, 0, none⟩)] w fun v w' => ∃ s x p i2 h2, v = .agg #[.bool (ng (x)), s, .int .i64 (p)] ∧ OwnI w' w.heap.size w'.heap.size s intT (dg (x).natAbs) ∧ Blk w' c [vb, .int .i64 (i2), .int .i64 (h2)] 97 ∧ ((dg (x).natAbs).length ≤ 2) ∧ (0 ≤ p ∧ p ≤ 9) ∧ (0 ≤ i2 ∧ i2 ≤ (bs).length) ∧ Chg c (c + 1) w w' := by
 have clt := hc.lt
 have clt := hc.lt
 refine sx_enter Tryz.func29 rfl Tryz.ntmps29 (nbl rfl) ?_
 refine sx_seq fun K1 k1 => sx_region ?_
 refine sx_alloc [.bool false, (.slice none 0 0), .int .i64 0] rfl Tryz.zeroValue27 rfl (fun b2 w3 eb2 sb2 fb2 cb2 => ?_)
 have zw3 := cb2.size
 refine wl_nil (q_n (k1 _ _ ?_))
 refine sx_seq fun K4 k4 => sx_region ?_
 refine mv rfl rfl ?_
 have f5 := hc.ext cb2
 have f6 := hvb.ext cb2
 refine sx_call rfl rfl Tryz.call64 (c_l04Draw f5 f6 (by assumption) (by omega) (by omega) (by omega) (by omega)) (fun v7 w7 p7 => ?_)
 obtain ⟨s7, x7, i27, h27, rfl, os_7, xc_7, hx7, hi27, c7⟩ := p7
 have zw7 := c7.size
 refine mv rfl rfl ?_
 refine sx_lit8 rfl xelt23 rfl rfl rfl rfl rfl rfl rfl rfl rfl rfl rfl rfl rfl rfl rfl rfl (fun s8 ws8 ss8 fs8 cs8 => ?_)
 have ns8 := Own.norm (f := (Value.int .i64)) (zs := [0, 0, 1, 2, 2, 3, 5, 9]) fs8
 have zws8 := cs8.size
 have f9 := xc_7.ext cs8
 have f11 := (f6.chg c7 (by omega)).ext cs8
 refine sx_call rfl rfl Tryz.call65 (c_l01Pick f9 f11 ns8.sv (by assumption) (by omega) (by omega) (by omega) (by first | omega | simp) (by omega)) (fun v12 w12 p12 => ?_)
 obtain ⟨x12, i212, h212, rfl, xc_12, hx12, hi212, c12⟩ := p12
 have zw12 := c12.size
 have bx12 : 0 ≤ x12 ∧ x12 ≤ 9 := by have h9 := hx12; simp only [List.mem_cons, List.not_mem_nil, or_false] at h9; omega
 refine sp rfl (px_build rfl (xbld27x0x1 rfl _)) ?_
 have f15 := (fb2.chg c7 (by omega)).ext cs8
 have f16 := f15.chg c12 (by omega)
 have f17 := os_7.ext cs8
 have f18 := f17.chg c12 (by omega)
 refine sx_store (vs := [.bool (ng x7), s7, .int .i64 x12]) rfl rfl f16 rfl Tryz.sizeOf27 (nbl rfl) (one_cons rfl (one_cons f18.one (o1 rfl))) (fun w13 sw13 fw13 cw13 => ?_)
 have zw13 := cw13.size
 have gw13 : Blk w13 b2 [.bool (ng x7), s7, .int .i64 x12] 27 := fw13
 refine wl_nil (q_n (k4 _ _ ?_))
 refine sx_retc ?_
 refine sx_ret1 Tryz.results29 ⟨_, rfl, gw13.loadA (vs := [.bool (ng x7), s7, .int .i64 x12]) (look_lit rfl) Tryz.isAgg27 Tryz.sizeOf27⟩ ?_
 have f19 := xc_12.chg cw13 (by omega)
 have q20 := Chg.step (l := c) (h := (c + 1)) (Chg.zero (l := c) (h := (c + 1)) cb2) c7 (by omega)
 have q21 := Chg.step (l := c) (h := (c + 1)) q20 cs8 (by omega)
 have q22 := Chg.step (l := c) (h := (c + 1)) q21 c12 (by omega)
 have q23 := Chg.step (l := c) (h := (c + 1)) q22 cw13 (by omega)
 have f24 := f18.chg cw13 (by omega)
 exact ⟨_, x7, _, _, _, rfl, (Own.mono f24 (by omega) (by omega)), f19, by omega, by assumption, by omega, q23⟩

theorem c_MakeDecs {w : World} {vb : Value} {lvb uvb : Nat} {bs : List Int} (hvb : SlB w lvb uvb vb (bs)) (hb8 : ∀ j, j < bs.length → 0 ≤ bs.getD j 0 ∧ bs.getD j 0 ≤ 255) (hbl : bs.length ≤ 1048576) :
  Ret Tryz.prog 5 [vb] w fun v w' => ∃ s x p t y q, v = .tuple #[.agg #[.bool (ng x), s, .int .i64 (p)], .agg #[.bool (ng y), t, .int .i64 (q)]] ∧ Sl w' (w.heap.size) (w'.heap.size) s (dg (x).natAbs) ∧ Sl w' (w.heap.size) (w'.heap.size) t (dg (y).natAbs) ∧ ((dg (x).natAbs).length ≤ 2 ∧ (dg (y).natAbs).length ≤ 2) ∧ ((0 ≤ p ∧ p ≤ 9) ∧ (0 ≤ q ∧ q ≤ 9)) ∧ Chg 0 0 w w' := by
 have hvb0 := hvb.fit
 refine sx_enter Tryz.func5 rfl Tryz.ntmps5 (nbl rfl) ?_
 refine sx_seq fun K1 k1 => sx_region ?_
 refine sx_alloc [.bool false, (.slice none 0 0), .int .i64 0] rfl Tryz.zeroValue27 rfl (fun b2 w3 eb2 sb2 fb2 cb2 => ?_)
 have zw3 := cb2.size
 refine sx_alloc [.bool false, (.slice none 0 0), .int .i64 0] rfl Tryz.zeroValue27 rfl (fun b4 w5 eb4 sb4 fb4 cb4 => ?_)
 have zw5 := cb4.size
 refine wl_nil (q_n (k1 _ _ ?_))
 refine sx_seq fun K6 k6 => sx_region ?_
 refine mv rfl rfl ?_
 have f7 := hvb0.ext cb2
 have f8 := f7.ext cb4
 refine sx_call rfl rfl Tryz.call28 (c_l01New f8 (by assumption) (by omega)) (fun v9 w9 p9 => ?_)
 obtain ⟨c9, h29, rfl, xc_9, hh9, hc9, cq9⟩ := p9
 have zw9 := cq9.size
 refine av rfl rfl (wl_nil (q_n (k6 _ _ ?_)))
 refine sx_seq fun K10 k10 => sx_region ?_
 refine mv rfl rfl ?_
 have f11 := f8.ext cq9
 refine sx_call rfl rfl Tryz.call29 (c_l07Draw xc_9 f11 (by assumption) (by omega) (by omega) (by omega)) (fun v12 w12 p12 => ?_)
 obtain ⟨s12, x12, p12, i212, h212, rfl, os_12, xc_12, hx12, hp12, hi212, c12⟩ := p12
 have zw12 := c12.size
 refine sx_alloc [.bool false, (.slice none 0 0), .int .i64 0] rfl Tryz.zeroValue27 rfl (fun b13 w14 eb13 sb13 fb13 cb13 => ?_)
 have zw14 := cb13.size
 have f16 := os_12.ext cb13
 refine sx_store (vs := [.bool (ng (x12)), s12, .int .i64 p12]) rfl rfl fb13 rfl Tryz.sizeOf27 (nbl rfl) (one_cons rfl (one_cons f16.one (o1 rfl))) (fun w15 sw15 fw15 cw15 => ?_)
 have zw15 := cw15.size
 have gw15 : Blk w15 b13 [.bool (ng (x12)), s12, .int .i64 p12] 27 := fw15
 refine wl_nil (q_n (k10 _ _ ?_))
 refine sx_seq fun K17 k17 => ?_
 have f19 := (f11.chg c12 (by omega)).ext cb13
 have f20 := f19.chg cw15 (by omega)
 have f21 := f16.chg cw15 (by omega)
 refine dx_region (fun w' => Chg b2 (c9 + 1) w15 w') (by kernel_rfl) (Chg.zero (Chg.drew _)) ?_
 have d22 := Chg.drew w15
 have s22 : Chg b2 (c9 + 1) w15 (World.drew w15) := Chg.zero (Chg.drew _)
 have y22 : (World.drew w15).heap.size = w15.heap.size := rfl
 generalize World.drew w15 = w22 at *
 have zw22 := d22.size
 refine dt 0 rfl rfl rfl rfl s22 (fun _ hS => px_load rfl ((gw15.chg hS (by omega)).loadA (vs := [.bool (ng (x12)), s12, .int .i64 p12]) (look_lit rfl) Tryz.isAgg27 Tryz.sizeOf27)) ?_
 refine dt 1 rfl rfl rfl rfl s22 (fun _ hS => px_move rfl) ?_
 refine dx_eff 2 rfl (by kernel_rfl) ?_
 have f23 := xc_12.ext cb13
 have f24 := f23.chg cw15 (by omega)
 have f25 := f24.ext d22
 have f26 := f20.ext d22
 refine sx_call rfl rfl Tryz.call29 (c_l07Draw f25 f26 (by assumption) (by omega) (by omega) (by omega)) (fun v27 w27 p27 => ?_)
 obtain ⟨s27, x27, p27, i227, h227, rfl, os_27, xc_27, hx27, hp27, hi227, c27⟩ := p27
 have zw27 := c27.size
 have q29 := Chg.step (l := b2) (h := (c9 + 1)) (Chg.zero (l := b2) (h := (c9 + 1)) d22) c27 (by omega)
 have s28 : Chg b2 (c9 + 1) w15 w27 := q29
 refine wl_nil ?_
 refine dx_next s28 ?_
 refine dx_eff 3 rfl (by kernel_rfl) ?_
 have f31 := fb2.ext cb4
 have f32 := f31.ext cq9
 have f34 := (f32.chg c12 (by omega)).ext cb13
 have f35 := f34.chg cw15 (by omega)
 have f37 := (f35.ext d22).chg c27 (by omega)
 have f39 := (f21.ext d22).chg c27 (by omega)
 refine sx_store (vs := [.bool (ng (x12)), s12, .int .i64 p12]) rfl rfl f37 rfl Tryz.sizeOf27 (nbl rfl) (one_cons rfl (one_cons f39.one (o1 rfl))) (fun w30 sw30 fw30 cw30 => ?_)
 have zw30 := cw30.size
 have gw30 : Blk w30 b2 [.bool (ng (x12)), s12, .int .i64 p12] 27 := fw30
 have q41 := Chg.step (l := b2) (h := (c9 + 1)) (Chg.zero (l := b2) (h := (c9 + 1)) d22) c27 (by omega)
 have q42 := Chg.step (l := b2) (h := (c9 + 1)) q41 cw30 (by omega)
 have s40 : Chg b2 (c9 + 1) w15 w30 := q42
 refine wl_nil ?_
 refine dx_next s40 ?_
 refine dx_eff 4 rfl (by kernel_rfl) ?_
 have f44 := fb4.ext cq9
 have f46 := (f44.chg c12 (by omega)).ext cb13
 have f47 := f46.chg cw15 (by omega)
 have f50 := ((f47.ext d22).chg c27 (by omega)).chg cw30 (by omega)
 have f51 := os_27.chg cw30 (by omega)
 refine sx_store (vs := [.bool (ng (x27)), s27, .int .i64 p27]) rfl rfl f50 rfl Tryz.sizeOf27 (nbl rfl) (one_cons rfl (one_cons f51.one (o1 rfl))) (fun w43 sw43 fw43 cw43 => ?_)
 have zw43 := cw43.size
 have gw43 : Blk w43 b4 [.bool (ng (x27)), s27, .int .i64 p27] 27 := fw43
 have q53 := Chg.step (l := b2) (h := (c9 + 1)) (Chg.zero (l := b2) (h := (c9 + 1)) d22) c27 (by omega)
 have q54 := Chg.step (l := b2) (h := (c9 + 1)) q53 cw30 (by omega)
 have q55 := Chg.step (l := b2) (h := (c9 + 1)) q54 cw43 (by omega)
 have s52 : Chg b2 (c9 + 1) w15 w43 := q55
 refine wl_nil ?_
 refine dx_next s52 ?_
 refine dx_done (by kernel_rfl) ?_
 refine q_n (k17 _ _ ?_)
 refine sx_retc ?_
 have f56 := gw30.chg cw43 (by omega)
 refine sx_ret2 Tryz.results5 ⟨_, rfl, f56.loadA (vs := [.bool (ng (x12)), s12, .int .i64 p12]) (look_lit rfl) Tryz.isAgg27 Tryz.sizeOf27⟩ ⟨_, rfl, gw43.loadA (vs := [.bool (ng (x27)), s27, .int .i64 p27]) (look_lit rfl) Tryz.isAgg27 Tryz.sizeOf27⟩ ?_
 have q57 := Chg.step (l := 0) (h := 0) (Chg.zero (l := 0) (h := 0) ((cb2.t cb4).t cq9)) c12 (by omega)
 have q58 := Chg.step (l := 0) (h := 0) q57 cb13 (by omega)
 have q59 := Chg.step (l := 0) (h := 0) q58 cw15 (by omega)
 have q60 := Chg.step (l := 0) (h := 0) q59 d22 (by omega)
 have q61 := Chg.step (l := 0) (h := 0) q60 c27 (by omega)
 have q62 := Chg.step (l := 0) (h := 0) q61 cw30 (by omega)
 have q63 := Chg.step (l := 0) (h := 0) q62 cw43 (by omega)
 have f64 := f39.chg cw30 (by omega)
 have f65 := f64.chg cw43 (by omega)
 have f66 := f51.chg cw43 (by omega)
 exact ⟨_, _, _, _, _, _, rfl, (Sv.mono f65.sv (by omega) (by omega)), (Sv.mono f66.sv (by omega) (by omega)), ⟨by assumption, by assumption⟩, ⟨by assumption, by assumption⟩, q63⟩

theorem c_iNatOk {w : World} {va : Value} {lva uva : Nat} {zs : List Int} (hva : Sl w lva uva va (zs)) (h63 : zs.length ≤ 4611686018427387904) :
  Ret Tryz.prog 104 [va] w fun v w' => v = .bool (decide (NOk zs)) ∧ Chg 0 0 w w' := by
 have hva0 := hva.fit
 refine sx_enter Tryz.func104 rfl Tryz.ntmps104 (nbl rfl) ?_
 refine sx_seq fun K1 k1 => sx_region ?_
 refine av rfl rfl (wl_nil (q_n (k1 _ _ ?_)))
 refine sx_seq fun K2 k2 => ?_
 refine sx_seq fun K3 k3 => sx_region ?_
 refine mv rfl rfl (sp rfl (px_len rfl Tryz.underlying23 hva0) ?_)
 refine sp rfl (px_gt rfl rfl) ?_
 refine mv rfl rfl ?_
 refine sx_tmpP (t := 8) rfl (fun h13 => ?_) (fun h13 => ?_)
 ·
  refine sx_guardF rfl rfl rfl rfl rfl rfl ?_
  refine sx_guardF rfl rfl rfl rfl rfl rfl ?_
  refine sx_guardF rfl rfl rfl rfl rfl rfl ?_
  refine sx_guardF rfl rfl rfl rfl rfl rfl ?_
  refine sx_guardFU rfl rfl rfl rfl rfl ?_
  refine sx_guardFU rfl rfl rfl rfl rfl ?_
  refine sx_guardFU rfl rfl rfl rfl rfl ?_
  refine sx_guardFU rfl rfl rfl rfl rfl ?_
  refine sx_guardFU rfl rfl rfl rfl rfl ?_
  refine sx_guardFU rfl rfl rfl rfl rfl ?_
  refine sx_guardFU rfl rfl rfl rfl rfl ?_
  refine sx_guardF rfl rfl rfl rfl rfl rfl ?_
  refine sp rfl (px_pick rfl rfl) ?_
  refine wl_nil (q_n (k3 _ _ ?_))
  refine sx_sub (Sub.c 0 rfl (.c 2 rfl (.c 21 rfl .nil))) ?_
  refine sx_condT rfl ?_
  refine sx_seq fun K4 k4 => sx_region ?_
  refine av rfl rfl (wl_nil (q_n (k4 _ _ ?_)))
  refine sx_retc ?_
  refine q_r (sx_ret1 Tryz.results104 rfl ?_)
  exact ⟨bFalse (fun h => by first | (have h1 := h.2.1; omega) | exact h.2.2 ((last_getD (by omega)).2 (by assumption))), (Chg.refl 0 0 _)⟩
 refine sx_guardT rfl rfl rfl ?_
 refine mv rfl rfl ?_
 refine sx_guardT rfl rfl rfl ?_
 refine sp rfl (px_len rfl Tryz.underlying23 hva0) ?_
 refine sx_guardT rfl rfl rfl ?_
 refine sp rfl (px_gt rfl rfl) ?_
 refine sx_guardT rfl rfl rfl ?_
 refine mv rfl rfl ?_
 refine sx_tmpP (t := 12) rfl (fun h13x1 => ?_) (fun h13x1 => ?_)
 ·
  refine sx_guardT rfl rfl rfl ?_
  refine mv rfl rfl ?_
  refine sx_guardT rfl rfl rfl ?_
  refine mv rfl rfl ?_
  refine sx_guardT rfl rfl rfl ?_
  refine sp rfl (px_len rfl Tryz.underlying23 hva0) ?_
  refine sx_guardT rfl rfl rfl ?_
  refine sp rfl (px_sub rfl rfl (by omega)) ?_
  refine sx_guardT rfl rfl rfl ?_
  refine sp rfl (px_index1 (j := (zs.length - 1)) rfl rfl (by omega) Tryz.underlying23 Tryz.sizeOf3 hva0 (by omega)) ?_
  refine sx_guardT rfl rfl rfl ?_
  refine sp rfl (px_load rfl (hva0.load1 (at_int (by omega)) Tryz.isAgg3)) ?_
  refine sx_guardT rfl rfl rfl ?_
  refine sp rfl (px_eq rfl rfl) ?_
  refine sx_guardT rfl rfl rfl ?_
  refine sp rfl (px_pick rfl rfl) ?_
  refine sp rfl (px_pick rfl rfl) ?_
  refine wl_nil (q_n (k3 _ _ ?_))
  refine sx_sub (Sub.c 0 rfl (.c 2 rfl (.c 21 rfl .nil))) ?_
  refine sx_condP rfl (fun h13x2 => ?_) (fun h13x2 => ?_)
  ·
   refine sx_seq fun K5 k5 => sx_region ?_
   refine av rfl rfl (wl_nil (q_n (k5 _ _ ?_)))
   refine sx_retc ?_
   refine q_r (sx_ret1 Tryz.results104 rfl ?_)
   exact ⟨bFalse (fun h => by first | (have h1 := h.2.1; omega) | exact h.2.2 ((last_getD (by omega)).2 (by assumption))), (Chg.refl 0 0 _)⟩
  refine sx_skip ?_
  refine q_n (k2 _ _ ?_)
  refine sx_seq fun K6 k6 => ?_
  refine sx_seq fun K7 k7 => sx_region ?_
  refine mv rfl rfl (sp rfl (px_len rfl Tryz.underlying23 hva0) ?_)
  refine mv rfl rfl (wl_nil (q_n (k7 _ _ ?_)))
  refine sx_block ?_
  refine sx_loop (fun mm aa w' => ∃ (k : Nat), Agr 35 [(22, va), (23, .int .i64 ↑zs.length), (24, .int .i64 ↑k)] aa ∧ Chg 0 0 w w' ∧ (mm = zs.length - k) ∧ (k ≤ zs.length) ∧ (∀ i, i < k → 0 ≤ zs.getD i 0 ∧ zs.getD i 0 < 1000000000)) (_) (fun a ha => ⟨0, ha.sub (Sub.c 22 rfl (.c 23 (look_int (t := 23) rfl (by first | omega | simp)) (.c 24 (look_int (t := 24) rfl (by first | omega | simp)) .nil))), Chg.refl _ _ _, rfl, by omega, fun i h => by omega⟩) ?_
  rintro mm aa wl8 ⟨k, hAwl8, cwl8, hm, hk, hall⟩
  refine (show cw Tryz.prog 35 _ _ _ wl8 from ?_) aa hAwl8
  clear hAwl8
  have zwl8 := cwl8.size
  refine sx_seq fun K9 k9 => sx_region ?_
  refine sp rfl (px_lt rfl rfl) ?_
  refine wl_nil (q_n (k9 _ _ ?_))
  refine sx_seq fun K10 k10 => ?_
  refine sx_condP rfl (fun h16 => ?_) (fun h16 => ?_)
  ·
   refine sx_skip ?_
   refine q_n (k10 _ _ ?_)
   refine sx_seq fun K11 k11 => ?_
   refine sx_block ?_
   refine sx_seq fun K12 k12 => sx_region ?_
   have f13 := hva0.ext cwl8
   refine sp rfl (px_index1 (j := k) rfl rfl (by omega) Tryz.underlying23 Tryz.sizeOf3 f13 (by omega)) ?_
   refine sp rfl (px_load rfl (f13.load1 (at_int (by omega)) Tryz.isAgg3)) ?_
   refine av rfl rfl (wl_nil (q_n (k12 _ _ ?_)))
   refine sx_seq fun K14 k14 => sx_region ?_
   refine mv rfl rfl (sp rfl (px_lt rfl rfl) ?_)
   refine mv rfl rfl ?_
   refine sx_tmpP (t := 30) rfl (fun h17 => ?_) (fun h17 => ?_)
   ·
    refine sx_guardF rfl rfl rfl rfl rfl rfl ?_
    refine sx_guardF rfl rfl rfl rfl rfl rfl ?_
    refine sp rfl (px_pick rfl rfl) ?_
    refine wl_nil (q_n (k14 _ _ ?_))
    refine sx_condT rfl ?_
    refine sx_seq fun K15 k15 => sx_region ?_
    refine av rfl rfl (wl_nil (q_n (k15 _ _ ?_)))
    refine sx_retc ?_
    refine q_br (q_r (q_r (q_br (q_r (sx_ret1 Tryz.results104 rfl ?_)))))
    exact ⟨bFalse (fun h => by have h1 := h.1.getD k; omega), cwl8⟩
   refine sx_guardT rfl rfl rfl ?_
   refine mv rfl rfl ?_
   refine sx_guardT rfl rfl rfl ?_
   refine sp rfl (px_ge rfl rfl) ?_
   refine sp rfl (px_pick rfl rfl) ?_
   refine wl_nil (q_n (k14 _ _ ?_))
   refine sx_condP rfl (fun h17x1 => ?_) (fun h17x1 => ?_)
   ·
    refine sx_seq fun K16 k16 => sx_region ?_
    refine av rfl rfl (wl_nil (q_n (k16 _ _ ?_)))
    refine sx_retc ?_
    refine q_br (q_r (q_r (q_br (q_r (sx_ret1 Tryz.results104 rfl ?_)))))
    exact ⟨bFalse (fun h => by have h1 := h.1.getD k; omega), cwl8⟩
   refine sx_skip ?_
   refine q_bn (q_n (k11 _ _ ?_))
   refine sx_region ?_
   refine sp rfl (px_add rfl rfl (by omega)) ?_
   refine mv rfl rfl (wl_nil ?_)
   exact fun a ha => ⟨_, by omega, (k + 1), ha.sub (Sub.c 22 rfl (.c 23 rfl (.c 24 (look_int (t := 24) rfl (by first | omega | simp)) .nil))), cwl8, rfl, by omega, lm_succ hall (by omega)⟩
  refine sx_exit ?_
  refine q_e (q_e (q_bx (q_n (k6 _ _ ?_))))
  refine sx_seq fun K17 k17 => sx_region ?_
  refine av rfl rfl (wl_nil (q_n (k17 _ _ ?_)))
  refine sx_retc ?_
  refine sx_ret1 Tryz.results104 rfl ?_
  have ek : k = zs.length := by omega
  have hz : Lm zs := lm_mem (by rw [← ek]; exact hall)
  exact ⟨bTrue (NOk_mk hz (by omega) (by first | exact .inl (by omega) | exact .inr (by assumption))), cwl8⟩
 refine sx_guardF rfl rfl rfl rfl rfl rfl ?_
 refine sx_guardF rfl rfl rfl rfl rfl rfl ?_
 refine sx_guardF rfl rfl rfl rfl rfl rfl ?_
 refine sx_guardF rfl rfl rfl rfl rfl rfl ?_
 refine sx_guardF rfl rfl rfl rfl rfl rfl ?_
 refine sx_guardF rfl rfl rfl rfl rfl rfl ?_
 refine sx_guardF rfl rfl rfl rfl rfl rfl ?_
 refine sx_guardT rfl rfl rfl ?_
 refine sp rfl (px_pick rfl rfl) ?_
 refine sp rfl (px_pick rfl rfl) ?_
 refine wl_nil (q_n (k3 _ _ ?_))
 refine sx_sub (Sub.c 0 rfl (.c 2 rfl (.c 21 rfl .nil))) ?_
 refine sx_condF rfl ?_
 refine sx_skip ?_
 refine q_n (k2 _ _ ?_)
 refine sx_seq fun K18 k18 => ?_
 refine sx_seq fun K19 k19 => sx_region ?_
 refine mv rfl rfl (sp rfl (px_len rfl Tryz.underlying23 hva0) ?_)
 refine mv rfl rfl (wl_nil (q_n (k19 _ _ ?_)))
 refine sx_block ?_
 refine sx_loop (fun mm aa w' => ∃ (k : Nat), Agr 35 [(22, va), (23, .int .i64 ↑zs.length), (24, .int .i64 ↑k)] aa ∧ Chg 0 0 w w' ∧ (mm = zs.length - k) ∧ (k ≤ zs.length) ∧ (∀ i, i < k → 0 ≤ zs.getD i 0 ∧ zs.getD i 0 < 1000000000)) (_) (fun a ha => ⟨0, ha.sub (Sub.c 22 rfl (.c 23 (look_int (t := 23) rfl (by first | omega | simp)) (.c 24 (look_int (t := 24) rfl (by first | omega | simp)) .nil))), Chg.refl _ _ _, rfl, by omega, fun i h => by omega⟩) ?_
 rintro mm aa wl20 ⟨k, hAwl20, cwl20, hm, hk, hall⟩
 refine (show cw Tryz.prog 35 _ _ _ wl20 from ?_) aa hAwl20
 clear hAwl20
 have zwl20 := cwl20.size
 refine sx_seq fun K21 k21 => sx_region ?_
 refine sp rfl (px_lt rfl rfl) ?_
 refine wl_nil (q_n (k21 _ _ ?_))
 refine sx_seq fun K22 k22 => ?_
 refine sx_condP rfl (fun h16 => ?_) (fun h16 => ?_)
 ·
  refine sx_skip ?_
  refine q_n (k22 _ _ ?_)
  refine sx_seq fun K23 k23 => ?_
  refine sx_block ?_
  refine sx_seq fun K24 k24 => sx_region ?_
  have f25 := hva0.ext cwl20
  refine sp rfl (px_index1 (j := k) rfl rfl (by omega) Tryz.underlying23 Tryz.sizeOf3 f25 (by omega)) ?_
  refine sp rfl (px_load rfl (f25.load1 (at_int (by omega)) Tryz.isAgg3)) ?_
  refine av rfl rfl (wl_nil (q_n (k24 _ _ ?_)))
  refine sx_seq fun K26 k26 => sx_region ?_
  refine mv rfl rfl (sp rfl (px_lt rfl rfl) ?_)
  refine mv rfl rfl ?_
  refine sx_tmpP (t := 30) rfl (fun h17 => ?_) (fun h17 => ?_)
  ·
   refine sx_guardF rfl rfl rfl rfl rfl rfl ?_
   refine sx_guardF rfl rfl rfl rfl rfl rfl ?_
   refine sp rfl (px_pick rfl rfl) ?_
   refine wl_nil (q_n (k26 _ _ ?_))
   refine sx_condT rfl ?_
   refine sx_seq fun K27 k27 => sx_region ?_
   refine av rfl rfl (wl_nil (q_n (k27 _ _ ?_)))
   refine sx_retc ?_
   refine q_br (q_r (q_r (q_br (q_r (sx_ret1 Tryz.results104 rfl ?_)))))
   exact ⟨bFalse (fun h => by have h1 := h.1.getD k; omega), cwl20⟩
  refine sx_guardT rfl rfl rfl ?_
  refine mv rfl rfl ?_
  refine sx_guardT rfl rfl rfl ?_
  refine sp rfl (px_ge rfl rfl) ?_
  refine sp rfl (px_pick rfl rfl) ?_
  refine wl_nil (q_n (k26 _ _ ?_))
  refine sx_condP rfl (fun h17x1 => ?_) (fun h17x1 => ?_)
  ·
   refine sx_seq fun K28 k28 => sx_region ?_
   refine av rfl rfl (wl_nil (q_n (k28 _ _ ?_)))
   refine sx_retc ?_
   refine q_br (q_r (q_r (q_br (q_r (sx_ret1 Tryz.results104 rfl ?_)))))
   exact ⟨bFalse (fun h => by have h1 := h.1.getD k; omega), cwl20⟩
  refine sx_skip ?_
  refine q_bn (q_n (k23 _ _ ?_))
  refine sx_region ?_
  refine sp rfl (px_add rfl rfl (by omega)) ?_
  refine mv rfl rfl (wl_nil ?_)
  exact fun a ha => ⟨_, by omega, (k + 1), ha.sub (Sub.c 22 rfl (.c 23 rfl (.c 24 (look_int (t := 24) rfl (by first | omega | simp)) .nil))), cwl20, rfl, by omega, lm_succ hall (by omega)⟩
 refine sx_exit ?_
 refine q_e (q_e (q_bx (q_n (k18 _ _ ?_))))
 refine sx_seq fun K29 k29 => sx_region ?_
 refine av rfl rfl (wl_nil (q_n (k29 _ _ ?_)))
 refine sx_retc ?_
 refine sx_ret1 Tryz.results104 rfl ?_
 have ek : k = zs.length := by omega
 have hz : Lm zs := lm_mem (by rw [← ek]; exact hall)
 exact ⟨bTrue (NOk_mk hz (by omega) (by first | exact .inl (by omega) | exact .inr (by assumption))), cwl20⟩

theorem c_iIntOk {w : World} {n1 : Bool} {v1 : Value} {lv1 uv1 : Nat} {z1 : List Int} (hv1 : Sl w lv1 uv1 v1 (z1)) (h63 : z1.length ≤ 4611686018427387904) :
  Ret Tryz.prog 70 [.agg #[.bool n1, v1]] w fun v w' => v = .bool (decide (IOk n1 z1)) ∧ Chg 0 0 w w' := by
 have hv10 := hv1.fit
 refine sx_enter Tryz.func70 rfl Tryz.ntmps70 (nbl rfl) ?_
 refine sx_seq fun K1 k1 => sx_region ?_
 refine sx_box [.bool n1, v1] rfl rfl rfl (fun b2 w3 eb2 sb2 fb2 cb2 => ?_)
 have zw3 := cb2.size
 refine av rfl rfl (wl_nil (q_n (k1 _ _ ?_)))
 refine sx_seq fun K4 k4 => sx_region ?_
 refine sp rfl (px_field rfl xfld25x1) ?_
 refine sp rfl (px_load rfl (fb2.load1 rfl Tryz.isAgg23)) ?_
 have f5 := hv10.ext cb2
 refine sx_call rfl rfl Tryz.call104 (c_iNatOk f5 (by omega)) (fun v6 w6 p6 => ?_)
 obtain ⟨rfl, c6⟩ := p6
 have zw6 := c6.size
 refine mv rfl rfl ?_
 refine sx_tmpP (t := 6) rfl (fun h10 => ?_) (fun h10 => ?_)
 ·
  refine sx_guardT rfl rfl rfl ?_
  refine sp rfl (px_field rfl xfld25x0) ?_
  refine sx_guardT rfl rfl rfl ?_
  have f7 := fb2.ext c6
  refine sp rfl (px_load rfl (f7.load1 rfl Tryz.isAgg4)) ?_
  refine sx_guardT rfl rfl rfl ?_
  refine sp rfl (px_not rfl) ?_
  refine sx_guardT rfl rfl rfl ?_
  refine mv rfl rfl ?_
  refine sx_tmpB (t := 10) rfl (fun h10x1 => ?_) (fun h10x1 => ?_)
  ·
   refine sx_guardF rfl rfl rfl rfl rfl rfl ?_
   refine sx_guardF rfl rfl rfl rfl rfl rfl ?_
   refine sx_guardF rfl rfl rfl rfl rfl rfl ?_
   refine sx_guardF rfl rfl rfl rfl rfl rfl ?_
   refine sx_guardT rfl rfl rfl ?_
   refine sp rfl (px_pick rfl rfl) ?_
   refine sp rfl (px_pick rfl rfl) ?_
   refine av rfl rfl (wl_nil (q_n (k4 _ _ ?_)))
   refine sx_sub (Sub.c 2 rfl .nil) ?_
   refine sx_retc ?_
   refine sx_ret1 Tryz.results70 rfl ?_
   exact ⟨(by first | exact bTrue (by grind [IOk]) | exact bFalse (by grind [IOk]) | exact bIff (by grind [IOk])), (cb2.t c6)⟩
  refine sx_guardT rfl rfl rfl ?_
  refine sp rfl (px_field rfl xfld25x1) ?_
  refine sx_guardT rfl rfl rfl ?_
  refine sp rfl (px_load rfl (f7.load1 rfl Tryz.isAgg23)) ?_
  refine sx_guardT rfl rfl rfl ?_
  have f8 := f5.ext c6
  refine sp rfl (px_len rfl Tryz.underlying23 f8) ?_
  refine sx_guardT rfl rfl rfl ?_
  refine sp rfl (px_gt rfl rfl) ?_
  refine sx_guardT rfl rfl rfl ?_
  refine sp rfl (px_pick rfl rfl) ?_
  refine sp rfl (px_pick rfl rfl) ?_
  refine av rfl rfl (wl_nil (q_n (k4 _ _ ?_)))
  refine sx_sub (Sub.c 2 rfl .nil) ?_
  refine sx_retc ?_
  refine sx_ret1 Tryz.results70 rfl ?_
  exact ⟨(by first | exact bTrue (by grind [IOk]) | exact bFalse (by grind [IOk]) | exact bIff (by grind [IOk])), (cb2.t c6)⟩
 refine sx_guardF rfl rfl rfl rfl rfl rfl ?_
 refine sx_guardF rfl rfl rfl rfl rfl rfl ?_
 refine sx_guardF rfl rfl rfl rfl rfl rfl ?_
 refine sx_guardF rfl rfl rfl rfl rfl rfl ?_
 refine sx_guardFU rfl rfl rfl rfl rfl ?_
 refine sx_guardFU rfl rfl rfl rfl rfl ?_
 refine sx_guardFU rfl rfl rfl rfl rfl ?_
 refine sx_guardFU rfl rfl rfl rfl rfl ?_
 refine sx_guardF rfl rfl rfl rfl rfl rfl ?_
 refine sp rfl (px_pick rfl rfl) ?_
 refine av rfl rfl (wl_nil (q_n (k4 _ _ ?_)))
 refine sx_sub (Sub.c 2 rfl .nil) ?_
 refine sx_retc ?_
 refine sx_ret1 Tryz.results70 rfl ?_
 exact ⟨(by first | exact bTrue (by grind [IOk]) | exact bFalse (by grind [IOk]) | exact bIff (by grind [IOk])), (cb2.t c6)⟩

theorem c_isScale {w : World} {p : Int} :
  Ret Tryz.prog 37 [.int .i64 p] w fun v w' => v = .bool (decide (0 ≤ p ∧ p ≤ 30)) ∧ Chg 0 0 w w' := by
 refine sx_enter Tryz.func37 rfl Tryz.ntmps37 (nbl rfl) ?_
 refine sx_seq fun K1 k1 => sx_region ?_
 refine av rfl rfl (wl_nil (q_n (k1 _ _ ?_)))
 refine sx_seq fun K2 k2 => sx_region ?_
 refine mv rfl rfl (sp rfl (px_ge rfl rfl) ?_)
 refine mv rfl rfl ?_
 refine sx_tmpP (t := 5) rfl (fun h15 => ?_) (fun h15 => ?_)
 ·
  refine sx_guardT rfl rfl rfl ?_
  refine mv rfl rfl ?_
  refine sx_guardT rfl rfl rfl ?_
  refine sp rfl (px_le rfl rfl) ?_
  refine sp rfl (px_pick rfl rfl) ?_
  refine av rfl rfl (wl_nil (q_n (k2 _ _ ?_)))
  refine sx_retc ?_
  refine sx_ret1 Tryz.results37 rfl ?_
  exact ⟨(by first | exact bTrue (by grind) | exact bFalse (by grind) | exact bIff (by grind)), (Chg.refl 0 0 _)⟩
 refine sx_guardF rfl rfl rfl rfl rfl rfl ?_
 refine sx_guardF rfl rfl rfl rfl rfl rfl ?_
 refine sp rfl (px_pick rfl rfl) ?_
 refine av rfl rfl (wl_nil (q_n (k2 _ _ ?_)))
 refine sx_retc ?_
 refine sx_ret1 Tryz.results37 rfl ?_
 exact ⟨(by first | exact bTrue (by grind) | exact bFalse (by grind) | exact bIff (by grind)), (Chg.refl 0 0 _)⟩

theorem c_iDecOk {w : World} {n1 : Bool} {v1 : Value} {lv1 uv1 : Nat} {z1 : List Int} {p1 : Int} (hv1 : Sl w lv1 uv1 v1 (z1)) (h63 : z1.length ≤ 4611686018427387904) :
  Ret Tryz.prog 34 [.agg #[.bool n1, v1, .int .i64 p1]] w fun v w' => v = .bool (decide (DOk n1 z1 p1)) ∧ Chg 0 0 w w' := by
 have hv10 := hv1.fit
 refine sx_enter Tryz.func34 rfl Tryz.ntmps34 (nbl rfl) ?_
 refine sx_seq fun K1 k1 => sx_region ?_
 refine sx_box [.bool n1, v1, .int .i64 p1] rfl rfl rfl (fun b2 w3 eb2 sb2 fb2 cb2 => ?_)
 have zw3 := cb2.size
 refine av rfl rfl (wl_nil (q_n (k1 _ _ ?_)))
 refine sx_seq fun K4 k4 => sx_region ?_
 refine sp rfl (px_field rfl xfld27x0) ?_
 refine sp rfl (px_load rfl (fb2.loadA (vs := [.bool n1, v1]) (look_lit rfl) Tryz.isAgg25 Tryz.sizeOf25)) ?_
 have f5 := hv10.ext cb2
 refine sx_call rfl rfl Tryz.call70 (c_iIntOk f5 (by omega)) (fun v6 w6 p6 => ?_)
 obtain ⟨rfl, c6⟩ := p6
 have zw6 := c6.size
 refine mv rfl rfl ?_
 refine sx_tmpP (t := 6) rfl (fun h18 => ?_) (fun h18 => ?_)
 ·
  refine sx_guardT rfl rfl rfl ?_
  refine sp rfl (px_field rfl xfld27x0) ?_
  refine sx_guardT rfl rfl rfl ?_
  refine sp rfl (px_field rfl xfld25x1) ?_
  refine sx_guardT rfl rfl rfl ?_
  have f7 := fb2.ext c6
  refine sp rfl (px_load rfl (f7.load1 rfl Tryz.isAgg23)) ?_
  refine sx_guardT rfl rfl rfl ?_
  have f8 := f5.ext c6
  refine sp rfl (px_len rfl Tryz.underlying23 f8) ?_
  refine sx_guardT rfl rfl rfl ?_
  refine sp rfl (px_le rfl rfl) ?_
  refine sp rfl (px_pick rfl rfl) ?_
  refine mv rfl rfl ?_
  refine sx_tmpP (t := 13) rfl (fun h18x1 => ?_) (fun h18x1 => ?_)
  ·
   refine sx_guardT rfl rfl rfl ?_
   refine sp rfl (px_field rfl xfld27x1) ?_
   refine sx_guardT rfl rfl rfl ?_
   refine sp rfl (px_load rfl (f7.load1 rfl Tryz.isAgg3)) ?_
   refine sx_guardT rfl rfl rfl ?_
   refine sx_call rfl rfl Tryz.call37 (c_isScale) (fun v9 w9 p9 => ?_)
   obtain ⟨rfl, c9⟩ := p9
   have zw9 := c9.size
   refine sp rfl (px_pick rfl rfl) ?_
   refine av rfl rfl (wl_nil (q_n (k4 _ _ ?_)))
   refine sx_sub (Sub.c 2 rfl .nil) ?_
   refine sx_retc ?_
   refine sx_ret1 Tryz.results34 rfl ?_
   exact ⟨(by first | exact bTrue (by grind [DOk]) | exact bFalse (by grind [DOk]) | exact bIff (by grind [DOk])), ((cb2.t c6).t c9)⟩
  refine sx_guardF rfl rfl rfl rfl rfl rfl ?_
  refine sx_guardF rfl rfl rfl rfl rfl rfl ?_
  refine sx_guardF rfl rfl rfl rfl rfl rfl ?_
  refine sp rfl (px_pick rfl rfl) ?_
  refine av rfl rfl (wl_nil (q_n (k4 _ _ ?_)))
  refine sx_sub (Sub.c 2 rfl .nil) ?_
  refine sx_retc ?_
  refine sx_ret1 Tryz.results34 rfl ?_
  exact ⟨(by first | exact bTrue (by grind [DOk]) | exact bFalse (by grind [DOk]) | exact bIff (by grind [DOk])), (cb2.t c6)⟩
 refine sx_guardF rfl rfl rfl rfl rfl rfl ?_
 refine sx_guardF rfl rfl rfl rfl rfl rfl ?_
 refine sx_guardF rfl rfl rfl rfl rfl rfl ?_
 refine sx_guardF rfl rfl rfl rfl rfl rfl ?_
 refine sx_guardF rfl rfl rfl rfl rfl rfl ?_
 refine sp rfl (px_pick rfl rfl) ?_
 refine mv rfl rfl ?_
 refine sx_guardF rfl rfl rfl rfl rfl rfl ?_
 refine sx_guardF rfl rfl rfl rfl rfl rfl ?_
 refine sx_guardF rfl rfl rfl rfl rfl rfl ?_
 refine sp rfl (px_pick rfl rfl) ?_
 refine av rfl rfl (wl_nil (q_n (k4 _ _ ?_)))
 refine sx_sub (Sub.c 2 rfl .nil) ?_
 refine sx_retc ?_
 refine sx_ret1 Tryz.results34 rfl ?_
 exact ⟨(by first | exact bTrue (by grind [DOk]) | exact bFalse (by grind [DOk]) | exact bIff (by grind [DOk])), (cb2.t c6)⟩

theorem c_Itoa {w : World} {n : Int} (hGT : GlobP w) (hn : 0 ≤ n ∧ n < 1000000000) :
  Ret Tryz.prog 108 [.int .i64 n] w fun v w' => v = .string (itx n) ∧ Chg 0 0 w w' := by
 have h := Any.strconv_Itoa lays171 n (by omega) (by omega) w hGT.tab
 exact Calls.mono h fun e w' ⟨he, k, os, hw⟩ => ⟨_, he, rfl, hw ▸ ⟨rfl, rfl, rfl, by simp [Go.Sort.grow, World.drewN], fun i hi _ => Go.Sort.heap_grow_old _ _ (by simpa [World.drewN] using hi)⟩⟩

theorem c_iIntText {w : World} {n : Int} (hGT : GlobP w) (hn : 0 ≤ n ∧ n < 1000000000) :
  Ret Tryz.prog 72 [.int .i64 n] w fun v w' => v = .string (itx n) ∧ Chg 0 0 w w' := by
 have hGTl := hGT.lt
 refine sx_enter Tryz.func72 rfl Tryz.ntmps72 (nbl rfl) ?_
 refine sx_seq fun K1 k1 => sx_region ?_
 refine av rfl rfl (wl_nil (q_n (k1 _ _ ?_)))
 refine sx_seq fun K2 k2 => sx_region ?_
 refine mv rfl rfl (sx_call rfl rfl Tryz.call108 (c_Itoa hGT (by omega)) (fun v3 w3 p3 => ?_))
 obtain ⟨rfl, c3⟩ := p3
 have zw3 := c3.size
 refine av rfl rfl (wl_nil (q_n (k2 _ _ ?_)))
 refine sx_retc ?_
 refine sx_ret1 Tryz.results72 rfl ?_
 exact ⟨rfl, c3⟩

theorem c_Repeat {w : World} {s : ByteArray} {k : Int} (hs : s = ⟨#[48]⟩) (hk : 0 ≤ k ∧ k ≤ 100000) :
  Ret Tryz.prog 71 [.string s, .int .i64 k] w fun v w' => v = .string (zer (k).toNat) ∧ Chg 0 0 w w' := by
 subst hs; have e0 : ((k.toNat : Nat) : Int) = k := by omega
 have h := Any.strings_Repeat lays105 extraB ⟨#[48]⟩ k.toNat w (by omega) (by show 1 * k.toNat ≤ _; omega); rw [e0] at h
 exact Calls.mono h fun e w' ⟨he, hb⟩ => ⟨_, he, rfl, hb.os, hb.tape, hb.output, hb.size, fun i hi _ => hb.block i hi⟩

theorem c_iPad {w : World} {s : ByteArray} {n : Int} (hs : s.size ≤ 100000) (hn : 0 ≤ n ∧ n ≤ 100000) :
  Ret Tryz.prog 35 [.string s, .int .i64 n] w fun v w' => v = .string (padT s n) ∧ Chg 0 0 w w' := by
 refine sx_enter Tryz.func35 rfl Tryz.ntmps35 (nbl rfl) ?_
 refine sx_seq fun K1 k1 => sx_region ?_
 refine av rfl rfl (wl_nil (q_n (k1 _ _ ?_)))
 refine sx_seq fun K2 k2 => ?_
 refine sx_seq fun K3 k3 => sx_region ?_
 refine mv rfl rfl (sp rfl (px_lenS rfl Tryz.underlying9) ?_)
 refine mv rfl rfl (sp rfl (px_ge rfl rfl) ?_)
 refine mv rfl rfl ?_
 refine sx_tmpP (t := 9) rfl (fun h95 => ?_) (fun h95 => ?_)
 ·
  refine sx_guardF rfl rfl rfl rfl rfl rfl ?_
  refine sx_guardF rfl rfl rfl rfl rfl rfl ?_
  refine sp rfl (px_pick rfl rfl) ?_
  refine wl_nil (q_n (k3 _ _ ?_))
  refine sx_condT rfl ?_
  refine sx_seq fun K4 k4 => sx_region ?_
  refine mv rfl rfl (av rfl rfl (wl_nil (q_n (k4 _ _ ?_))))
  refine sx_retc ?_
  refine q_r (sx_ret1 Tryz.results35 rfl ?_)
  rw [padT_no (by omega)]
  exact ⟨rfl, (Chg.refl 0 0 _)⟩
 refine sx_guardT rfl rfl rfl ?_
 refine mv rfl rfl ?_
 refine sx_guardT rfl rfl rfl ?_
 refine sp rfl (px_gt rfl rfl) ?_
 refine sp rfl (px_pick rfl rfl) ?_
 refine wl_nil (q_n (k3 _ _ ?_))
 refine sx_condP rfl (fun h95x1 => ?_) (fun h95x1 => ?_)
 ·
  refine sx_seq fun K5 k5 => sx_region ?_
  refine mv rfl rfl (av rfl rfl (wl_nil (q_n (k5 _ _ ?_))))
  refine sx_retc ?_
  refine q_r (sx_ret1 Tryz.results35 rfl ?_)
  rw [padT_no (by omega)]
  exact ⟨rfl, (Chg.refl 0 0 _)⟩
 refine sx_skip ?_
 refine q_n (k2 _ _ ?_)
 refine sx_seq fun K6 k6 => sx_region ?_
 refine mv rfl rfl (mv rfl rfl (sp rfl (px_lenS rfl Tryz.underlying9) ?_))
 refine sp rfl (px_sub rfl rfl (by omega)) ?_
 refine sx_call rfl rfl Tryz.call71 (c_Repeat (rfl) (by omega)) (fun v7 w7 p7 => ?_)
 obtain ⟨rfl, c7⟩ := p7
 have zw7 := c7.size
 refine mv rfl rfl (sp rfl (px_cat rfl rfl (by rw [zer_size]; omega)) ?_)
 refine av rfl rfl (wl_nil (q_n (k6 _ _ ?_)))
 refine sx_sub (Sub.c 4 rfl .nil) ?_
 refine sx_retc ?_
 refine sx_ret1 Tryz.results35 rfl ?_
 rw [padT_yes (by omega)]
 exact ⟨rfl, c7⟩

theorem c_natText {w : World} {va : Value} {lva uva : Nat} {zs : List Int} (hGT : GlobP w) (hva : Sl w lva uva va (zs)) (hz : Lm zs) (hl : zs.length ≤ 60) :
  Ret Tryz.prog 36 [va] w fun v w' => v = .string (natT zs) ∧ Chg 0 0 w w' := by
 have hGTl := hGT.lt
 have hva0 := hva.fit
 refine sx_enter Tryz.func36 rfl Tryz.ntmps36 (nbl rfl) ?_
 refine sx_seq fun K1 k1 => sx_region ?_
 refine av rfl rfl (wl_nil (q_n (k1 _ _ ?_)))
 refine sx_seq fun K2 k2 => ?_
 refine sx_seq fun K3 k3 => sx_region ?_
 refine mv rfl rfl (sp rfl (px_len rfl Tryz.underlying23 hva0) ?_)
 refine sp rfl (px_eq rfl rfl) ?_
 refine wl_nil (q_n (k3 _ _ ?_))
 refine sx_condP rfl (fun h182 => ?_) (fun h182 => ?_)
 ·
  refine sx_seq fun K4 k4 => sx_region ?_
  refine av rfl rfl (wl_nil (q_n (k4 _ _ ?_)))
  refine sx_retc ?_
  refine q_r (sx_ret1 Tryz.results36 rfl ?_)
  have e : natT zs = ⟨#[48]⟩ := by unfold natT; rw [if_pos (by omega)]
  exact ⟨congrArg Value.string e.symm, (Chg.refl 0 0 _)⟩
 refine sx_skip ?_
 refine q_n (k2 _ _ ?_)
 refine sx_seq fun K5 k5 => sx_region ?_
 refine mv rfl rfl (mv rfl rfl (sp rfl (px_len rfl Tryz.underlying23 hva0) ?_))
 refine sp rfl (px_sub rfl rfl (by omega)) ?_
 refine sp rfl (px_index1 (j := (zs.length - 1)) rfl rfl (by omega) Tryz.underlying23 Tryz.sizeOf3 hva0 (by omega)) ?_
 refine sp rfl (px_load rfl (hva0.load1 (at_int (by omega)) Tryz.isAgg3)) ?_
 refine sx_call rfl rfl Tryz.call72 (c_iIntText hGT (by have hb := hz.getD (zs.length - 1); omega)) (fun v6 w6 p6 => ?_)
 obtain ⟨rfl, c6⟩ := p6
 have zw6 := c6.size
 refine av rfl rfl (wl_nil (q_n (k5 _ _ ?_)))
 refine sx_seq fun K7 k7 => ?_
 refine sx_seq fun K8 k8 => sx_region ?_
 refine mv rfl rfl ?_
 have f9 := hva0.ext c6
 refine sp rfl (px_len rfl Tryz.underlying23 f9) ?_
 refine sp rfl (px_sub rfl rfl (by omega)) ?_
 refine av rfl rfl (wl_nil (q_n (k8 _ _ ?_)))
 refine sx_sub (Sub.c 0 rfl (.c 2 rfl (.c 3 rfl (.c 4 rfl .nil)))) ?_
 refine sx_block ?_
 refine sx_loop (fun mm aa w' => ∃ (k : Nat) (t : ByteArray), Agr 31 [(0, va), (3, .string t), (4, .int .i64 (↑k - 1))] aa ∧ Chg 0 0 w6 w' ∧ (mm = k) ∧ (k < zs.length) ∧ (natGo zs k t = natT zs) ∧ (t.size + 9 * k ≤ 1000)) (_) (fun a ha => ⟨(zs.length - 1), (itx ((zs).getD (zs.length - 1) 0)), ha.sub (Sub.c 0 rfl (.c 3 rfl (.c 4 (look_int (t := 4) rfl (by first | omega | simp)) .nil))), Chg.refl _ _ _, rfl, by omega, by unfold natT; rw [if_neg (by omega)], by have hb := hz.getD (zs.length - 1); have h1 := itx_size hb.1 hb.2; omega⟩) ?_
 rintro mm aa wl10 ⟨k, t, hAwl10, cwl10, hm, hk, ht, hts⟩
 refine (show cw Tryz.prog 31 _ _ _ wl10 from ?_) aa hAwl10
 clear hAwl10
 have zwl10 := cwl10.size
 have hb := hz.getD (k - 1)
 have h1 := itx_size hb.1 hb.2
 have h2 := padT_size (s := itx (zs.getD (k - 1) 0)) (n := 9) (by decide)
 refine sx_seq fun K11 k11 => ?_
 refine sx_seq fun K12 k12 => sx_region ?_
 refine mv rfl rfl (sp rfl (px_ge rfl rfl) ?_)
 refine wl_nil (q_n (k12 _ _ ?_))
 refine sx_condP rfl (fun h186 => ?_) (fun h186 => ?_)
 ·
  refine sx_skip ?_
  refine q_n (k11 _ _ ?_)
  refine sx_seq fun K13 k13 => ?_
  refine sx_block ?_
  refine sx_region ?_
  refine mv rfl rfl (mv rfl rfl (mv rfl rfl ?_))
  have f14 := f9.ext cwl10
  refine sp rfl (px_index1 (j := (k - 1)) rfl rfl (by omega) Tryz.underlying23 Tryz.sizeOf3 f14 (by omega)) ?_
  refine sp rfl (px_load rfl (f14.load1 (at_int (by omega)) Tryz.isAgg3)) ?_
  have f16 := (hGT.ext c6).ext cwl10
  refine sx_call rfl rfl Tryz.call72 (c_iIntText f16 (by omega)) (fun v17 w17 p17 => ?_)
  obtain ⟨rfl, c17⟩ := p17
  have zw17 := c17.size
  refine sx_call rfl rfl Tryz.call35 (c_iPad (by omega) (by omega)) (fun v18 w18 p18 => ?_)
  obtain ⟨rfl, c18⟩ := p18
  have zw18 := c18.size
  refine sp rfl (px_cat rfl rfl (by omega)) ?_
  refine av rfl rfl (wl_nil ?_)
  refine q_bn (q_n (k13 _ _ ?_))
  refine sx_region ?_
  refine mv rfl rfl (sp rfl (px_sub rfl rfl (by omega)) ?_)
  refine av rfl rfl (wl_nil ?_)
  exact fun a ha => ⟨_, by omega, (k - 1), (t ++ (padT (itx ((zs).getD (k - 1) 0)) (9 : Int))), ha.sub (Sub.c 0 rfl (.c 3 rfl (.c 4 (look_int (t := 4) rfl (by first | omega | simp)) .nil))), ((cwl10.t c17).t c18), rfl, by omega, (natGo_step (by omega)).symm.trans ht, by rw [ByteArray.size_append]; omega⟩
 refine sx_exit ?_
 refine q_e (q_e (q_bx (q_n (k7 _ _ ?_))))
 refine sx_seq fun K19 k19 => sx_region ?_
 refine mv rfl rfl (av rfl rfl (wl_nil (q_n (k19 _ _ ?_))))
 refine sx_retc ?_
 refine sx_ret1 Tryz.results36 rfl ?_
 have ek : k = 0 := by omega
 subst ek
 exact ⟨congrArg Value.string (show t = natT zs from ht), (c6.t cwl10)⟩

theorem c_iDecText {w : World} {n1 : Bool} {v1 : Value} {lv1 uv1 : Nat} {z1 : List Int} {p1 : Int} (hGT : GlobP w) (hv1 : Sl w lv1 uv1 v1 (z1)) (h63 : z1.length ≤ 4611686018427387904) :
  Ret Tryz.prog 7 [.agg #[.bool n1, v1, .int .i64 p1]] w fun v w' => v = .string (decT n1 z1 p1) ∧ ((decT n1 z1 p1).size ≤ 200) ∧ Chg 0 0 w w' := by
 have hGTl := hGT.lt
 have hv10 := hv1.fit
 refine sx_enter Tryz.func7 rfl Tryz.ntmps7 (nbl rfl) ?_
 refine sx_seq fun K1 k1 => sx_region ?_
 refine sx_box [.bool n1, v1, .int .i64 p1] rfl rfl rfl (fun b2 w3 eb2 sb2 fb2 cb2 => ?_)
 have zw3 := cb2.size
 refine av rfl rfl (wl_nil (q_n (k1 _ _ ?_)))
 refine sx_seq fun K4 k4 => ?_
 refine sx_seq fun K5 k5 => sx_region ?_
 refine sp rfl (px_load rfl (fb2.loadA (vs := [.bool n1, v1, .int .i64 p1]) (look_lit rfl) Tryz.isAgg27 Tryz.sizeOf27)) ?_
 have f6 := hv10.ext cb2
 refine sx_call rfl rfl Tryz.call34 (c_iDecOk f6 (by omega)) (fun v7 w7 p7 => ?_)
 obtain ⟨rfl, c7⟩ := p7
 have zw7 := c7.size
 refine sp rfl (px_notP rfl) ?_
 refine wl_nil (q_n (k5 _ _ ?_))
 refine sx_condP rfl (fun h39 => ?_) (fun h39 => ?_)
 ·
  refine sx_seq fun K8 k8 => sx_region ?_
  refine av rfl rfl (wl_nil (q_n (k8 _ _ ?_)))
  refine sx_retc ?_
  refine q_r (sx_ret1 Tryz.results7 rfl ?_)
  rw [decT_no h39]
  exact ⟨rfl, by decide, (cb2.t c7)⟩
 have hD := Decidable.not_not.1 h39
 have hz := hD.1.1.1
 have hl6 := hD.2.1
 have hp30 := hD.2.2
 have hns := natT_size hz
 have hps := padT_size (s := natT z1) (n := p1 + 1) (by omega)
 refine sx_skip ?_
 refine q_n (k4 _ _ ?_)
 refine sx_seq fun K9 k9 => ?_
 have f10 := hGT.ext cb2
 have f12 := fb2.ext c7
 refine dx_region (fun w' => Chg 0 0 w7 w') (by kernel_rfl) (Chg.zero (Chg.drew _)) ?_
 have d14 := Chg.drew w7
 have s14 : Chg 0 0 w7 (World.drew w7) := Chg.zero (Chg.drew _)
 have y14 : (World.drew w7).heap.size = w7.heap.size := rfl
 generalize World.drew w7 = w14 at *
 have zw14 := d14.size
 refine dt 0 rfl rfl rfl rfl s14 (fun _ hS => px_field rfl xfld27x0) ?_
 refine dt 1 rfl rfl rfl rfl s14 (fun _ hS => px_field rfl xfld25x1) ?_
 refine dt 2 rfl rfl rfl rfl s14 (fun _ hS => px_load rfl ((f12.chg hS (by omega)).load1 rfl Tryz.isAgg23)) ?_
 refine dt 4 rfl rfl rfl rfl s14 (fun _ hS => px_field rfl xfld27x1) ?_
 refine dt 5 rfl rfl rfl rfl s14 (fun _ hS => px_load rfl ((f12.chg hS (by omega)).load1 rfl Tryz.isAgg3)) ?_
 refine dt 6 rfl rfl rfl rfl s14 (fun _ hS => px_add rfl rfl (by omega)) ?_
 refine dx_eff 3 rfl (by kernel_rfl) ?_
 have f15 := (f10.ext c7).ext d14
 have f16 := (f6.ext c7).ext d14
 refine sx_call rfl rfl Tryz.call36 (c_natText f15 f16 (by omega) (by omega)) (fun v17 w17 p17 => ?_)
 obtain ⟨rfl, c17⟩ := p17
 have zw17 := c17.size
 have s18 : Chg 0 0 w7 w17 := (d14.t c17)
 refine wl_nil ?_
 refine dx_next s18 ?_
 refine dx_eff 7 rfl (by kernel_rfl) ?_
 refine sx_call rfl rfl Tryz.call35 (c_iPad (by omega) (by omega)) (fun v19 w19 p19 => ?_)
 obtain ⟨rfl, c19⟩ := p19
 have zw19 := c19.size
 have s20 : Chg 0 0 w7 w19 := ((d14.t c17).t c19)
 refine wl_nil ?_
 refine dx_next s20 ?_
 refine dt 8 rfl rfl rfl rfl s20 (fun _ hS => px_assign rfl) ?_
 refine dx_done (by kernel_rfl) ?_
 refine q_n (k9 _ _ ?_)
 refine sx_sub (Sub.c 1 rfl (.c 2 rfl (.c 3 rfl .nil))) ?_
 refine sx_seq fun K21 k21 => ?_
 refine sx_seq fun K22 k22 => sx_region ?_
 refine sp rfl (px_field rfl xfld27x1) ?_
 have f25 := ((f12.ext d14).ext c17).ext c19
 refine sp rfl (px_load rfl (f25.load1 rfl Tryz.isAgg3)) ?_
 refine sp rfl (px_gt rfl rfl) ?_
 refine wl_nil (q_n (k22 _ _ ?_))
 refine sx_condP rfl (fun h43 => ?_) (fun h43 => ?_)
 ·
  refine sx_seq fun K26 k26 => sx_region ?_
  refine mv rfl rfl (sp rfl (px_lenS rfl Tryz.underlying9) ?_)
  refine sp rfl (px_field rfl xfld27x1) ?_
  refine sp rfl (px_load rfl (f25.load1 rfl Tryz.isAgg3)) ?_
  refine sp rfl (px_sub rfl rfl (by omega)) ?_
  refine av rfl rfl (wl_nil (q_n (k26 _ _ ?_)))
  have f28 := (f15.ext c17).ext c19
  have f30 := (f16.ext c17).ext c19
  refine dx_region (fun w' => Chg 0 0 w19 w') (by kernel_rfl) (Chg.zero (Chg.drew _)) ?_
  have d31 := Chg.drew w19
  have s31 : Chg 0 0 w19 (World.drew w19) := Chg.zero (Chg.drew _)
  have y31 : (World.drew w19).heap.size = w19.heap.size := rfl
  generalize World.drew w19 = w31 at *
  have zw31 := d31.size
  refine dt 0 rfl rfl rfl rfl s31 (fun _ hS => px_move rfl) ?_
  refine dt 1 rfl rfl rfl rfl s31 (fun _ hS => px_move rfl) ?_
  refine dt 2 rfl rfl rfl rfl s31 (fun _ hS => px_strTo (h := ((padT (natT z1) (p1 + 1)).size - p1.toNat)) rfl rfl (by omega) Tryz.underlying9 (by omega)) ?_
  refine dt 3 rfl rfl rfl rfl s31 (fun _ hS => px_cat rfl rfl (by (have e45 : (⟨#[45]⟩ : ByteArray).size = 1 := rfl); (have e46 : (⟨#[46]⟩ : ByteArray).size = 1 := rfl); (try simp only [ByteArray.size_append, ByteArray.size_extract]); omega)) ?_
  refine dt 4 rfl rfl rfl rfl s31 (fun _ hS => px_move rfl) ?_
  refine dt 5 rfl rfl rfl rfl s31 (fun _ hS => px_move rfl) ?_
  refine dt 6 rfl rfl rfl rfl s31 (fun _ hS => px_strFrom (l := ((padT (natT z1) (p1 + 1)).size - p1.toNat)) rfl rfl (by omega) Tryz.underlying9 (by omega)) ?_
  refine dt 7 rfl rfl rfl rfl s31 (fun _ hS => px_cat rfl rfl (by (have e45 : (⟨#[45]⟩ : ByteArray).size = 1 := rfl); (have e46 : (⟨#[46]⟩ : ByteArray).size = 1 := rfl); (try simp only [ByteArray.size_append, ByteArray.size_extract]); omega)) ?_
  refine dt 8 rfl rfl rfl rfl s31 (fun _ hS => px_assign rfl) ?_
  refine dx_done (by kernel_rfl) ?_
  refine q_n (k21 _ _ ?_)
  refine sx_sub (Sub.c 1 rfl (.c 2 rfl (.c 3 rfl .nil))) ?_
  refine sx_seq fun K32 k32 => ?_
  refine sx_seq fun K33 k33 => sx_region ?_
  refine sp rfl (px_field rfl xfld27x0) ?_
  refine sp rfl (px_field rfl xfld25x0) ?_
  have f34 := f25.ext d31
  refine sp rfl (px_load rfl (f34.load1 rfl Tryz.isAgg4)) ?_
  refine wl_nil (q_n (k33 _ _ ?_))
  refine sx_condB rfl (fun h47 => ?_) (fun h47 => ?_)
  ·
   refine sx_region ?_
   refine mv rfl rfl (sp rfl (px_cat rfl rfl (by (have e45 : (⟨#[45]⟩ : ByteArray).size = 1 := rfl); (have e46 : (⟨#[46]⟩ : ByteArray).size = 1 := rfl); (try simp only [ByteArray.size_append, ByteArray.size_extract]); omega)) ?_)
   refine av rfl rfl (wl_nil (q_n (k32 _ _ ?_)))
   refine sx_seq fun K35 k35 => sx_region ?_
   refine mv rfl rfl (av rfl rfl (wl_nil (q_n (k35 _ _ ?_))))
   refine sx_retc ?_
   refine sx_ret1 Tryz.results7 rfl ?_
   have e : (⟨#[45]⟩) ++ ((((padT (natT z1) (p1 + 1)).extract 0 ((padT (natT z1) (p1 + 1)).size - p1.toNat)) ++ (⟨#[46]⟩)) ++ ((padT (natT z1) (p1 + 1)).extract ((padT (natT z1) (p1 + 1)).size - p1.toNat) (padT (natT z1) (p1 + 1)).size)) = decT n1 z1 p1 := by unfold decT sgT ptT; rw [if_pos hD]; simp [h43, h47]
   exact ⟨congrArg Value.string e, by rw [← e]; (try simp only [ByteArray.size_append, ByteArray.size_extract]); (try have e45 : (⟨#[45]⟩ : ByteArray).size = 1 := rfl); (try have e46 : (⟨#[46]⟩ : ByteArray).size = 1 := rfl); omega, (((((cb2.t c7).t d14).t c17).t c19).t d31)⟩
  refine sx_skip ?_
  refine q_n (k32 _ _ ?_)
  refine sx_seq fun K36 k36 => sx_region ?_
  refine mv rfl rfl (av rfl rfl (wl_nil (q_n (k36 _ _ ?_))))
  refine sx_retc ?_
  refine sx_ret1 Tryz.results7 rfl ?_
  have e : (((padT (natT z1) (p1 + 1)).extract 0 ((padT (natT z1) (p1 + 1)).size - p1.toNat)) ++ (⟨#[46]⟩)) ++ ((padT (natT z1) (p1 + 1)).extract ((padT (natT z1) (p1 + 1)).size - p1.toNat) (padT (natT z1) (p1 + 1)).size) = decT n1 z1 p1 := by unfold decT sgT ptT; rw [if_pos hD]; simp [h43, h47]
  exact ⟨congrArg Value.string e, by rw [← e]; (try simp only [ByteArray.size_append, ByteArray.size_extract]); (try have e45 : (⟨#[45]⟩ : ByteArray).size = 1 := rfl); (try have e46 : (⟨#[46]⟩ : ByteArray).size = 1 := rfl); omega, (((((cb2.t c7).t d14).t c17).t c19).t d31)⟩
 refine sx_skip ?_
 refine q_n (k21 _ _ ?_)
 refine sx_seq fun K37 k37 => ?_
 refine sx_seq fun K38 k38 => sx_region ?_
 refine sp rfl (px_field rfl xfld27x0) ?_
 refine sp rfl (px_field rfl xfld25x0) ?_
 refine sp rfl (px_load rfl (f25.load1 rfl Tryz.isAgg4)) ?_
 refine wl_nil (q_n (k38 _ _ ?_))
 refine sx_condB rfl (fun h47 => ?_) (fun h47 => ?_)
 ·
  refine sx_region ?_
  refine mv rfl rfl (sp rfl (px_cat rfl rfl (by (have e45 : (⟨#[45]⟩ : ByteArray).size = 1 := rfl); (have e46 : (⟨#[46]⟩ : ByteArray).size = 1 := rfl); (try simp only [ByteArray.size_append, ByteArray.size_extract]); omega)) ?_)
  refine av rfl rfl (wl_nil (q_n (k37 _ _ ?_)))
  refine sx_seq fun K39 k39 => sx_region ?_
  refine mv rfl rfl (av rfl rfl (wl_nil (q_n (k39 _ _ ?_))))
  refine sx_retc ?_
  refine sx_ret1 Tryz.results7 rfl ?_
  have e : (⟨#[45]⟩) ++ (padT (natT z1) (p1 + 1)) = decT n1 z1 p1 := by unfold decT sgT ptT; rw [if_pos hD]; simp [h43, h47]
  exact ⟨congrArg Value.string e, by rw [← e]; (try simp only [ByteArray.size_append, ByteArray.size_extract]); (try have e45 : (⟨#[45]⟩ : ByteArray).size = 1 := rfl); (try have e46 : (⟨#[46]⟩ : ByteArray).size = 1 := rfl); omega, ((((cb2.t c7).t d14).t c17).t c19)⟩
 refine sx_skip ?_
 refine q_n (k37 _ _ ?_)
 refine sx_seq fun K40 k40 => sx_region ?_
 refine mv rfl rfl (av rfl rfl (wl_nil (q_n (k40 _ _ ?_))))
 refine sx_retc ?_
 refine sx_ret1 Tryz.results7 rfl ?_
 have e : padT (natT z1) (p1 + 1) = decT n1 z1 p1 := by unfold decT sgT ptT; rw [if_pos hD]; simp [h43, h47]
 exact ⟨congrArg Value.string e, by rw [← e]; (try simp only [ByteArray.size_append, ByteArray.size_extract]); (try have e45 : (⟨#[45]⟩ : ByteArray).size = 1 := rfl); (try have e46 : (⟨#[46]⟩ : ByteArray).size = 1 := rfl); omega, ((((cb2.t c7).t d14).t c17).t c19)⟩

theorem c_IndexByte {w : World} {t : ByteArray} {c : Int} :
  Ret Tryz.prog 66 [.string t, .int .u8 c] w fun v w' => v = .int .i64 (Lib.indexByte (t).data.toList (c).toNat.toUInt8) ∧ Chg 0 0 w w' := by
 have h := Any.strings_IndexByte lays137 t c w
 exact Calls.mono h fun e w' ⟨he, hw⟩ => ⟨_, he, rfl, hw ▸ Chg.refl _ _ _⟩

theorem c_iCutAtP {w : World} {s : ByteArray} {bb : ByteArray} (hs : s.size ≤ 1048576) (hbb : bb = ⟨#[46]⟩) :
  Ret Tryz.prog 30 [.string s, .string bb] w fun v w' => ∃ x, v = x ∧ OwnS w' w.heap.size w'.heap.size x strT (cutT 46 s) ∧ Chg 0 0 w w' := by
 refine sx_enter Tryz.func30 rfl Tryz.ntmps30 (nbl rfl) ?_
 refine sx_seq fun K1 k1 => sx_region ?_
 refine av rfl rfl (wl_nil (q_n (k1 _ _ ?_)))
 refine sx_seq fun K2 k2 => sx_region ?_
 refine sx_lit0 rfl xelt65 (fun s3 ws3 ss3 fs3 cs3 => ?_)
 have zws3 := cs3.size
 refine av rfl rfl (wl_nil (q_n (k2 _ _ ?_)))
 refine sx_seq fun K4 k4 => sx_region ?_
 refine av rfl rfl (wl_nil (q_n (k4 _ _ ?_)))
 refine sx_seq fun K5 k5 => ?_
 refine sx_seq fun K6 k6 => sx_region ?_
 refine av rfl rfl (wl_nil (q_n (k6 _ _ ?_)))
 refine sx_block ?_
 refine sx_loop (fun mm aa w' => ∃ (s1 : Value) (os : List ByteArray) (k : Nat) (f : Nat), Agr 36 [(0, .string s), (1, .string bb), (5, s1), (6, .int .i64 ↑f), (7, .int .i64 ↑k)] aa ∧ Chg w.heap.size ws3.heap.size ws3 w' ∧ Own w' w.heap.size w'.heap.size s1 strT os.length 1 (os.map Value.string) ∧ (mm = s.size - k) ∧ (k ≤ s.size ∧ f ≤ k) ∧ (os = (cutGo 46 s k).1) ∧ (f = (cutGo 46 s k).2) ∧ (os.length ≤ k)) (_) (fun a ha => ⟨s3, [], 0, 0, ha.sub (Sub.c 0 rfl (.c 1 rfl (.c 5 rfl (.c 6 (look_int (t := 6) rfl (by first | omega | simp)) (.c 7 (look_int (t := 7) rfl (by first | omega | simp)) .nil))))), Chg.refl _ _ _, (fs3.mono (by omega) (by omega)), rfl, by omega, rfl, rfl, Nat.le_refl _⟩) ?_
 rintro mm aa wl7 ⟨s1, os, k, f, hAwl7, cwl7, hs_s1, hm, hk, hos, hf, hol⟩
 refine (show cw Tryz.prog 36 _ _ _ wl7 from ?_) aa hAwl7
 clear hAwl7
 have zwl7 := cwl7.size
 refine sx_seq fun K8 k8 => ?_
 refine sx_seq fun K9 k9 => sx_region ?_
 refine mv rfl rfl (mv rfl rfl (sp rfl (px_lenS rfl Tryz.underlying9) ?_))
 refine sp rfl (px_lt rfl rfl) ?_
 refine wl_nil (q_n (k9 _ _ ?_))
 refine sx_condP rfl (fun h72 => ?_) (fun h72 => ?_)
 ·
  refine sx_skip ?_
  refine q_n (k8 _ _ ?_)
  refine sx_seq fun K10 k10 => ?_
  refine sx_block ?_
  refine sx_seq fun K11 k11 => sx_region ?_
  refine mv rfl rfl (mv rfl rfl (mv rfl rfl (sp rfl (px_indexS (j := k) rfl rfl (by omega) Tryz.underlying9 (by omega)) ?_)))
  refine sx_call rfl rfl Tryz.call66 (c_IndexByte) (fun v12 w12 p12 => ?_)
  obtain ⟨rfl, c12⟩ := p12
  have zw12 := c12.size
  refine sp rfl (px_ge rfl rfl) ?_
  refine wl_nil (q_n (k11 _ _ ?_))
  refine sx_sub (Sub.c 0 rfl (.c 1 rfl (.c 5 rfl (.c 6 rfl (.c 7 rfl (.c 20 rfl .nil)))))) ?_
  refine sx_condP rfl (fun h73 => ?_) (fun h73 => ?_)
  ·
   have hc : strB s k = 46 := (idx_str hbb s k).1 h73
   refine sx_seq fun K13 k13 => sx_region ?_
   refine mv rfl rfl (mv rfl rfl (mv rfl rfl (mv rfl rfl (sp rfl (px_strMid (l := f) (h := k) rfl rfl rfl (by omega) (by omega) Tryz.underlying9 (by omega) (by omega)) ?_))))
   refine sx_lit1 rfl xelt65 rfl rfl (fun s14 ws14 ss14 fs14 cs14 => ?_)
   have ns14 := Own.norm (f := Value.string) (zs := [s.extract f k]) fs14
   have zws14 := cs14.size
   have f17 := (hs_s1.ext c12).ext cs14
   refine sx_append rfl xelt65 rfl rfl f17 ns14.sv one_str (by omega) (by simp only [List.length_cons, List.length_nil]; omega) (by unfold maxLen; simp only [List.length_cons, List.length_nil]; omega) (fun a15 w15 fw15 cw15 => ?_)
   have nw15 := Own.app (f := Value.string) (a := os) (b := [s.extract f k]) fw15
   have zw15 := cw15.size
   refine av rfl rfl (wl_nil (q_n (k13 _ _ ?_)))
   refine sx_region ?_
   refine mv rfl rfl (sp rfl (px_add rfl rfl (by omega)) ?_)
   refine av rfl rfl (wl_nil ?_)
   refine q_bn (q_n (k10 _ _ ?_))
   refine sx_sub (Sub.c 0 rfl (.c 1 rfl (.c 5 rfl (.c 6 rfl (.c 7 rfl .nil))))) ?_
   refine sx_region ?_
   refine mv rfl rfl (sp rfl (px_add rfl rfl (by omega)) ?_)
   refine av rfl rfl (wl_nil ?_)
   have q18 := Chg.step (l := w.heap.size) (h := ws3.heap.size) cwl7 (c12.t cs14) (by omega)
   have q19 := Chg.step (l := w.heap.size) (h := ws3.heap.size) q18 cw15 (by omega)
   exact fun a ha => ⟨_, by omega, a15, (os ++ ([s.extract f k])), (k + 1), (k + 1), ha.sub (Sub.c 0 rfl (.c 1 rfl (.c 5 rfl (.c 6 (look_int (t := 6) rfl (by first | omega | simp)) (.c 7 (look_int (t := 7) rfl (by first | omega | simp)) .nil))))), q19, (nw15.mono (by omega) (by omega)), rfl, by omega, by first | (rw [cutGo_yes (by omega), hos, hf]) | (rw [cutGo_no (by omega)]; exact hos), by first | (rw [cutGo_yes (by omega)]) | (rw [cutGo_no (by omega)]; exact hf), by first | omega | (simp only [List.length_append, List.length_singleton]; omega)⟩
  have hc : ¬ strB s k = 46 := fun e => h73 ((idx_str hbb s k).2 e)
  refine sx_skip ?_
  refine q_bn (q_n (k10 _ _ ?_))
  refine sx_region ?_
  refine mv rfl rfl (sp rfl (px_add rfl rfl (by omega)) ?_)
  refine av rfl rfl (wl_nil ?_)
  have q20 := Chg.step (l := w.heap.size) (h := ws3.heap.size) cwl7 c12 (by omega)
  have f21 := hs_s1.ext c12
  exact fun a ha => ⟨_, by omega, s1, os, (k + 1), f, ha.sub (Sub.c 0 rfl (.c 1 rfl (.c 5 rfl (.c 6 rfl (.c 7 (look_int (t := 7) rfl (by first | omega | simp)) .nil))))), q20, (f21.mono (by omega) (by omega)), rfl, by omega, by first | (rw [cutGo_yes (by omega), hos, hf]) | (rw [cutGo_no (by omega)]; exact hos), by first | (rw [cutGo_yes (by omega)]) | (rw [cutGo_no (by omega)]; exact hf), by first | omega | (simp only [List.length_append, List.length_singleton]; omega)⟩
 refine sx_exit ?_
 refine q_e (q_e (q_bx (q_n (k5 _ _ ?_))))
 refine sx_seq fun K22 k22 => sx_region ?_
 refine mv rfl rfl (mv rfl rfl (mv rfl rfl (sp rfl (px_strFrom (l := f) rfl rfl (by omega) Tryz.underlying9 (by omega)) ?_)))
 refine sx_lit1 rfl xelt65 rfl rfl (fun s23 ws23 ss23 fs23 cs23 => ?_)
 have ns23 := Own.norm (f := Value.string) (zs := [s.extract f s.size]) fs23
 have zws23 := cs23.size
 have f25 := hs_s1.ext cs23
 refine sx_append rfl xelt65 rfl rfl f25 ns23.sv one_str (by omega) (by simp only [List.length_cons, List.length_nil]; omega) (by unfold maxLen; simp only [List.length_cons, List.length_nil]; omega) (fun a24 w24 fw24 cw24 => ?_)
 have nw24 := Own.app (f := Value.string) (a := os) (b := [s.extract f s.size]) fw24
 have zw24 := cw24.size
 refine av rfl rfl (wl_nil (q_n (k22 _ _ ?_)))
 refine sx_sub (Sub.c 4 rfl .nil) ?_
 refine sx_retc ?_
 refine sx_ret1 Tryz.results30 rfl ?_
 have ek : k = s.size := by omega
 subst ek
 have e : os ++ [s.extract f s.size] = cutT 46 s := by unfold cutT; rw [hos, hf]
 have hs := nw24
 rw [e] at hs
 have q26 := Chg.step (l := 0) (h := 0) (Chg.zero (l := 0) (h := 0) cs3) cwl7 (by omega)
 have q27 := Chg.step (l := 0) (h := 0) q26 cs23 (by omega)
 have q28 := Chg.step (l := 0) (h := 0) q27 cw24 (by omega)
 exact ⟨_, rfl, hs.mono (by omega) (by omega), q28⟩

theorem c_iCutAtB {w : World} {s : ByteArray} {bb : ByteArray} (hs : s.size ≤ 1048576) (hbb : bb = ⟨#[32]⟩) :
  Ret Tryz.prog 30 [.string s, .string bb] w fun v w' => ∃ x, v = x ∧ OwnS w' w.heap.size w'.heap.size x strT (cutT 32 s) ∧ Chg 0 0 w w' := by
 refine sx_enter Tryz.func30 rfl Tryz.ntmps30 (nbl rfl) ?_
 refine sx_seq fun K1 k1 => sx_region ?_
 refine av rfl rfl (wl_nil (q_n (k1 _ _ ?_)))
 refine sx_seq fun K2 k2 => sx_region ?_
 refine sx_lit0 rfl xelt65 (fun s3 ws3 ss3 fs3 cs3 => ?_)
 have zws3 := cs3.size
 refine av rfl rfl (wl_nil (q_n (k2 _ _ ?_)))
 refine sx_seq fun K4 k4 => sx_region ?_
 refine av rfl rfl (wl_nil (q_n (k4 _ _ ?_)))
 refine sx_seq fun K5 k5 => ?_
 refine sx_seq fun K6 k6 => sx_region ?_
 refine av rfl rfl (wl_nil (q_n (k6 _ _ ?_)))
 refine sx_block ?_
 refine sx_loop (fun mm aa w' => ∃ (s1 : Value) (os : List ByteArray) (k : Nat) (f : Nat), Agr 36 [(0, .string s), (1, .string bb), (5, s1), (6, .int .i64 ↑f), (7, .int .i64 ↑k)] aa ∧ Chg w.heap.size ws3.heap.size ws3 w' ∧ Own w' w.heap.size w'.heap.size s1 strT os.length 1 (os.map Value.string) ∧ (mm = s.size - k) ∧ (k ≤ s.size ∧ f ≤ k) ∧ (os = (cutGo 32 s k).1) ∧ (f = (cutGo 32 s k).2) ∧ (os.length ≤ k)) (_) (fun a ha => ⟨s3, [], 0, 0, ha.sub (Sub.c 0 rfl (.c 1 rfl (.c 5 rfl (.c 6 (look_int (t := 6) rfl (by first | omega | simp)) (.c 7 (look_int (t := 7) rfl (by first | omega | simp)) .nil))))), Chg.refl _ _ _, (fs3.mono (by omega) (by omega)), rfl, by omega, rfl, rfl, Nat.le_refl _⟩) ?_
 rintro mm aa wl7 ⟨s1, os, k, f, hAwl7, cwl7, hs_s1, hm, hk, hos, hf, hol⟩
 refine (show cw Tryz.prog 36 _ _ _ wl7 from ?_) aa hAwl7
 clear hAwl7
 have zwl7 := cwl7.size
 refine sx_seq fun K8 k8 => ?_
 refine sx_seq fun K9 k9 => sx_region ?_
 refine mv rfl rfl (mv rfl rfl (sp rfl (px_lenS rfl Tryz.underlying9) ?_))
 refine sp rfl (px_lt rfl rfl) ?_
 refine wl_nil (q_n (k9 _ _ ?_))
 refine sx_condP rfl (fun h72 => ?_) (fun h72 => ?_)
 ·
  refine sx_skip ?_
  refine q_n (k8 _ _ ?_)
  refine sx_seq fun K10 k10 => ?_
  refine sx_block ?_
  refine sx_seq fun K11 k11 => sx_region ?_
  refine mv rfl rfl (mv rfl rfl (mv rfl rfl (sp rfl (px_indexS (j := k) rfl rfl (by omega) Tryz.underlying9 (by omega)) ?_)))
  refine sx_call rfl rfl Tryz.call66 (c_IndexByte) (fun v12 w12 p12 => ?_)
  obtain ⟨rfl, c12⟩ := p12
  have zw12 := c12.size
  refine sp rfl (px_ge rfl rfl) ?_
  refine wl_nil (q_n (k11 _ _ ?_))
  refine sx_sub (Sub.c 0 rfl (.c 1 rfl (.c 5 rfl (.c 6 rfl (.c 7 rfl (.c 20 rfl .nil)))))) ?_
  refine sx_condP rfl (fun h73 => ?_) (fun h73 => ?_)
  ·
   have hc : strB s k = 32 := (idx_str hbb s k).1 h73
   refine sx_seq fun K13 k13 => sx_region ?_
   refine mv rfl rfl (mv rfl rfl (mv rfl rfl (mv rfl rfl (sp rfl (px_strMid (l := f) (h := k) rfl rfl rfl (by omega) (by omega) Tryz.underlying9 (by omega) (by omega)) ?_))))
   refine sx_lit1 rfl xelt65 rfl rfl (fun s14 ws14 ss14 fs14 cs14 => ?_)
   have ns14 := Own.norm (f := Value.string) (zs := [s.extract f k]) fs14
   have zws14 := cs14.size
   have f17 := (hs_s1.ext c12).ext cs14
   refine sx_append rfl xelt65 rfl rfl f17 ns14.sv one_str (by omega) (by simp only [List.length_cons, List.length_nil]; omega) (by unfold maxLen; simp only [List.length_cons, List.length_nil]; omega) (fun a15 w15 fw15 cw15 => ?_)
   have nw15 := Own.app (f := Value.string) (a := os) (b := [s.extract f k]) fw15
   have zw15 := cw15.size
   refine av rfl rfl (wl_nil (q_n (k13 _ _ ?_)))
   refine sx_region ?_
   refine mv rfl rfl (sp rfl (px_add rfl rfl (by omega)) ?_)
   refine av rfl rfl (wl_nil ?_)
   refine q_bn (q_n (k10 _ _ ?_))
   refine sx_sub (Sub.c 0 rfl (.c 1 rfl (.c 5 rfl (.c 6 rfl (.c 7 rfl .nil))))) ?_
   refine sx_region ?_
   refine mv rfl rfl (sp rfl (px_add rfl rfl (by omega)) ?_)
   refine av rfl rfl (wl_nil ?_)
   have q18 := Chg.step (l := w.heap.size) (h := ws3.heap.size) cwl7 (c12.t cs14) (by omega)
   have q19 := Chg.step (l := w.heap.size) (h := ws3.heap.size) q18 cw15 (by omega)
   exact fun a ha => ⟨_, by omega, a15, (os ++ ([s.extract f k])), (k + 1), (k + 1), ha.sub (Sub.c 0 rfl (.c 1 rfl (.c 5 rfl (.c 6 (look_int (t := 6) rfl (by first | omega | simp)) (.c 7 (look_int (t := 7) rfl (by first | omega | simp)) .nil))))), q19, (nw15.mono (by omega) (by omega)), rfl, by omega, by first | (rw [cutGo_yes hc, hos, hf]) | (rw [cutGo_no hc]; exact hos), by first | (rw [cutGo_yes hc]) | (rw [cutGo_no hc]; exact hf), by first | omega | (simp only [List.length_append, List.length_singleton]; omega)⟩
  have hc : ¬ strB s k = 32 := fun e => h73 ((idx_str hbb s k).2 e)
  refine sx_skip ?_
  refine q_bn (q_n (k10 _ _ ?_))
  refine sx_region ?_
  refine mv rfl rfl (sp rfl (px_add rfl rfl (by omega)) ?_)
  refine av rfl rfl (wl_nil ?_)
  have q20 := Chg.step (l := w.heap.size) (h := ws3.heap.size) cwl7 c12 (by omega)
  have f21 := hs_s1.ext c12
  exact fun a ha => ⟨_, by omega, s1, os, (k + 1), f, ha.sub (Sub.c 0 rfl (.c 1 rfl (.c 5 rfl (.c 6 rfl (.c 7 (look_int (t := 7) rfl (by first | omega | simp)) .nil))))), q20, (f21.mono (by omega) (by omega)), rfl, by omega, by first | (rw [cutGo_yes hc, hos, hf]) | (rw [cutGo_no hc]; exact hos), by first | (rw [cutGo_yes hc]) | (rw [cutGo_no hc]; exact hf), by first | omega | (simp only [List.length_append, List.length_singleton]; omega)⟩
 refine sx_exit ?_
 refine q_e (q_e (q_bx (q_n (k5 _ _ ?_))))
 refine sx_seq fun K22 k22 => sx_region ?_
 refine mv rfl rfl (mv rfl rfl (mv rfl rfl (sp rfl (px_strFrom (l := f) rfl rfl (by omega) Tryz.underlying9 (by omega)) ?_)))
 refine sx_lit1 rfl xelt65 rfl rfl (fun s23 ws23 ss23 fs23 cs23 => ?_)
 have ns23 := Own.norm (f := Value.string) (zs := [s.extract f s.size]) fs23
 have zws23 := cs23.size
 have f25 := hs_s1.ext cs23
 refine sx_append rfl xelt65 rfl rfl f25 ns23.sv one_str (by omega) (by simp only [List.length_cons, List.length_nil]; omega) (by unfold maxLen; simp only [List.length_cons, List.length_nil]; omega) (fun a24 w24 fw24 cw24 => ?_)
 have nw24 := Own.app (f := Value.string) (a := os) (b := [s.extract f s.size]) fw24
 have zw24 := cw24.size
 refine av rfl rfl (wl_nil (q_n (k22 _ _ ?_)))
 refine sx_sub (Sub.c 4 rfl .nil) ?_
 refine sx_retc ?_
 refine sx_ret1 Tryz.results30 rfl ?_
 have ek : k = s.size := by omega
 subst ek
 have e : os ++ [s.extract f s.size] = cutT 32 s := by unfold cutT; rw [hos, hf]
 have hs := nw24
 rw [e] at hs
 have q26 := Chg.step (l := 0) (h := 0) (Chg.zero (l := 0) (h := 0) cs3) cwl7 (by omega)
 have q27 := Chg.step (l := 0) (h := 0) q26 cs23 (by omega)
 have q28 := Chg.step (l := 0) (h := 0) q27 cw24 (by omega)
 exact ⟨_, rfl, hs.mono (by omega) (by omega), q28⟩

theorem c_Join {w : World} {va : Value} {lva uva : Nat} {zs : List ByteArray} {bb : ByteArray} (hva : SlS w lva uva va (zs)) (hbb : bb = ⟨#[]⟩) (hj : (jnT zs).length ≤ 2000000 ∧ zs.length ≤ 2000000) :
  Ret Tryz.prog 67 [va, .string bb] w fun v w' => v = .string (bl (jnT zs)) ∧ Chg 0 0 w w' := by
 subst hbb
 have hjn := jn_join zs
 rcases hva.2 with ⟨h0, a, c, e⟩ | ⟨b, off, cap, cs, T, fz, e, ⟨h1, h1x⟩, h2, h3, h4⟩
 ·
  have ez : zs = [] := List.eq_nil_of_length_eq_zero h0
  subst ez; subst e
  have h := Any.strings_Join_none lays156 extraB2 a c ⟨#[]⟩ w
  exact Calls.mono h fun e w' ⟨he, hw⟩ => ⟨_, he, rfl, hw ▸ Chg.refl _ _ _⟩
 subst e
 have hb : b < w.heap.size := by
  rcases Nat.lt_or_ge b w.heap.size with h' | h'
  ·
   exact h'
  simp [Array.getElem?_eq_none h'] at h3
 have h := Any.strings_Join lays156 extraB2 b off cap zs ⟨#[]⟩ w (fun j x hx => by simp [World.cell?, h3, h4 j (.string x) (by simp [hx])]) hb (by omega) h1 (by show (Lib.join (zs.map fun s => s.data.toList) []).length ≤ _; rw [hjn]; omega)
 exact Calls.mono h fun e w' ⟨he, hq⟩ => ⟨_, he, congrArg (fun l => Value.string (bl l)) hjn, hq.os, hq.tape, hq.output, hq.size, fun i hi _ => hq.block i hi⟩

theorem c_iJoin {w : World} {va : Value} {lva uva : Nat} {zs : List ByteArray} {bb : ByteArray} (hva : SlS w lva uva va (zs)) (hbb : bb = ⟨#[]⟩) (hj : (jnT zs).length ≤ 2000000 ∧ zs.length ≤ 2000000) :
  Ret Tryz.prog 31 [va, .string bb] w fun v w' => v = .string (bl (jnT zs)) ∧ Chg 0 0 w w' := by
 have hva0 := hva.fit
 refine sx_enter Tryz.func31 rfl Tryz.ntmps31 (nbl rfl) ?_
 refine sx_seq fun K1 k1 => sx_region ?_
 refine av rfl rfl (wl_nil (q_n (k1 _ _ ?_)))
 refine sx_seq fun K2 k2 => sx_region ?_
 refine mv rfl rfl (mv rfl rfl (sx_call rfl rfl Tryz.call67 (c_Join hva0 (hbb) (hj)) (fun v3 w3 p3 => ?_)))
 obtain ⟨rfl, c3⟩ := p3
 have zw3 := c3.size
 refine av rfl rfl (wl_nil (q_n (k2 _ _ ?_)))
 refine sx_retc ?_
 refine sx_ret1 Tryz.results31 rfl ?_
 exact ⟨rfl, c3⟩

theorem c_isDigit {w : World} {b : Int} :
  Ret Tryz.prog 103 [.int .u8 b] w fun v w' => v = .bool (decide (48 ≤ b ∧ b ≤ 57)) ∧ Chg 0 0 w w' := by
 refine sx_enter Tryz.func103 rfl Tryz.ntmps103 (nbl rfl) ?_
 refine sx_seq fun K1 k1 => sx_region ?_
 refine av rfl rfl (wl_nil (q_n (k1 _ _ ?_)))
 refine sx_seq fun K2 k2 => sx_region ?_
 refine mv rfl rfl (sp rfl (px_ge rfl rfl) ?_)
 refine mv rfl rfl ?_
 refine sx_tmpP (t := 5) rfl (fun h24 => ?_) (fun h24 => ?_)
 ·
  refine sx_guardT rfl rfl rfl ?_
  refine mv rfl rfl ?_
  refine sx_guardT rfl rfl rfl ?_
  refine sp rfl (px_le rfl rfl) ?_
  refine sp rfl (px_pick rfl rfl) ?_
  refine av rfl rfl (wl_nil (q_n (k2 _ _ ?_)))
  refine sx_retc ?_
  refine sx_ret1 Tryz.results103 rfl ?_
  exact ⟨by simp [*], (Chg.refl 0 0 _)⟩
 refine sx_guardF rfl rfl rfl rfl rfl rfl ?_
 refine sx_guardF rfl rfl rfl rfl rfl rfl ?_
 refine sp rfl (px_pick rfl rfl) ?_
 refine av rfl rfl (wl_nil (q_n (k2 _ _ ?_)))
 refine sx_retc ?_
 refine sx_ret1 Tryz.results103 rfl ?_
 exact ⟨by simp [*], (Chg.refl 0 0 _)⟩

theorem c_iIsDigits {w : World} {s : ByteArray} (hs : s.size ≤ 1048576) :
  Ret Tryz.prog 68 [.string s] w fun v w' => v = .bool (dgK s) ∧ Chg 0 0 w w' := by
 refine sx_enter Tryz.func68 rfl Tryz.ntmps68 (nbl rfl) ?_
 refine sx_seq fun K1 k1 => sx_region ?_
 refine av rfl rfl (wl_nil (q_n (k1 _ _ ?_)))
 refine sx_seq fun K2 k2 => ?_
 refine sx_seq fun K3 k3 => sx_region ?_
 refine av rfl rfl (wl_nil (q_n (k3 _ _ ?_)))
 refine sx_block ?_
 refine sx_loop (fun mm aa w' => ∃ (k : Nat), Agr 17 [(0, .string s), (3, .int .i64 ↑k)] aa ∧ Chg 0 0 w w' ∧ (mm = s.size - k) ∧ (k ≤ s.size) ∧ (∀ j, j < k → 48 ≤ strB s j ∧ strB s j ≤ 57)) (_) (fun a ha => ⟨0, ha.sub (Sub.c 0 rfl (.c 3 (look_int (t := 3) rfl (by first | omega | simp)) .nil)), Chg.refl _ _ _, rfl, by omega, fun j hj => absurd hj (by omega)⟩) ?_
 rintro mm aa wl4 ⟨k, hAwl4, cwl4, hm, hk, hd⟩
 refine (show cw Tryz.prog 17 _ _ _ wl4 from ?_) aa hAwl4
 clear hAwl4
 have zwl4 := cwl4.size
 have hb8 := strB_range s k
 refine sx_seq fun K5 k5 => ?_
 refine sx_seq fun K6 k6 => sx_region ?_
 refine mv rfl rfl (mv rfl rfl (sp rfl (px_lenS rfl Tryz.underlying9) ?_))
 refine sp rfl (px_lt rfl rfl) ?_
 refine wl_nil (q_n (k6 _ _ ?_))
 refine sx_condP rfl (fun h31 => ?_) (fun h31 => ?_)
 ·
  refine sx_skip ?_
  refine q_n (k5 _ _ ?_)
  refine sx_seq fun K7 k7 => ?_
  refine sx_block ?_
  refine sx_seq fun K8 k8 => sx_region ?_
  refine mv rfl rfl (mv rfl rfl (sp rfl (px_indexS (j := k) rfl rfl (by omega) Tryz.underlying9 (by omega)) ?_))
  refine sx_call rfl rfl Tryz.call103 (c_isDigit) (fun v9 w9 p9 => ?_)
  obtain ⟨rfl, c9⟩ := p9
  have zw9 := c9.size
  refine sp rfl (px_notP rfl) ?_
  refine wl_nil (q_n (k8 _ _ ?_))
  refine sx_condP rfl (fun h32 => ?_) (fun h32 => ?_)
  ·
   refine sx_seq fun K10 k10 => sx_region ?_
   refine av rfl rfl (wl_nil (q_n (k10 _ _ ?_)))
   refine sx_retc ?_
   refine q_br (q_r (q_r (q_br (q_r (sx_ret1 Tryz.results68 rfl ?_)))))
   rw [dgK_no (j := k) (by omega) (by omega)]
   exact ⟨rfl, (cwl4.t c9)⟩
  refine sx_skip ?_
  refine q_bn (q_n (k7 _ _ ?_))
  refine sx_region ?_
  refine mv rfl rfl (sp rfl (px_add rfl rfl (by omega)) ?_)
  refine av rfl rfl (wl_nil ?_)
  exact fun a ha => ⟨_, by omega, (k + 1), ha.sub (Sub.c 0 rfl (.c 3 (look_int (t := 3) rfl (by first | omega | simp)) .nil)), (cwl4.t c9), rfl, by omega, fun j hj => by
   rcases Nat.lt_or_ge j k with hl | hl
   · exact hd j hl
   · rw [show j = k by omega]; omega⟩
 refine sx_exit ?_
 refine q_e (q_e (q_bx (q_n (k2 _ _ ?_))))
 refine sx_seq fun K11 k11 => sx_region ?_
 refine mv rfl rfl (sp rfl (px_neS rfl rfl) ?_)
 refine av rfl rfl (wl_nil (q_n (k11 _ _ ?_)))
 refine sx_retc ?_
 refine sx_ret1 Tryz.results68 rfl ?_
 rw [dgK_end (fun j hj => hd j (by omega))]
 exact ⟨congrArg Value.bool (sz_ne s), cwl4⟩

theorem c_trim {w : World} {va : Value} {lva uva : Nat} {zs : List Int} (hva : OwnI w lva uva va intT (zs)) (hz : Lm zs) (h63 : zs.length ≤ 1000000) :
  Ret Tryz.prog 69 [va] w fun v w' => ∃ s, v = s ∧ OwnI w' (lva) (uva) s intT (dg (vl zs)) ∧ Chg 0 0 w w' := by
 refine sx_enter Tryz.func69 rfl Tryz.ntmps69 (nbl rfl) ?_
 refine sx_seq fun K1 k1 => sx_region ?_
 refine av rfl rfl (wl_nil (q_n (k1 _ _ ?_)))
 refine sx_seq fun K2 k2 => ?_
 refine sx_block ?_
 refine sx_loop (fun mm aa w' => ∃ (k : Nat) (s : Value), Agr 21 [(0, s)] aa ∧ Chg 0 0 w w' ∧ Own w' lva uva s intT ((zs.take k).length) 1 ((zs.take k).map (Value.int .i64)) ∧ (mm = k) ∧ (k ≤ zs.length) ∧ (vl (zs.take k) = vl zs)) (_) (fun a ha => ⟨zs.length, va, ha.sub (Sub.c 0 rfl .nil), Chg.refl _ _ _, (by rw [List.take_length]; exact hva), rfl, by omega, vl_take_all zs⟩) ?_
 rintro mm aa wl3 ⟨k, s, hAwl3, cwl3, hs_s, hm, hk, hv⟩
 refine (show cw Tryz.prog 21 _ _ _ wl3 from ?_) aa hAwl3
 clear hAwl3
 have zwl3 := cwl3.size
 have hlt : (zs.take k).length = k := by rw [List.length_take]; omega
 refine sx_seq fun K4 k4 => ?_
 refine sx_seq fun K5 k5 => sx_region ?_
 refine mv rfl rfl (sp rfl (px_len rfl Tryz.underlying23 hs_s.sv) ?_)
 refine sp rfl (px_gt rfl rfl) ?_
 refine mv rfl rfl ?_
 refine sx_tmpP (t := 6) rfl (fun h29 => ?_) (fun h29 => ?_)
 ·
  refine sx_guardT rfl rfl rfl ?_
  refine mv rfl rfl ?_
  refine sx_guardT rfl rfl rfl ?_
  refine mv rfl rfl ?_
  refine sx_guardT rfl rfl rfl ?_
  refine sp rfl (px_len rfl Tryz.underlying23 hs_s.sv) ?_
  refine sx_guardT rfl rfl rfl ?_
  refine sp rfl (px_sub rfl rfl (by omega)) ?_
  refine sx_guardT rfl rfl rfl ?_
  refine sp rfl (px_index1 (j := (k - 1)) rfl rfl (by omega) Tryz.underlying23 Tryz.sizeOf3 hs_s.sv (by omega)) ?_
  refine sx_guardT rfl rfl rfl ?_
  refine sp rfl (px_load rfl (hs_s.sv.load1 (at_int (by omega)) Tryz.isAgg3)) ?_
  refine sx_guardT rfl rfl rfl ?_
  refine sp rfl (px_eq rfl rfl) ?_
  refine sp rfl (px_pick rfl rfl) ?_
  refine wl_nil (q_n (k5 _ _ ?_))
  refine sx_condP rfl (fun h29x1 => ?_) (fun h29x1 => ?_)
  ·
   refine sx_skip ?_
   refine q_n (k4 _ _ ?_)
   refine sx_block ?_
   refine sx_region ?_
   refine mv rfl rfl (mv rfl rfl (sp rfl (px_len rfl Tryz.underlying23 hs_s.sv) ?_))
   refine sp rfl (px_sub rfl rfl (by omega)) ?_
   refine sp rfl (px_sliceTo (h := (k - 1)) rfl rfl (by omega) Tryz.underlying23 Tryz.sizeOf3 hs_s.sv (by omega)) ?_
   refine av rfl rfl (wl_nil ?_)
   exact q_bn (fun a ha => ⟨_, by omega, (k - 1), (vtake s (k - 1)), ha.sub (Sub.c 0 rfl .nil), cwl3, (by have hh := (Own.takeI hs_s (h := (k - 1)) (by omega)); rwa [List.take_take, Nat.min_eq_left (by omega)] at hh), rfl, by omega, trim_step (by omega) hk h29x1 hv⟩)
  refine sx_exit ?_
  refine q_e (q_e (q_bx (q_n (k2 _ _ ?_))))
  refine sx_seq fun K6 k6 => sx_region ?_
  refine mv rfl rfl (av rfl rfl (wl_nil (q_n (k6 _ _ ?_))))
  refine sx_sub (Sub.c 2 rfl .nil) ?_
  refine sx_retc ?_
  refine sx_ret1 Tryz.results69 rfl ?_
  have hd := trim_done hz hk hv (by first | exact .inl (by omega) | exact .inr (by assumption))
  rw [← hd]
  exact ⟨_, rfl, hs_s, cwl3⟩
 refine sx_guardF rfl rfl rfl rfl rfl rfl ?_
 refine sx_guardF rfl rfl rfl rfl rfl rfl ?_
 refine sx_guardF rfl rfl rfl rfl rfl rfl ?_
 refine sx_guardF rfl rfl rfl rfl rfl rfl ?_
 refine sx_guardF rfl rfl rfl rfl rfl rfl ?_
 refine sx_guardF rfl rfl rfl rfl rfl rfl ?_
 refine sx_guardF rfl rfl rfl rfl rfl rfl ?_
 refine sp rfl (px_pick rfl rfl) ?_
 refine wl_nil (q_n (k5 _ _ ?_))
 refine sx_condF rfl ?_
 refine sx_exit ?_
 refine q_e (q_e (q_bx (q_n (k2 _ _ ?_))))
 refine sx_seq fun K7 k7 => sx_region ?_
 refine mv rfl rfl (av rfl rfl (wl_nil (q_n (k7 _ _ ?_))))
 refine sx_sub (Sub.c 2 rfl .nil) ?_
 refine sx_retc ?_
 refine sx_ret1 Tryz.results69 rfl ?_
 have hd := trim_done hz hk hv (by first | exact .inl (by omega) | exact .inr (by assumption))
 rw [← hd]
 exact ⟨_, rfl, hs_s, cwl3⟩

theorem c_iTextNat {w : World} {s : ByteArray} (hs : s.size ≤ 1048576) :
  Ret Tryz.prog 32 [.string s] w fun v w' => ∃ x, v = .tuple #[x, .bool (tnK s)] ∧ OwnI w' w.heap.size w'.heap.size x intT (dg (tnV s)) ∧ Chg 0 0 w w' := by
 refine sx_enter Tryz.func32 rfl Tryz.ntmps32 (nbl rfl) ?_
 refine sx_seq fun K1 k1 => sx_region ?_
 refine av rfl rfl (av rfl rfl (wl_nil (q_n (k1 _ _ ?_))))
 refine sx_seq fun K2 k2 => ?_
 refine sx_seq fun K3 k3 => sx_region ?_
 refine mv rfl rfl (sx_call rfl rfl Tryz.call68 (c_iIsDigits (by omega)) (fun v4 w4 p4 => ?_))
 obtain ⟨rfl, c4⟩ := p4
 have zw4 := c4.size
 refine sp rfl (px_not rfl) ?_
 refine mv rfl rfl ?_
 refine sx_tmpB (t := 12) rfl (fun h210 => ?_) (fun h210 => ?_)
 ·
  refine sx_guardF rfl rfl rfl rfl rfl rfl ?_
  refine sx_guardF rfl rfl rfl rfl rfl rfl ?_
  refine sx_guardF rfl rfl rfl rfl rfl rfl ?_
  refine sp rfl (px_pick rfl rfl) ?_
  refine mv rfl rfl ?_
  refine sx_guardF rfl rfl rfl rfl rfl rfl ?_
  refine sx_guardF rfl rfl rfl rfl rfl rfl ?_
  refine sx_guardF rfl rfl rfl rfl rfl rfl ?_
  refine sx_guardF rfl rfl rfl rfl rfl rfl ?_
  refine sx_guardFU rfl rfl rfl rfl rfl ?_
  refine sx_guardFU rfl rfl rfl rfl rfl ?_
  refine sx_guardFU rfl rfl rfl rfl rfl ?_
  refine sx_guardF rfl rfl rfl rfl rfl rfl ?_
  refine sp rfl (px_pick rfl rfl) ?_
  refine wl_nil (q_n (k3 _ _ ?_))
  refine sx_sub (Sub.c 0 rfl (.c 2 rfl (.c 3 rfl (.c 26 rfl .nil)))) ?_
  refine sx_condT rfl ?_
  refine sx_seq fun K5 k5 => sx_region ?_
  refine av rfl rfl (av rfl rfl (wl_nil (q_n (k5 _ _ ?_))))
  refine sx_retc ?_
  refine q_r (sx_ret2 Tryz.results32 rfl rfl ?_)
  have hK : tnK s = false := tnK_no (by rintro ⟨a, b, c⟩; rcases Nat.lt_or_ge 1 s.size with h1 | h1 <;> (first | (have := c h1; omega) | omega | simp_all))
  rw [tnV_no hK, hK, dg_zero]
  exact ⟨_, rfl, Own.nil _ _ _ _ _, c4⟩
 have hdk : dgK s = true := by simpa using h210
 have hdg := dgK_yes hdk
 have hD := hdg.1
 refine sx_guardT rfl rfl rfl ?_
 refine mv rfl rfl ?_
 refine sx_guardT rfl rfl rfl ?_
 refine sp rfl (px_lenS rfl Tryz.underlying9) ?_
 refine sx_guardT rfl rfl rfl ?_
 refine sp rfl (px_gt rfl rfl) ?_
 refine sp rfl (px_pick rfl rfl) ?_
 refine mv rfl rfl ?_
 refine sx_tmpP (t := 17) rfl (fun h210x1 => ?_) (fun h210x1 => ?_)
 ·
  refine sx_guardF rfl rfl rfl rfl rfl rfl ?_
  refine sx_guardF rfl rfl rfl rfl rfl rfl ?_
  refine sx_guardF rfl rfl rfl rfl rfl rfl ?_
  refine sx_guardF rfl rfl rfl rfl rfl rfl ?_
  refine sx_guardFU rfl rfl rfl rfl rfl ?_
  refine sx_guardFU rfl rfl rfl rfl rfl ?_
  refine sx_guardFU rfl rfl rfl rfl rfl ?_
  refine sx_guardF rfl rfl rfl rfl rfl rfl ?_
  refine sp rfl (px_pick rfl rfl) ?_
  refine wl_nil (q_n (k3 _ _ ?_))
  refine sx_sub (Sub.c 0 rfl (.c 2 rfl (.c 3 rfl (.c 26 rfl .nil)))) ?_
  refine sx_condT rfl ?_
  refine sx_seq fun K6 k6 => sx_region ?_
  refine av rfl rfl (av rfl rfl (wl_nil (q_n (k6 _ _ ?_))))
  refine sx_retc ?_
  refine q_r (sx_ret2 Tryz.results32 rfl rfl ?_)
  have hK : tnK s = false := tnK_no (by rintro ⟨a, b, c⟩; rcases Nat.lt_or_ge 1 s.size with h1 | h1 <;> (first | (have := c h1; omega) | omega | simp_all))
  rw [tnV_no hK, hK, dg_zero]
  exact ⟨_, rfl, Own.nil _ _ _ _ _, c4⟩
 refine sx_guardT rfl rfl rfl ?_
 refine mv rfl rfl ?_
 refine sx_guardT rfl rfl rfl ?_
 refine sp rfl (px_indexS (j := 0) rfl rfl (by omega) Tryz.underlying9 (by omega)) ?_
 refine sx_guardT rfl rfl rfl ?_
 refine sp rfl (px_eq rfl rfl) ?_
 refine sx_guardT rfl rfl rfl ?_
 refine mv rfl rfl ?_
 refine sx_tmpP (t := 21) rfl (fun h210x2 => ?_) (fun h210x2 => ?_)
 ·
  refine sx_guardT rfl rfl rfl ?_
  refine mv rfl rfl ?_
  refine sx_guardT rfl rfl rfl ?_
  refine sp rfl (px_lenS rfl Tryz.underlying9) ?_
  refine sx_guardT rfl rfl rfl ?_
  refine sp rfl (px_gt rfl rfl) ?_
  refine sx_guardT rfl rfl rfl ?_
  refine sp rfl (px_pick rfl rfl) ?_
  refine sp rfl (px_pick rfl rfl) ?_
  refine wl_nil (q_n (k3 _ _ ?_))
  refine sx_sub (Sub.c 0 rfl (.c 2 rfl (.c 3 rfl (.c 26 rfl .nil)))) ?_
  refine sx_condP rfl (fun h210x3 => ?_) (fun h210x3 => ?_)
  ·
   refine sx_seq fun K7 k7 => sx_region ?_
   refine av rfl rfl (av rfl rfl (wl_nil (q_n (k7 _ _ ?_))))
   refine sx_retc ?_
   refine q_r (sx_ret2 Tryz.results32 rfl rfl ?_)
   have hK : tnK s = false := tnK_no (by rintro ⟨a, b, c⟩; rcases Nat.lt_or_ge 1 s.size with h1 | h1 <;> (first | (have := c h1; omega) | omega | simp_all))
   rw [tnV_no hK, hK, dg_zero]
   exact ⟨_, rfl, Own.nil _ _ _ _ _, c4⟩
  refine sx_skip ?_
  refine q_n (k2 _ _ ?_)
  refine sx_seq fun K8 k8 => sx_region ?_
  refine sx_lit0 rfl xelt23 (fun s9 ws9 ss9 fs9 cs9 => ?_)
  have zws9 := cs9.size
  refine av rfl rfl (wl_nil (q_n (k8 _ _ ?_)))
  refine sx_seq fun K10 k10 => ?_
  refine sx_seq fun K11 k11 => sx_region ?_
  refine mv rfl rfl (sp rfl (px_lenS rfl Tryz.underlying9) ?_)
  refine av rfl rfl (wl_nil (q_n (k11 _ _ ?_)))
  refine sx_block ?_
  refine sx_loop (fun mm aa w' => ∃ (s1 : Value) (os : List Int) (k : Nat), Agr 59 [(0, .string s), (4, s1), (5, .int .i64 (↑s.size - 9 * (k : Int)))] aa ∧ Chg w4.heap.size ws9.heap.size ws9 w' ∧ Own w' w4.heap.size w'.heap.size s1 intT os.length 1 (os.map (Value.int .i64)) ∧ (mm = s.size + 9 - 9 * k) ∧ (os.length = k) ∧ (Lm os) ∧ (9 * k ≤ s.size + 8) ∧ (vl os + Bs ^ k * dval (s.data.toList.take (s.size - 9 * k)) = dval s.data.toList)) (_) (fun a ha => ⟨s9, [], 0, ha.sub (Sub.c 0 rfl (.c 4 rfl (.c 5 (look_int (t := 5) rfl (by first | omega | (simp; done) | simp [dval])) .nil))), Chg.refl _ _ _, (fs9.mono (by omega) (by omega)), rfl, rfl, Lm.nil, by omega, by rw [show s.size - 9 * 0 = s.data.toList.length by rw [sz_list]; omega, List.take_length]; simp [vl]⟩) ?_
  rintro mm aa wl12 ⟨s1, os, k, hAwl12, cwl12, hs_s1, hm, hos, hlm, hk, hv⟩
  refine (show cw Tryz.prog 59 _ _ _ wl12 from ?_) aa hAwl12
  clear hAwl12
  have zwl12 := cwl12.size
  refine sx_seq fun K13 k13 => ?_
  refine sx_seq fun K14 k14 => sx_region ?_
  refine mv rfl rfl (sp rfl (px_gt rfl rfl) ?_)
  refine wl_nil (q_n (k14 _ _ ?_))
  refine sx_condP rfl (fun h214 => ?_) (fun h214 => ?_)
  ·
   refine sx_skip ?_
   refine q_n (k13 _ _ ?_)
   refine sx_seq fun K15 k15 => ?_
   refine sx_block ?_
   refine sx_seq fun K16 k16 => sx_region ?_
   refine av rfl rfl (wl_nil (q_n (k16 _ _ ?_)))
   refine sx_seq fun K17 k17 => ?_
   refine sx_seq fun K18 k18 => sx_region ?_
   refine mv rfl rfl (mv rfl rfl (sp rfl (px_sub rfl rfl (by omega)) ?_))
   refine sp rfl (px_max rfl rfl) ?_
   refine mv rfl rfl (sp rfl (px_strMid (l := (s.size - 9 * k - 9)) (h := (s.size - 9 * k)) rfl rfl rfl (by omega) (by omega) Tryz.underlying9 (by omega) (by omega)) ?_)
   refine sx_convSB rfl Tryz.underlying9 Tryz.underlying22 Tryz.underlying5 rfl (fun s19 ws19 ss19 fs19 cs19 => ?_)
   have zws19 := cs19.size
   refine sp rfl (px_len rfl Tryz.underlying22 fs19) ?_
   refine mv rfl rfl (wl_nil (q_n (k18 _ _ ?_)))
   refine sx_sub (Sub.c 0 rfl (.c 4 rfl (.c 5 rfl (.c 6 rfl (.c 40 rfl (.c 41 rfl (.c 42 rfl .nil))))))) ?_
   refine sx_block ?_
   have hpl := strBs_plen (s := s) (f := (s.size - 9 * k - 9)) (e := (s.size - 9 * k)) (by omega) (by omega)
   refine sx_loop (fun mm aa w' => ∃ (j : Nat), Agr 59 [(0, .string s), (4, s1), (5, .int .i64 (↑s.size - 9 * (k : Int))), (6, .int .i64 ((dval ((s.data.toList.drop (s.size - 9 * k - 9)).take j) : Nat) : Int)), (40, s19), (41, .int .i64 (↑((strBs (s.extract (s.size - 9 * k - 9) (s.size - 9 * k))).length))), (42, .int .i64 ↑j)] aa ∧ Chg 0 0 ws19 w' ∧ (mm = s.size - 9 * k - ((s.size - 9 * k - 9) + j)) ∧ ((s.size - 9 * k - 9) + j ≤ s.size - 9 * k)) (_) (fun a ha => ⟨0, ha.sub (Sub.c 0 rfl (.c 4 rfl (.c 5 rfl (.c 6 (look_int (t := 6) rfl (by first | omega | (simp; done) | simp [dval])) (.c 40 rfl (.c 41 rfl (.c 42 (look_int (t := 42) rfl (by first | omega | (simp; done) | simp [dval])) .nil))))))), Chg.refl _ _ _, rfl, by omega⟩) ?_
   rintro mm aa wl20 ⟨j, hAwl20, cwl20, hm, hj⟩
   refine (show cw Tryz.prog 59 _ _ _ wl20 from ?_) aa hAwl20
   clear hAwl20
   have zwl20 := cwl20.size
   have hn9 := dval9 hD (s.size - 9 * k - 9) j (by omega)
   refine sx_seq fun K21 k21 => sx_region ?_
   refine sp rfl (px_lt rfl rfl) ?_
   refine wl_nil (q_n (k21 _ _ ?_))
   refine sx_seq fun K22 k22 => ?_
   refine sx_condP rfl (fun h216 => ?_) (fun h216 => ?_)
   ·
    have hpt := strBs_part (s := s) (f := (s.size - 9 * k - 9)) (e := (s.size - 9 * k)) (j := j) (by omega) (by omega)
    have hb8 := dgs_at hD (j := (s.size - 9 * k - 9) + j) (by omega)
    have hbs := dval_byte hD (f := (s.size - 9 * k - 9)) (j := j) (by omega)
    refine sx_skip ?_
    refine q_n (k22 _ _ ?_)
    refine sx_seq fun K23 k23 => ?_
    refine sx_block ?_
    refine sx_seq fun K24 k24 => sx_region ?_
    have f25 := fs19.ext cwl20
    refine sp rfl (px_index1 (j := j) rfl rfl (by omega) Tryz.underlying22 Tryz.sizeOf5 f25 (by omega)) ?_
    refine sp rfl (px_load rfl (f25.load1 (at_u8 (by omega)) Tryz.isAgg5)) ?_
    refine av rfl rfl (wl_nil (q_n (k24 _ _ ?_)))
    refine sx_region ?_
    refine mv rfl rfl (sp rfl (px_mul rfl rfl (by omega)) ?_)
    refine mv rfl rfl (sp rfl (px_subU8 rfl rfl (by omega)) ?_)
    refine sp rfl (px_conv8 Tryz.underlying5 Tryz.underlying3 rfl (by omega)) ?_
    refine sp rfl (px_add rfl rfl (by omega)) ?_
    refine av rfl rfl (wl_nil ?_)
    refine q_bn (q_n (k23 _ _ ?_))
    refine sx_sub (Sub.c 0 rfl (.c 4 rfl (.c 5 rfl (.c 6 rfl (.c 40 rfl (.c 41 rfl (.c 42 rfl .nil))))))) ?_
    refine sx_region ?_
    refine sp rfl (px_add rfl rfl (by omega)) ?_
    refine mv rfl rfl (wl_nil ?_)
    exact fun a ha => ⟨_, by omega, (j + 1), ha.sub (Sub.c 0 rfl (.c 4 rfl (.c 5 rfl (.c 6 (look_int (t := 6) rfl (by first | omega | (simp; done) | simp [dval])) (.c 40 rfl (.c 41 rfl (.c 42 (look_int (t := 42) rfl (by first | omega | (simp; done) | simp [dval])) .nil))))))), cwl20, rfl, by omega⟩
   refine sx_exit ?_
   refine q_e (q_e (q_bx (q_n (k17 _ _ ?_))))
   refine sx_region ?_
   refine mv rfl rfl (mv rfl rfl ?_)
   refine sx_lit1 rfl xelt23 rfl rfl (fun s26 ws26 ss26 fs26 cs26 => ?_)
   have ns26 := Own.norm (f := (Value.int .i64)) (zs := [((dval ((s.data.toList.drop (s.size - 9 * k - 9)).take j) : Nat) : Int)]) fs26
   have zws26 := cs26.size
   have f28 := hs_s1.ext cs19
   have f29 := f28.ext cwl20
   have f30 := f29.ext cs26
   refine sx_append rfl xelt23 rfl rfl f30 ns26.sv one_int (by omega) (by simp only [List.length_cons, List.length_nil]; omega) (by unfold maxLen; simp only [List.length_cons, List.length_nil]; omega) (fun a27 w27 fw27 cw27 => ?_)
   have nw27 := Own.app (f := (Value.int .i64)) (a := os) (b := [((dval ((s.data.toList.drop (s.size - 9 * k - 9)).take j) : Nat) : Int)]) fw27
   have zw27 := cw27.size
   refine av rfl rfl (wl_nil ?_)
   refine q_bn (q_n (k15 _ _ ?_))
   refine sx_region ?_
   refine mv rfl rfl (sp rfl (px_sub rfl rfl (by omega)) ?_)
   refine av rfl rfl (wl_nil ?_)
   have q31 := Chg.step (l := w4.heap.size) (h := ws9.heap.size) cwl12 ((cs19.t cwl20).t cs26) (by omega)
   have q32 := Chg.step (l := w4.heap.size) (h := ws9.heap.size) q31 cw27 (by omega)
   have hX := dval9 hD (s.size - 9 * k - 9) j (by omega)
   exact fun a ha => ⟨_, by omega, a27, (os ++ ([((dval ((s.data.toList.drop (s.size - 9 * k - 9)).take j) : Nat) : Int)])), (k + 1), ha.sub (Sub.c 0 rfl (.c 4 rfl (.c 5 (look_int (t := 5) rfl (by first | omega | (simp; done) | simp [dval])) .nil))), q32, (nw27.mono (by omega) (by omega)), rfl, by simp [hos], hlm.append (Lm.single (by omega) (by omega)), by omega, limbs_next hos rfl (by omega) (by omega) hv⟩
  refine sx_exit ?_
  refine q_e (q_e (q_bx (q_n (k10 _ _ ?_))))
  refine sx_seq fun K33 k33 => sx_region ?_
  refine mv rfl rfl (sx_call rfl rfl Tryz.call69 (c_trim hs_s1 (hlm) (by first | omega | (simp only [List.length_append, List.length_set, List.length_replicate, List.length_cons, List.length_nil] at *; omega))) (fun v34 w34 p34 => ?_))
  obtain ⟨s34, rfl, os_34, c34⟩ := p34
  have zw34 := c34.size
  refine av rfl rfl (av rfl rfl (wl_nil (q_n (k33 _ _ ?_))))
  refine sx_retc ?_
  refine sx_ret2 Tryz.results32 rfl rfl ?_
  have hvl := limbs_end (by omega) hv
  have hK : tnK s = true := tnK_ok hdk (by omega) (by omega)
  rw [tnV_ok hK, hK, ← hvl]
  have q35 := Chg.step (l := 0) (h := 0) (Chg.zero (l := 0) (h := 0) (c4.t cs9)) cwl12 (by omega)
  have q36 := Chg.step (l := 0) (h := 0) q35 c34 (by omega)
  exact ⟨_, rfl, (Own.mono os_34 (by omega) (by omega)), q36⟩
 refine sx_guardF rfl rfl rfl rfl rfl rfl ?_
 refine sx_guardF rfl rfl rfl rfl rfl rfl ?_
 refine sx_guardF rfl rfl rfl rfl rfl rfl ?_
 refine sx_guardT rfl rfl rfl ?_
 refine sp rfl (px_pick rfl rfl) ?_
 refine sp rfl (px_pick rfl rfl) ?_
 refine wl_nil (q_n (k3 _ _ ?_))
 refine sx_sub (Sub.c 0 rfl (.c 2 rfl (.c 3 rfl (.c 26 rfl .nil)))) ?_
 refine sx_condF rfl ?_
 refine sx_skip ?_
 refine q_n (k2 _ _ ?_)
 refine sx_seq fun K37 k37 => sx_region ?_
 refine sx_lit0 rfl xelt23 (fun s38 ws38 ss38 fs38 cs38 => ?_)
 have zws38 := cs38.size
 refine av rfl rfl (wl_nil (q_n (k37 _ _ ?_)))
 refine sx_seq fun K39 k39 => ?_
 refine sx_seq fun K40 k40 => sx_region ?_
 refine mv rfl rfl (sp rfl (px_lenS rfl Tryz.underlying9) ?_)
 refine av rfl rfl (wl_nil (q_n (k40 _ _ ?_)))
 refine sx_block ?_
 refine sx_loop (fun mm aa w' => ∃ (s1 : Value) (os : List Int) (k : Nat), Agr 59 [(0, .string s), (4, s1), (5, .int .i64 (↑s.size - 9 * (k : Int)))] aa ∧ Chg w4.heap.size ws38.heap.size ws38 w' ∧ Own w' w4.heap.size w'.heap.size s1 intT os.length 1 (os.map (Value.int .i64)) ∧ (mm = s.size + 9 - 9 * k) ∧ (os.length = k) ∧ (Lm os) ∧ (9 * k ≤ s.size + 8) ∧ (vl os + Bs ^ k * dval (s.data.toList.take (s.size - 9 * k)) = dval s.data.toList)) (_) (fun a ha => ⟨s38, [], 0, ha.sub (Sub.c 0 rfl (.c 4 rfl (.c 5 (look_int (t := 5) rfl (by first | omega | (simp; done) | simp [dval])) .nil))), Chg.refl _ _ _, (fs38.mono (by omega) (by omega)), rfl, rfl, Lm.nil, by omega, by rw [show s.size - 9 * 0 = s.data.toList.length by rw [sz_list]; omega, List.take_length]; simp [vl]⟩) ?_
 rintro mm aa wl41 ⟨s1, os, k, hAwl41, cwl41, hs_s1, hm, hos, hlm, hk, hv⟩
 refine (show cw Tryz.prog 59 _ _ _ wl41 from ?_) aa hAwl41
 clear hAwl41
 have zwl41 := cwl41.size
 refine sx_seq fun K42 k42 => ?_
 refine sx_seq fun K43 k43 => sx_region ?_
 refine mv rfl rfl (sp rfl (px_gt rfl rfl) ?_)
 refine wl_nil (q_n (k43 _ _ ?_))
 refine sx_condP rfl (fun h214 => ?_) (fun h214 => ?_)
 ·
  refine sx_skip ?_
  refine q_n (k42 _ _ ?_)
  refine sx_seq fun K44 k44 => ?_
  refine sx_block ?_
  refine sx_seq fun K45 k45 => sx_region ?_
  refine av rfl rfl (wl_nil (q_n (k45 _ _ ?_)))
  refine sx_seq fun K46 k46 => ?_
  refine sx_seq fun K47 k47 => sx_region ?_
  refine mv rfl rfl (mv rfl rfl (sp rfl (px_sub rfl rfl (by omega)) ?_))
  refine sp rfl (px_max rfl rfl) ?_
  refine mv rfl rfl (sp rfl (px_strMid (l := (s.size - 9 * k - 9)) (h := (s.size - 9 * k)) rfl rfl rfl (by omega) (by omega) Tryz.underlying9 (by omega) (by omega)) ?_)
  refine sx_convSB rfl Tryz.underlying9 Tryz.underlying22 Tryz.underlying5 rfl (fun s48 ws48 ss48 fs48 cs48 => ?_)
  have zws48 := cs48.size
  refine sp rfl (px_len rfl Tryz.underlying22 fs48) ?_
  refine mv rfl rfl (wl_nil (q_n (k47 _ _ ?_)))
  refine sx_sub (Sub.c 0 rfl (.c 4 rfl (.c 5 rfl (.c 6 rfl (.c 40 rfl (.c 41 rfl (.c 42 rfl .nil))))))) ?_
  refine sx_block ?_
  have hpl := strBs_plen (s := s) (f := (s.size - 9 * k - 9)) (e := (s.size - 9 * k)) (by omega) (by omega)
  refine sx_loop (fun mm aa w' => ∃ (j : Nat), Agr 59 [(0, .string s), (4, s1), (5, .int .i64 (↑s.size - 9 * (k : Int))), (6, .int .i64 ((dval ((s.data.toList.drop (s.size - 9 * k - 9)).take j) : Nat) : Int)), (40, s48), (41, .int .i64 (↑((strBs (s.extract (s.size - 9 * k - 9) (s.size - 9 * k))).length))), (42, .int .i64 ↑j)] aa ∧ Chg 0 0 ws48 w' ∧ (mm = s.size - 9 * k - ((s.size - 9 * k - 9) + j)) ∧ ((s.size - 9 * k - 9) + j ≤ s.size - 9 * k)) (_) (fun a ha => ⟨0, ha.sub (Sub.c 0 rfl (.c 4 rfl (.c 5 rfl (.c 6 (look_int (t := 6) rfl (by first | omega | (simp; done) | simp [dval])) (.c 40 rfl (.c 41 rfl (.c 42 (look_int (t := 42) rfl (by first | omega | (simp; done) | simp [dval])) .nil))))))), Chg.refl _ _ _, rfl, by omega⟩) ?_
  rintro mm aa wl49 ⟨j, hAwl49, cwl49, hm, hj⟩
  refine (show cw Tryz.prog 59 _ _ _ wl49 from ?_) aa hAwl49
  clear hAwl49
  have zwl49 := cwl49.size
  have hn9 := dval9 hD (s.size - 9 * k - 9) j (by omega)
  refine sx_seq fun K50 k50 => sx_region ?_
  refine sp rfl (px_lt rfl rfl) ?_
  refine wl_nil (q_n (k50 _ _ ?_))
  refine sx_seq fun K51 k51 => ?_
  refine sx_condP rfl (fun h216 => ?_) (fun h216 => ?_)
  ·
   have hpt := strBs_part (s := s) (f := (s.size - 9 * k - 9)) (e := (s.size - 9 * k)) (j := j) (by omega) (by omega)
   have hb8 := dgs_at hD (j := (s.size - 9 * k - 9) + j) (by omega)
   have hbs := dval_byte hD (f := (s.size - 9 * k - 9)) (j := j) (by omega)
   refine sx_skip ?_
   refine q_n (k51 _ _ ?_)
   refine sx_seq fun K52 k52 => ?_
   refine sx_block ?_
   refine sx_seq fun K53 k53 => sx_region ?_
   have f54 := fs48.ext cwl49
   refine sp rfl (px_index1 (j := j) rfl rfl (by omega) Tryz.underlying22 Tryz.sizeOf5 f54 (by omega)) ?_
   refine sp rfl (px_load rfl (f54.load1 (at_u8 (by omega)) Tryz.isAgg5)) ?_
   refine av rfl rfl (wl_nil (q_n (k53 _ _ ?_)))
   refine sx_region ?_
   refine mv rfl rfl (sp rfl (px_mul rfl rfl (by omega)) ?_)
   refine mv rfl rfl (sp rfl (px_subU8 rfl rfl (by omega)) ?_)
   refine sp rfl (px_conv8 Tryz.underlying5 Tryz.underlying3 rfl (by omega)) ?_
   refine sp rfl (px_add rfl rfl (by omega)) ?_
   refine av rfl rfl (wl_nil ?_)
   refine q_bn (q_n (k52 _ _ ?_))
   refine sx_sub (Sub.c 0 rfl (.c 4 rfl (.c 5 rfl (.c 6 rfl (.c 40 rfl (.c 41 rfl (.c 42 rfl .nil))))))) ?_
   refine sx_region ?_
   refine sp rfl (px_add rfl rfl (by omega)) ?_
   refine mv rfl rfl (wl_nil ?_)
   exact fun a ha => ⟨_, by omega, (j + 1), ha.sub (Sub.c 0 rfl (.c 4 rfl (.c 5 rfl (.c 6 (look_int (t := 6) rfl (by first | omega | (simp; done) | simp [dval])) (.c 40 rfl (.c 41 rfl (.c 42 (look_int (t := 42) rfl (by first | omega | (simp; done) | simp [dval])) .nil))))))), cwl49, rfl, by omega⟩
  refine sx_exit ?_
  refine q_e (q_e (q_bx (q_n (k46 _ _ ?_))))
  refine sx_region ?_
  refine mv rfl rfl (mv rfl rfl ?_)
  refine sx_lit1 rfl xelt23 rfl rfl (fun s55 ws55 ss55 fs55 cs55 => ?_)
  have ns55 := Own.norm (f := (Value.int .i64)) (zs := [((dval ((s.data.toList.drop (s.size - 9 * k - 9)).take j) : Nat) : Int)]) fs55
  have zws55 := cs55.size
  have f57 := hs_s1.ext cs48
  have f58 := f57.ext cwl49
  have f59 := f58.ext cs55
  refine sx_append rfl xelt23 rfl rfl f59 ns55.sv one_int (by omega) (by simp only [List.length_cons, List.length_nil]; omega) (by unfold maxLen; simp only [List.length_cons, List.length_nil]; omega) (fun a56 w56 fw56 cw56 => ?_)
  have nw56 := Own.app (f := (Value.int .i64)) (a := os) (b := [((dval ((s.data.toList.drop (s.size - 9 * k - 9)).take j) : Nat) : Int)]) fw56
  have zw56 := cw56.size
  refine av rfl rfl (wl_nil ?_)
  refine q_bn (q_n (k44 _ _ ?_))
  refine sx_region ?_
  refine mv rfl rfl (sp rfl (px_sub rfl rfl (by omega)) ?_)
  refine av rfl rfl (wl_nil ?_)
  have q60 := Chg.step (l := w4.heap.size) (h := ws38.heap.size) cwl41 ((cs48.t cwl49).t cs55) (by omega)
  have q61 := Chg.step (l := w4.heap.size) (h := ws38.heap.size) q60 cw56 (by omega)
  have hX := dval9 hD (s.size - 9 * k - 9) j (by omega)
  exact fun a ha => ⟨_, by omega, a56, (os ++ ([((dval ((s.data.toList.drop (s.size - 9 * k - 9)).take j) : Nat) : Int)])), (k + 1), ha.sub (Sub.c 0 rfl (.c 4 rfl (.c 5 (look_int (t := 5) rfl (by first | omega | (simp; done) | simp [dval])) .nil))), q61, (nw56.mono (by omega) (by omega)), rfl, by simp [hos], hlm.append (Lm.single (by omega) (by omega)), by omega, limbs_next hos rfl (by omega) (by omega) hv⟩
 refine sx_exit ?_
 refine q_e (q_e (q_bx (q_n (k39 _ _ ?_))))
 refine sx_seq fun K62 k62 => sx_region ?_
 refine mv rfl rfl (sx_call rfl rfl Tryz.call69 (c_trim hs_s1 (hlm) (by first | omega | (simp only [List.length_append, List.length_set, List.length_replicate, List.length_cons, List.length_nil] at *; omega))) (fun v63 w63 p63 => ?_))
 obtain ⟨s63, rfl, os_63, c63⟩ := p63
 have zw63 := c63.size
 refine av rfl rfl (av rfl rfl (wl_nil (q_n (k62 _ _ ?_))))
 refine sx_retc ?_
 refine sx_ret2 Tryz.results32 rfl rfl ?_
 have hvl := limbs_end (by omega) hv
 have hK : tnK s = true := tnK_ok hdk (by omega) (by omega)
 rw [tnV_ok hK, hK, ← hvl]
 have q64 := Chg.step (l := 0) (h := 0) (Chg.zero (l := 0) (h := 0) (c4.t cs38)) cwl41 (by omega)
 have q65 := Chg.step (l := 0) (h := 0) q64 c63 (by omega)
 exact ⟨_, rfl, (Own.mono os_63 (by omega) (by omega)), q65⟩

theorem c_signed {w : World} {n : Bool} {va : Value} {lva uva : Nat} {zs : List Int} (hva : Sl w lva uva va (zs)) (h63 : zs.length ≤ 4611686018427387904) :
  Ret Tryz.prog 33 [.bool n, va] w fun v w' => v = .agg #[.bool (nz n zs), va] ∧ Chg 0 0 w w' := by
 have hva0 := hva.fit
 refine sx_enter Tryz.func33 rfl Tryz.ntmps33 (nbl rfl) ?_
 refine sx_seq fun K1 k1 => sx_region ?_
 refine sx_alloc [.bool false, (.slice none 0 0)] rfl Tryz.zeroValue25 rfl (fun b2 w3 eb2 sb2 fb2 cb2 => ?_)
 have zw3 := cb2.size
 refine wl_nil (q_n (k1 _ _ ?_))
 refine sx_seq fun K4 k4 => sx_region ?_
 refine mv rfl rfl (mv rfl rfl ?_)
 refine sx_tmpB (t := 6) rfl (fun h16 => ?_) (fun h16 => ?_)
 ·
  refine sx_guardT rfl rfl rfl ?_
  refine mv rfl rfl ?_
  refine sx_guardT rfl rfl rfl ?_
  have f5 := hva0.ext cb2
  refine sp rfl (px_len rfl Tryz.underlying23 f5) ?_
  refine sx_guardT rfl rfl rfl ?_
  refine sp rfl (px_gt rfl rfl) ?_
  refine sp rfl (px_pick rfl rfl) ?_
  refine mv rfl rfl (sp rfl (px_build rfl (xbld25x0x1 rfl f5.one _)) ?_)
  refine sx_store (vs := [.bool (decide ((0 : Int) < ↑((zs).length))), va]) rfl rfl fb2 rfl Tryz.sizeOf25 (nbl rfl) (one_cons rfl (one_cons f5.one one_nil)) (fun w6 sw6 fw6 cw6 => ?_)
  have zw6 := cw6.size
  have gw6 : Blk w6 b2 [.bool (decide ((0 : Int) < ↑((zs).length))), va] 25 := fw6
  refine wl_nil (q_n (k4 _ _ ?_))
  refine sx_retc ?_
  refine sx_ret1 Tryz.results33 ⟨_, rfl, gw6.loadA (vs := [.bool (decide ((0 : Int) < ↑((zs).length))), va]) (look_lit rfl) Tryz.isAgg25 Tryz.sizeOf25⟩ ?_
  have q7 := Chg.step (l := 0) (h := 0) (Chg.zero (l := 0) (h := 0) cb2) cw6 (by omega)
  exact ⟨(by simp [nz, h16]), q7⟩
 refine sx_guardF rfl rfl rfl rfl rfl rfl ?_
 refine sx_guardF rfl rfl rfl rfl rfl rfl ?_
 refine sx_guardF rfl rfl rfl rfl rfl rfl ?_
 refine sp rfl (px_pick rfl rfl) ?_
 refine mv rfl rfl ?_
 have f8 := hva0.ext cb2
 refine sp rfl (px_build rfl (xbld25x0x1 rfl f8.one _)) ?_
 refine sx_store (vs := [.bool false, va]) rfl rfl fb2 rfl Tryz.sizeOf25 (nbl rfl) (one_cons rfl (one_cons f8.one one_nil)) (fun w9 sw9 fw9 cw9 => ?_)
 have zw9 := cw9.size
 have gw9 : Blk w9 b2 [.bool false, va] 25 := fw9
 refine wl_nil (q_n (k4 _ _ ?_))
 refine sx_retc ?_
 refine sx_ret1 Tryz.results33 ⟨_, rfl, gw9.loadA (vs := [.bool false, va]) (look_lit rfl) Tryz.isAgg25 Tryz.sizeOf25⟩ ?_
 have q10 := Chg.step (l := 0) (h := 0) (Chg.zero (l := 0) (h := 0) cb2) cw9 (by omega)
 exact ⟨(by simp [nz, h16]), q10⟩

end Go.Proofs.YtoeclobdbblohaaGreatDoor
