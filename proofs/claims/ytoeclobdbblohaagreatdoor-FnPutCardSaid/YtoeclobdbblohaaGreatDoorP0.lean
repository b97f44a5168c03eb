/- Contracts of functions of the program: what each call returns, and that it changes nothing that was. Conditions: as each says. -/
import Derived.Test.YtoeclobdbblohaaGreatDoorTy
import Derived.Test.YtoeclobdbblohaaGreatDoorNatJ
import Derived.Test.YtoeclobdbblohaaGreatDoorSxB
import Derived.Test.YtoeclobdbblohaaGreatDoorPair
import Derived.Test.YtoeclobdbblohaaGreatDoorSxW
import Derived.Test.YtoeclobdbblohaaGreatDoorNatI
import Derived.Test.YtoeclobdbblohaaGreatDoorTab
import Derived.Test.YtoeclobdbblohaaGreatDoorLay
import Derived.Test.YtoeclobdbblohaaGreatDoorLayB
import Derived.Test.YtoeclobdbblohaaGreatDoorNatX
import Derived.Test.YtoeclobdbblohaaGreatDoorSxP
set_option linter.unusedVariables false
set_option linter.unusedSimpArgs false
namespace Go.Proofs.YtoeclobdbblohaaGreatDoor
open Go Go.RowKit
set_option maxRecDepth 100000
theorem c_l01New {w : World} {vb : Value} {lvb uvb : Nat} {bs : List Int} (hvb : SlB w lvb uvb vb (bs)) (hb8 : ∀ j, j < bs.length → 0 ≤ bs.getD j 0 ∧ bs.getD j 0 ≤ 255) (hbl : bs.length ≤ 1048576) :
  Ret Tryz.prog 28 [vb] w fun v w' => ∃ c h2, v = .pointer (some ⟨c, 0, none⟩) ∧ Blk w' c [vb, .int .i64 (0), .int .i64 (h2)] 97 ∧ (0 ≤ h2 ∧ h2 ≤ 1073741823) ∧ (w.heap.size ≤ c ∧ c < w'.heap.size) ∧ Chg 0 0 w w' := by
 refine sx_enter Tryz.func28 rfl Tryz.ntmps28 (nbl rfl) ?_
 refine sx_seq fun K1 k1 => sx_region ?_
 refine av rfl rfl (wl_nil (q_n (k1 _ _ ?_)))
 refine sx_seq fun K2 k2 => sx_region ?_
 refine mv rfl rfl (sp rfl (px_len rfl Tryz.underlying22 hvb) ?_)
 refine sp rfl (px_add rfl rfl (by omega)) ?_
 refine av rfl rfl (wl_nil (q_n (k2 _ _ ?_)))
 refine sx_seq fun K3 k3 => ?_
 refine sx_seq fun K4 k4 => sx_region ?_
 refine av rfl rfl (wl_nil (q_n (k4 _ _ ?_)))
 refine sx_block ?_
 refine sx_loop (fun mm aa w' => ∃ (k : Nat) (h : Int), Agr 32 [(0, vb), (3, .int .i64 h), (4, .int .i64 ↑k)] aa ∧ Chg 0 0 w w' ∧ (mm = bs.length - k) ∧ (k ≤ bs.length) ∧ (0 ≤ h ∧ h ≤ 1073741823)) (_) (fun a ha => ⟨0, (1616 + (bs.length : Int)), ha.sub (Sub.c 0 rfl (.c 3 (look_int (t := 3) rfl (by first | omega | simp)) (.c 4 (look_int (t := 4) rfl (by first | omega | simp)) .nil))), Chg.refl _ _ _, rfl, by omega, by omega⟩) ?_
 rintro mm aa wl5 ⟨k, h, hAwl5, cwl5, hm, hk, hh⟩
 refine (show cw Tryz.prog 32 _ _ _ wl5 from ?_) aa hAwl5
 clear hAwl5
 have zwl5 := cwl5.size
 have hv8 := hb8 k
 refine sx_seq fun K6 k6 => ?_
 refine sx_seq fun K7 k7 => sx_region ?_
 refine mv rfl rfl (mv rfl rfl ?_)
 have f8 := hvb.ext cwl5
 refine sp rfl (px_len rfl Tryz.underlying22 f8) ?_
 refine sp rfl (px_lt rfl rfl) ?_
 refine mv rfl rfl ?_
 refine sx_tmpP (t := 12) rfl (fun h135 => ?_) (fun h135 => ?_)
 ·
  refine sx_guardT rfl rfl rfl ?_
  refine mv rfl rfl ?_
  refine sx_guardT rfl rfl rfl ?_
  refine sp rfl (px_lt rfl rfl) ?_
  refine sp rfl (px_pick rfl rfl) ?_
  refine wl_nil (q_n (k7 _ _ ?_))
  refine sx_condP rfl (fun h135x1 => ?_) (fun h135x1 => ?_)
  ·
   refine sx_skip ?_
   refine q_n (k6 _ _ ?_)
   refine sx_seq fun K9 k9 => ?_
   refine sx_block ?_
   refine sx_region ?_
   refine mv rfl rfl (sp rfl (px_mul rfl rfl (by omega)) ?_)
   refine mv rfl rfl (mv rfl rfl (sp rfl (px_index1 (j := k) rfl rfl (by omega) Tryz.underlying22 Tryz.sizeOf5 f8 (by omega)) ?_))
   refine sp rfl (px_load rfl (f8.load1 (at_u8 (by omega)) Tryz.isAgg5)) ?_
   refine sp rfl (px_conv8 Tryz.underlying5 Tryz.underlying3 rfl (hb8 _ (by omega))) ?_
   refine sp rfl (px_add rfl rfl (by omega)) ?_
   refine sp rfl (px_add rfl rfl (by omega)) ?_
   have hm10 := andI_mask (((h * 41) + ((bs).getD k 0)) + 7) (m := 1073741823) (by decide) (by decide)
   refine sp rfl (px_andW rfl rfl) ?_
   refine av rfl rfl (wl_nil ?_)
   refine q_bn (q_n (k9 _ _ ?_))
   refine sx_sub (Sub.c 0 rfl (.c 3 rfl (.c 4 rfl .nil))) ?_
   refine sx_region ?_
   refine mv rfl rfl (sp rfl (px_add rfl rfl (by omega)) ?_)
   refine av rfl rfl (wl_nil ?_)
   exact fun a ha => ⟨_, by omega, (k + 1), (andI (((h * 41) + ((bs).getD k 0)) + 7) 1073741823), ha.sub (Sub.c 0 rfl (.c 3 (look_int (t := 3) rfl (by first | omega | simp)) (.c 4 (look_int (t := 4) rfl (by first | omega | simp)) .nil))), cwl5, rfl, by omega, by omega⟩
  refine sx_exit ?_
  refine q_e (q_e (q_bx (q_n (k3 _ _ ?_))))
  refine sx_seq fun K11 k11 => sx_region ?_
  refine mv rfl rfl (mv rfl rfl (sp rfl (px_build rfl (xbld97x0x2 f8.one rfl _)) ?_))
  refine sx_box [vb, .int .i64 0, .int .i64 h] rfl rfl rfl (fun b12 w13 eb12 sb12 fb12 cb12 => ?_)
  have zw13 := cb12.size
  refine av rfl rfl (wl_nil (q_n (k11 _ _ ?_)))
  refine sx_sub (Sub.c 2 rfl .nil) ?_
  refine sx_retc ?_
  refine sx_ret1 Tryz.results28 rfl ?_
  exact ⟨_, _, rfl, fb12, by omega, by omega, (cwl5.t cb12)⟩
 refine sx_guardF rfl rfl rfl rfl rfl rfl ?_
 refine sx_guardF rfl rfl rfl rfl rfl rfl ?_
 refine sp rfl (px_pick rfl rfl) ?_
 refine wl_nil (q_n (k7 _ _ ?_))
 refine sx_condF rfl ?_
 refine sx_exit ?_
 refine q_e (q_e (q_bx (q_n (k3 _ _ ?_))))
 refine sx_seq fun K14 k14 => sx_region ?_
 refine mv rfl rfl (mv rfl rfl (sp rfl (px_build rfl (xbld97x0x2 f8.one rfl _)) ?_))
 refine sx_box [vb, .int .i64 0, .int .i64 h] rfl rfl rfl (fun b15 w16 eb15 sb15 fb15 cb15 => ?_)
 have zw16 := cb15.size
 refine av rfl rfl (wl_nil (q_n (k14 _ _ ?_)))
 refine sx_sub (Sub.c 2 rfl .nil) ?_
 refine sx_retc ?_
 refine sx_ret1 Tryz.results28 rfl ?_
 exact ⟨_, _, rfl, fb15, by omega, by omega, (cwl5.t cb15)⟩

theorem c_l01Byte {w : World} {c : Nat} {vb : Value} {lvb uvb : Nat} {bs : List Int} {i : Int} {h : Int} (hc : Blk w c [vb, .int .i64 i, .int .i64 h] 97) (hvb : SlB w lvb uvb vb (bs)) (hb8 : ∀ j, j < bs.length → 0 ≤ bs.getD j 0 ∧ bs.getD j 0 ≤ 255) (hbl : bs.length ≤ 1048576) (hi : 0 ≤ i ∧ i ≤ bs.length) (hdis : uvb ≤ c) :
  Ret Tryz.prog 91 [.pointer (some ⟨c, 0, none⟩)] w fun v w' => ∃ x i2 h2, v = .int .i64 (x) ∧ Blk w' c [vb, .int .i64 (i2), .int .i64 (h2)] 97 ∧ (0 ≤ x ∧ x ≤ 255) ∧ (0 ≤ i2 ∧ i2 ≤ (bs).length) ∧ Chg c (c + 1) w w' := by
 have clt := hc.lt
 refine sx_enter Tryz.func91 rfl Tryz.ntmps91 (nbl rfl) ?_
 refine sx_seq fun K1 k1 => sx_region ?_
 refine av rfl rfl (wl_nil (q_n (k1 _ _ ?_)))
 refine sx_seq fun K2 k2 => sx_region ?_
 refine mv rfl rfl (mv rfl rfl (sp rfl (px_nil rfl) ?_))
 refine sp rfl (px_field rfl xfld97x2) ?_
 refine sp rfl (px_load rfl (hc.load1 rfl Tryz.isAgg3)) ?_
 refine sp rfl (px_mulW rfl rfl) ?_
 refine sp rfl (px_addW rfl rfl) ?_
 refine sp rfl (px_nil rfl) ?_
 refine sp rfl (px_field rfl xfld97x2) ?_
 refine sx_store (vs := [.int .i64 (i64w ((i64w (h * 6364136223846793005)) + 1442695040888963407))]) rfl rfl hc rfl Tryz.sizeOf3 (nbl rfl) (o1 rfl) (fun w3 sw3 fw3 cw3 => ?_)
 have zw3 := cw3.size
 have gw3 : Blk w3 c [vb, .int .i64 i, .int .i64 (i64w ((i64w (h * 6364136223846793005)) + 1442695040888963407))] 97 := fw3
 refine wl_nil (q_n (k2 _ _ ?_))
 refine sx_seq fun K4 k4 => ?_
 have f5 := hvb.chg cw3 (by omega)
 refine dx_region (fun w' => Chg 0 0 w3 w') (by kernel_rfl) (Chg.zero (Chg.drew _)) ?_
 have d6 := Chg.drew w3
 have s6 : Chg 0 0 w3 (World.drew w3) := Chg.zero (Chg.drew _)
 have y6 : (World.drew w3).heap.size = w3.heap.size := rfl
 generalize World.drew w3 = w6 at *
 have zw6 := d6.size
 refine dt 0 rfl rfl rfl rfl s6 (fun _ hS => px_move rfl) ?_
 refine dt 1 rfl rfl rfl rfl s6 (fun _ hS => px_nil rfl) ?_
 refine dt 2 rfl rfl rfl rfl s6 (fun _ hS => px_field rfl xfld97x2) ?_
 refine dt 3 rfl rfl rfl rfl s6 (fun _ hS => px_load rfl ((gw3.chg hS (by omega)).load1 rfl Tryz.isAgg3)) ?_
 refine dt 4 rfl rfl rfl rfl s6 (fun _ hS => px_shrW rfl rfl (by decide)) ?_
 refine dt 5 rfl rfl rfl rfl s6 (fun _ hS => px_move rfl) ?_
 refine dt 6 rfl rfl rfl rfl s6 (fun _ hS => px_nil rfl) ?_
 refine dt 7 rfl rfl rfl rfl s6 (fun _ hS => px_field rfl xfld97x2) ?_
 refine dt 8 rfl rfl rfl rfl s6 (fun _ hS => px_load rfl ((gw3.chg hS (by omega)).load1 rfl Tryz.isAgg3)) ?_
 refine dt 9 rfl rfl rfl rfl s6 (fun _ hS => px_shrW rfl rfl (by decide)) ?_
 refine dt 10 rfl rfl rfl rfl s6 (fun _ hS => px_xorW rfl rfl) ?_
 have hm7 := andI_mask (xorI ((i64w ((i64w (h * 6364136223846793005)) + 1442695040888963407)).fdiv (2 ^ min (33 : Int).toNat 64)) ((i64w ((i64w (h * 6364136223846793005)) + 1442695040888963407)).fdiv (2 ^ min (45 : Int).toNat 64))) (m := 255) (by decide) (by decide)
 refine dt 11 rfl rfl rfl rfl s6 (fun _ hS => px_andW rfl rfl) ?_
 refine dt 12 rfl rfl rfl rfl s6 (fun _ hS => px_assign rfl) ?_
 refine dx_done (by kernel_rfl) ?_
 refine q_n (k4 _ _ ?_)
 refine sx_sub (Sub.c 0 rfl (.c 2 rfl (.c 3 rfl .nil))) ?_
 refine sx_seq fun K8 k8 => ?_
 refine sx_seq fun K9 k9 => ?_
 have f10 := gw3.ext d6
 have f11 := f5.ext d6
 refine dx_region (fun w' => Chg 0 0 w6 w') (by kernel_rfl) (Chg.zero (Chg.drew _)) ?_
 have d12 := Chg.drew w6
 have s12 : Chg 0 0 w6 (World.drew w6) := Chg.zero (Chg.drew _)
 have y12 : (World.drew w6).heap.size = w6.heap.size := rfl
 generalize World.drew w6 = w12 at *
 have zw12 := d12.size
 refine dt 0 rfl rfl rfl rfl s12 (fun _ hS => px_move rfl) ?_
 refine dt 1 rfl rfl rfl rfl s12 (fun _ hS => px_nil rfl) ?_
 refine dt 2 rfl rfl rfl rfl s12 (fun _ hS => px_field rfl xfld97x1) ?_
 refine dt 3 rfl rfl rfl rfl s12 (fun _ hS => px_load rfl ((f10.chg hS (by omega)).load1 rfl Tryz.isAgg3)) ?_
 refine dt 4 rfl rfl rfl rfl s12 (fun _ hS => px_move rfl) ?_
 refine dt 5 rfl rfl rfl rfl s12 (fun _ hS => px_nil rfl) ?_
 refine dt 6 rfl rfl rfl rfl s12 (fun _ hS => px_field rfl xfld97x0) ?_
 refine dt 7 rfl rfl rfl rfl s12 (fun _ hS => px_load rfl ((f10.chg hS (by omega)).load1 rfl Tryz.isAgg22)) ?_
 refine dt 8 rfl rfl rfl rfl s12 (fun _ hS => px_len rfl Tryz.underlying22 ((f11).chg hS (by omega))) ?_
 refine dt 9 rfl rfl rfl rfl s12 (fun _ hS => px_lt rfl rfl) ?_
 refine dx_done (by kernel_rfl) ?_
 refine q_n (k9 _ _ ?_)
 refine sx_condP rfl (fun h144 => ?_) (fun h144 => ?_)
 ·
  refine sx_seq fun K13 k13 => ?_
  have f14 := f10.ext d12
  have f15 := f11.ext d12
  refine dx_region (fun w' => Chg 0 0 w12 w') (by kernel_rfl) (Chg.zero (Chg.drew _)) ?_
  have d16 := Chg.drew w12
  have s16 : Chg 0 0 w12 (World.drew w12) := Chg.zero (Chg.drew _)
  have y16 : (World.drew w12).heap.size = w12.heap.size := rfl
  generalize World.drew w12 = w16 at *
  have zw16 := d16.size
  refine dt 0 rfl rfl rfl rfl s16 (fun _ hS => px_move rfl) ?_
  refine dt 1 rfl rfl rfl rfl s16 (fun _ hS => px_move rfl) ?_
  refine dt 2 rfl rfl rfl rfl s16 (fun _ hS => px_nil rfl) ?_
  refine dt 3 rfl rfl rfl rfl s16 (fun _ hS => px_field rfl xfld97x0) ?_
  refine dt 4 rfl rfl rfl rfl s16 (fun _ hS => px_load rfl ((f14.chg hS (by omega)).load1 rfl Tryz.isAgg22)) ?_
  refine dt 5 rfl rfl rfl rfl s16 (fun _ hS => px_move rfl) ?_
  refine dt 6 rfl rfl rfl rfl s16 (fun _ hS => px_nil rfl) ?_
  refine dt 7 rfl rfl rfl rfl s16 (fun _ hS => px_field rfl xfld97x1) ?_
  refine dt 8 rfl rfl rfl rfl s16 (fun _ hS => px_load rfl ((f14.chg hS (by omega)).load1 rfl Tryz.isAgg3)) ?_
  refine dt 9 rfl rfl rfl rfl s16 (fun _ hS => px_index1 (j := i.toNat) rfl rfl (by omega) Tryz.underlying22 Tryz.sizeOf5 ((f15).chg hS (by omega)) (by omega)) ?_
  refine dt 10 rfl rfl rfl rfl s16 (fun _ hS => px_load rfl (((f15).chg hS (by omega)).load1 (at_u8 (by omega)) Tryz.isAgg5)) ?_
  refine dt 11 rfl rfl rfl rfl s16 (fun _ hS => px_conv8 Tryz.underlying5 Tryz.underlying3 rfl (hb8 _ (by omega))) ?_
  refine dt 12 rfl rfl rfl rfl s16 (fun _ hS => px_addW rfl rfl) ?_
  have hm17 := andI_mask (i64w ((andI (xorI ((i64w ((i64w (h * 6364136223846793005)) + 1442695040888963407)).fdiv (2 ^ min (33 : Int).toNat 64)) ((i64w ((i64w (h * 6364136223846793005)) + 1442695040888963407)).fdiv (2 ^ min (45 : Int).toNat 64))) 255) + ((bs).getD i.toNat 0))) (m := 255) (by decide) (by decide)
  refine dt 13 rfl rfl rfl rfl s16 (fun _ hS => px_andW rfl rfl) ?_
  refine dt 14 rfl rfl rfl rfl s16 (fun _ hS => px_assign rfl) ?_
  refine dx_done (by kernel_rfl) ?_
  refine q_n (k13 _ _ ?_)
  refine sx_sub (Sub.c 0 rfl (.c 2 rfl (.c 3 rfl .nil))) ?_
  refine sx_region ?_
  refine mv rfl rfl (mv rfl rfl (sp rfl (px_nil rfl) ?_))
  refine sp rfl (px_field rfl xfld97x1) ?_
  have f18 := f14.ext d16
  refine sp rfl (px_load rfl (f18.load1 rfl Tryz.isAgg3)) ?_
  refine sp rfl (px_add rfl rfl (by omega)) ?_
  refine sp rfl (px_nil rfl) ?_
  refine sp rfl (px_field rfl xfld97x1) ?_
  refine sx_store (vs := [.int .i64 (i + 1)]) rfl rfl f18 rfl Tryz.sizeOf3 (nbl rfl) (o1 rfl) (fun w19 sw19 fw19 cw19 => ?_)
  have zw19 := cw19.size
  have gw19 : Blk w19 c [vb, .int .i64 (i + 1), .int .i64 (i64w ((i64w (h * 6364136223846793005)) + 1442695040888963407))] 97 := fw19
  refine wl_nil (q_n (k8 _ _ ?_))
  refine sx_seq fun K20 k20 => sx_region ?_
  refine mv rfl rfl (av rfl rfl (wl_nil (q_n (k20 _ _ ?_))))
  refine sx_retc ?_
  refine sx_ret1 Tryz.results91 rfl ?_
  have q21 := Chg.step (l := c) (h := (c + 1)) cw3 ((d6.t d12).t d16) (by omega)
  have q22 := Chg.step (l := c) (h := (c + 1)) q21 cw19 (by omega)
  exact ⟨_, _, _, rfl, gw19, by omega, by omega, q22⟩
 refine sx_skip ?_
 refine q_n (k8 _ _ ?_)
 refine sx_seq fun K23 k23 => sx_region ?_
 refine mv rfl rfl (av rfl rfl (wl_nil (q_n (k23 _ _ ?_))))
 refine sx_retc ?_
 refine sx_ret1 Tryz.results91 rfl ?_
 have f24 := f10.ext d12
 have q25 := Chg.step (l := c) (h := (c + 1)) cw3 (d6.t d12) (by omega)
 exact ⟨_, _, _, rfl, f24, by omega, by omega, q25⟩

theorem c_l01Below {w : World} {c : Nat} {vb : Value} {lvb uvb : Nat} {bs : List Int} {i : Int} {h : Int} {n : Int} (hc : Blk w c [vb, .int .i64 i, .int .i64 h] 97) (hvb : SlB w lvb uvb vb (bs)) (hb8 : ∀ j, j < bs.length → 0 ≤ bs.getD j 0 ∧ bs.getD j 0 ≤ 255) (hbl : bs.length ≤ 1048576) (hi : 0 ≤ i ∧ i ≤ bs.length) (hdis : uvb ≤ c) (hn : 1 ≤ n ∧ n ≤ 1000000000) :
  Ret Tryz.prog 54 [.pointer (some ⟨c, 0, none⟩), .int .i64 n] w fun v w' => ∃ x i2 h2, v = .int .i64 (x) ∧ Blk w' c [vb, .int .i64 (i2), .int .i64 (h2)] 97 ∧ (0 ≤ x ∧ x < n) ∧ (0 ≤ i2 ∧ i2 ≤ (bs).length) ∧ Chg c (c + 1) w w' := by
 have clt := hc.lt
 refine sx_enter Tryz.func54 rfl Tryz.ntmps54 (nbl rfl) ?_
 refine sx_seq fun K1 k1 => sx_region ?_
 refine av rfl rfl (wl_nil (q_n (k1 _ _ ?_)))
 refine sx_seq fun K2 k2 => ?_
 refine sx_seq fun K3 k3 => sx_region ?_
 refine mv rfl rfl (sp rfl (px_le rfl rfl) ?_)
 refine wl_nil (q_n (k3 _ _ ?_))
 have h153 : ¬ ((n : Int) ≤ 0) := by omega
 refine sx_condPF rfl h153 ?_
 refine sx_skip ?_
 refine q_n (k2 _ _ ?_)
 refine sx_seq fun K4 k4 => ?_
 refine sx_seq fun K5 k5 => sx_region ?_
 refine mv rfl rfl (sp rfl (px_le rfl rfl) ?_)
 refine wl_nil (q_n (k5 _ _ ?_))
 refine sx_condP rfl (fun h156 => ?_) (fun h156 => ?_)
 ·
  refine sx_seq fun K6 k6 => sx_region ?_
  refine mv rfl rfl (sx_call rfl rfl Tryz.call91 (c_l01Byte hc hvb (by assumption) (by omega) (by omega) (by omega)) (fun v7 w7 p7 => ?_))
  obtain ⟨x7, i27, h27, rfl, xc_7, hx7, hi27, c7⟩ := p7
  have zw7 := c7.size
  refine mv rfl rfl (sp rfl (px_rem rfl rfl (by omega) (by omega)) ?_)
  refine av rfl rfl (wl_nil (q_n (k6 _ _ ?_)))
  refine sx_retc ?_
  refine q_r (sx_ret1 Tryz.results54 rfl ?_)
  have hmp := Int.emod_nonneg x7 (show n ≠ 0 by omega)
  have hml := Int.emod_lt_of_pos x7 (show 0 < n by omega)
  exact ⟨_, _, _, rfl, xc_7, by omega, by omega, c7⟩
 refine sx_skip ?_
 refine q_n (k4 _ _ ?_)
 refine sx_seq fun K8 k8 => sx_region ?_
 refine mv rfl rfl (sx_call rfl rfl Tryz.call91 (c_l01Byte hc hvb (by assumption) (by omega) (by omega) (by omega)) (fun v9 w9 p9 => ?_))
 obtain ⟨x9, i29, h29, rfl, xc_9, hx9, hi29, c9⟩ := p9
 have zw9 := c9.size
 refine av rfl rfl (wl_nil (q_n (k8 _ _ ?_)))
 refine sx_seq fun K10 k10 => sx_region ?_
 refine mv rfl rfl ?_
 have f11 := hvb.chg c9 (by omega)
 refine sx_call rfl rfl Tryz.call91 (c_l01Byte xc_9 f11 (by assumption) (by omega) (by omega) (by omega)) (fun v12 w12 p12 => ?_)
 obtain ⟨x12, i212, h212, rfl, xc_12, hx12, hi212, c12⟩ := p12
 have zw12 := c12.size
 refine av rfl rfl (wl_nil (q_n (k10 _ _ ?_)))
 refine sx_seq fun K13 k13 => sx_region ?_
 refine mv rfl rfl ?_
 have f14 := f11.chg c12 (by omega)
 refine sx_call rfl rfl Tryz.call91 (c_l01Byte xc_12 f14 (by assumption) (by omega) (by omega) (by omega)) (fun v15 w15 p15 => ?_)
 obtain ⟨x15, i215, h215, rfl, xc_15, hx15, hi215, c15⟩ := p15
 have zw15 := c15.size
 refine av rfl rfl (wl_nil (q_n (k13 _ _ ?_)))
 refine sx_sub (Sub.c 0 rfl (.c 1 rfl (.c 4 rfl (.c 5 rfl (.c 6 rfl (.c 7 rfl .nil)))))) ?_
 refine sx_seq fun K16 k16 => sx_region ?_
 refine mv rfl rfl ?_
 have f17 := f14.chg c15 (by omega)
 refine sx_call rfl rfl Tryz.call91 (c_l01Byte xc_15 f17 (by assumption) (by omega) (by omega) (by omega)) (fun v18 w18 p18 => ?_)
 obtain ⟨x18, i218, h218, rfl, xc_18, hx18, hi218, c18⟩ := p18
 have zw18 := c18.size
 refine av rfl rfl (wl_nil (q_n (k16 _ _ ?_)))
 refine sx_seq fun K19 k19 => sx_region ?_
 refine mv rfl rfl (sp rfl (px_mul rfl rfl (by omega)) ?_)
 refine mv rfl rfl (sp rfl (px_mul rfl rfl (by omega)) ?_)
 refine sp rfl (px_add rfl rfl (by omega)) ?_
 refine mv rfl rfl (sp rfl (px_mul rfl rfl (by omega)) ?_)
 refine sp rfl (px_add rfl rfl (by omega)) ?_
 refine mv rfl rfl (sp rfl (px_add rfl rfl (by omega)) ?_)
 refine mv rfl rfl (sp rfl (px_rem rfl rfl (by omega) (by omega)) ?_)
 refine av rfl rfl (wl_nil (q_n (k19 _ _ ?_)))
 refine sx_sub (Sub.c 4 rfl .nil) ?_
 refine sx_retc ?_
 refine sx_ret1 Tryz.results54 rfl ?_
 have hmp := Int.emod_nonneg ((((x9 * 16777216) + (x12 * 65536)) + (x15 * 256)) + x18) (show n ≠ 0 by omega)
 have hml := Int.emod_lt_of_pos ((((x9 * 16777216) + (x12 * 65536)) + (x15 * 256)) + x18) (show 0 < n by omega)
 have q20 := Chg.step (l := c) (h := (c + 1)) c9 c12 (by omega)
 have q21 := Chg.step (l := c) (h := (c + 1)) q20 c15 (by omega)
 have q22 := Chg.step (l := c) (h := (c + 1)) q21 c18 (by omega)
 exact ⟨_, _, _, rfl, xc_18, by omega, by omega, q22⟩

theorem c_l01Str {w : World} {c : Nat} {vb : Value} {lvb uvb : Nat} {bs : List Int} {i : Int} {h : Int} {vl : Value} {lvl uvl : Nat} {zs : List ByteArray} (hc : Blk w c [vb, .int .i64 i, .int .i64 h] 97) (hvb : SlB w lvb uvb vb (bs)) (hvl : SlS w lvl uvl vl (zs)) (hb8 : ∀ j, j < bs.length → 0 ≤ bs.getD j 0 ∧ bs.getD j 0 ≤ 255) (hbl : bs.length ≤ 1048576) (hi : 0 ≤ i ∧ i ≤ bs.length) (hdis : uvb ≤ c) (hz : 1 ≤ zs.length ∧ zs.length ≤ 1000) (hd2 : uvl ≤ c ∨ c < lvl) :
  Ret Tryz.prog 84 [.pointer (some ⟨c, 0, none⟩), vl] w fun v w' => ∃ s i2 h2, v = .string (s) ∧ Blk w' c [vb, .int .i64 (i2), .int .i64 (h2)] 97 ∧ (s ∈ zs) ∧ (0 ≤ i2 ∧ i2 ≤ (bs).length) ∧ Chg c (c + 1) w w' := by
 have clt := hc.lt
 refine sx_enter Tryz.func84 rfl Tryz.ntmps84 (nbl rfl) ?_
 refine sx_seq fun K1 k1 => sx_region ?_
 refine av rfl rfl (wl_nil (q_n (k1 _ _ ?_)))
 refine sx_seq fun K2 k2 => sx_region ?_
 refine mv rfl rfl (mv rfl rfl (mv rfl rfl (sp rfl (px_len rfl Tryz.underlying65 hvl) ?_)))
 refine sx_call rfl rfl Tryz.call54 (c_l01Below hc hvb (by assumption) (by omega) (by omega) (by omega) (by omega)) (fun v3 w3 p3 => ?_)
 obtain ⟨x3, i23, h23, rfl, xc_3, hx3, hi23, c3⟩ := p3
 have zw3 := c3.size
 have f4 := hvl.chg c3 (by omega)
 refine sp rfl (px_index1 (j := x3.toNat) rfl rfl (by omega) Tryz.underlying65 Tryz.sizeOf9 f4 (by omega)) ?_
 refine sp rfl (px_load rfl (f4.load1 (at_str (by omega)) Tryz.isAgg9)) ?_
 refine av rfl rfl (wl_nil (q_n (k2 _ _ ?_)))
 refine sx_retc ?_
 refine sx_ret1 Tryz.results84 rfl ?_
 exact ⟨_, _, _, rfl, xc_3, mem_getDS (by omega), by omega, c3⟩

theorem c_l08Cur {w : World} {c : Nat} {vb : Value} {lvb uvb : Nat} {bs : List Int} {i : Int} {h : Int} (hc : Blk w c [vb, .int .i64 i, .int .i64 h] 97) (hvb : SlB w lvb uvb vb (bs)) (hb8 : ∀ j, j < bs.length → 0 ≤ bs.getD j 0 ∧ bs.getD j 0 ≤ 255) (hbl : bs.length ≤ 1048576) (hi : 0 ≤ i ∧ i ≤ bs.length) (hdis : uvb ≤ c) :
  Ret Tryz.prog 89 [.pointer (some ⟨c, 0, none⟩)] w fun v w' => ∃ s i2 h2, v = .string (s) ∧ Blk w' c [vb, .int .i64 (i2), .int .i64 (h2)] 97 ∧ (Known s) ∧ (0 ≤ i2 ∧ i2 ≤ (bs).length) ∧ Chg c (c + 1) w w' := by
 have clt := hc.lt
 have clt := hc.lt
 have hkn : ∀ s ∈ ([⟨#[67, 72, 70]⟩, ⟨#[69, 85, 82]⟩, ⟨#[85, 83, 68]⟩, ⟨#[74, 80, 89]⟩, ⟨#[75, 87, 68]⟩, ⟨#[72, 85, 70]⟩, ⟨#[67, 76, 70]⟩] : List ByteArray), Known s := by decide
 refine sx_enter Tryz.func89 rfl Tryz.ntmps89 (nbl rfl) ?_
 refine sx_seq fun K1 k1 => sx_region ?_
 refine av rfl rfl (wl_nil (q_n (k1 _ _ ?_)))
 refine sx_seq fun K2 k2 => sx_region ?_
 refine mv rfl rfl ?_
 refine sx_lit7 rfl xelt65 rfl rfl rfl rfl rfl rfl rfl rfl rfl rfl rfl rfl rfl rfl (fun s3 ws3 ss3 fs3 cs3 => ?_)
 have ns3 := Own.norm (f := Value.string) (zs := [⟨#[67, 72, 70]⟩, ⟨#[69, 85, 82]⟩, ⟨#[85, 83, 68]⟩, ⟨#[74, 80, 89]⟩, ⟨#[75, 87, 68]⟩, ⟨#[72, 85, 70]⟩, ⟨#[67, 76, 70]⟩]) fs3
 have zws3 := cs3.size
 have f4 := hc.ext cs3
 have f5 := hvb.ext cs3
 refine sx_call rfl rfl Tryz.call84 (c_l01Str f4 f5 ns3.sv (by assumption) (by omega) (by omega) (by omega) (by first | omega | decide | simp) (by omega)) (fun v6 w6 p6 => ?_)
 obtain ⟨s6, i26, h26, rfl, xc_6, hx6, hi26, c6⟩ := p6
 have zw6 := c6.size
 refine av rfl rfl (wl_nil (q_n (k2 _ _ ?_)))
 refine sx_retc ?_
 refine sx_ret1 Tryz.results89 rfl ?_
 have q7 := Chg.step (l := c) (h := (c + 1)) (Chg.zero (l := c) (h := (c + 1)) cs3) c6 (by omega)
 exact ⟨_, _, _, rfl, xc_6, hkn _ (by assumption), by omega, q7⟩

theorem c_l02Trim {w : World} {va : Value} {lva uva : Nat} {zs : List Int} (hva : OwnI w lva uva va intT (zs)) (hz : Lm zs) (h63 : zs.length ≤ 1000000) :
  Ret Tryz.prog 121 [va] w fun v w' => ∃ s, v = s ∧ OwnI w' (lva) (uva) s intT (dg (vl zs)) ∧ Chg 0 0 w w' := by
 refine sx_enter Tryz.func121 rfl Tryz.ntmps121 (nbl rfl) ?_
 refine sx_seq fun K1 k1 => sx_region ?_
 refine av rfl rfl (wl_nil (q_n (k1 _ _ ?_)))
 refine sx_seq fun K2 k2 => sx_region ?_
 refine mv rfl rfl (sp rfl (px_len rfl Tryz.underlying23 hva.sv) ?_)
 refine av rfl rfl (wl_nil (q_n (k2 _ _ ?_)))
 refine sx_seq fun K3 k3 => ?_
 refine sx_block ?_
 refine sx_loop (fun mm aa w' => ∃ (k : Nat), Agr 21 [(0, va), (3, .int .i64 ↑k)] aa ∧ Chg 0 0 w w' ∧ (mm = k) ∧ (k ≤ zs.length) ∧ (vl (zs.take k) = vl zs)) (_) (fun a ha => ⟨zs.length, ha.sub (Sub.c 0 rfl (.c 3 (look_int (t := 3) rfl (by first | omega | simp)) .nil)), Chg.refl _ _ _, rfl, by omega, vl_take_all zs⟩) ?_
 rintro mm aa wl4 ⟨k, hAwl4, cwl4, hm, hk, hv⟩
 refine (show cw Tryz.prog 21 _ _ _ wl4 from ?_) aa hAwl4
 clear hAwl4
 have zwl4 := cwl4.size
 refine sx_seq fun K5 k5 => ?_
 refine sx_seq fun K6 k6 => sx_region ?_
 refine mv rfl rfl (sp rfl (px_gt rfl rfl) ?_)
 refine mv rfl rfl ?_
 refine sx_tmpP (t := 8) rfl (fun h17 => ?_) (fun h17 => ?_)
 ·
  refine sx_guardT rfl rfl rfl ?_
  refine mv rfl rfl ?_
  refine sx_guardT rfl rfl rfl ?_
  refine mv rfl rfl ?_
  refine sx_guardT rfl rfl rfl ?_
  refine sp rfl (px_sub rfl rfl (by omega)) ?_
  refine sx_guardT rfl rfl rfl ?_
  have f7 := hva.ext cwl4
  refine sp rfl (px_index1 (j := (k - 1)) rfl rfl (by omega) Tryz.underlying23 Tryz.sizeOf3 f7.sv (by omega)) ?_
  refine sx_guardT rfl rfl rfl ?_
  refine sp rfl (px_load rfl (f7.sv.load1 (at_int (by omega)) Tryz.isAgg3)) ?_
  refine sx_guardT rfl rfl rfl ?_
  refine sp rfl (px_eq rfl rfl) ?_
  refine sp rfl (px_pick rfl rfl) ?_
  refine wl_nil (q_n (k6 _ _ ?_))
  refine sx_condP rfl (fun h17x1 => ?_) (fun h17x1 => ?_)
  ·
   refine sx_skip ?_
   refine q_n (k5 _ _ ?_)
   refine sx_block ?_
   refine sx_region ?_
   refine mv rfl rfl (sp rfl (px_sub rfl rfl (by omega)) ?_)
   refine av rfl rfl (wl_nil ?_)
   exact q_bn (fun a ha => ⟨_, by omega, (k - 1), ha.sub (Sub.c 0 rfl (.c 3 (look_int (t := 3) rfl (by first | omega | simp)) .nil)), cwl4, rfl, by omega, trim_step (by omega) hk (by rw [getD_take (by omega)]; exact h17x1) hv⟩)
  refine sx_exit ?_
  refine q_e (q_e (q_bx (q_n (k3 _ _ ?_))))
  refine sx_seq fun K8 k8 => sx_region ?_
  refine mv rfl rfl (mv rfl rfl (sp rfl (px_sliceTo (h := k) rfl rfl (by omega) Tryz.underlying23 Tryz.sizeOf3 f7.sv (by omega)) ?_))
  refine av rfl rfl (wl_nil (q_n (k8 _ _ ?_)))
  refine sx_sub (Sub.c 2 rfl .nil) ?_
  refine sx_retc ?_
  refine sx_ret1 Tryz.results121 rfl ?_
  have hd := trim_done hz hk hv (by first | exact .inl (by omega) | exact .inr (by rw [getD_take (by omega)]; assumption))
  rw [← hd]
  exact ⟨_, rfl, (Own.takeI f7 (h := k) (by omega)), cwl4⟩
 refine sx_guardF rfl rfl rfl rfl rfl rfl ?_
 refine sx_guardF rfl rfl rfl rfl rfl rfl ?_
 refine sx_guardF rfl rfl rfl rfl rfl rfl ?_
 refine sx_guardF rfl rfl rfl rfl rfl rfl ?_
 refine sx_guardF rfl rfl rfl rfl rfl rfl ?_
 refine sx_guardF rfl rfl rfl rfl rfl rfl ?_
 refine sp rfl (px_pick rfl rfl) ?_
 refine wl_nil (q_n (k6 _ _ ?_))
 refine sx_condF rfl ?_
 refine sx_exit ?_
 refine q_e (q_e (q_bx (q_n (k3 _ _ ?_))))
 refine sx_seq fun K9 k9 => sx_region ?_
 refine mv rfl rfl (mv rfl rfl ?_)
 have f10 := hva.ext cwl4
 refine sp rfl (px_sliceTo (h := k) rfl rfl (by omega) Tryz.underlying23 Tryz.sizeOf3 f10.sv (by omega)) ?_
 refine av rfl rfl (wl_nil (q_n (k9 _ _ ?_)))
 refine sx_sub (Sub.c 2 rfl .nil) ?_
 refine sx_retc ?_
 refine sx_ret1 Tryz.results121 rfl ?_
 have hd := trim_done hz hk hv (by first | exact .inl (by omega) | exact .inr (by rw [getD_take (by omega)]; assumption))
 rw [← hd]
 exact ⟨_, rfl, (Own.takeI f10 (h := k) (by omega)), cwl4⟩

theorem c_l02TrimS {w : World} {va : Value} {lva uva : Nat} {zs : List Int} (hva : Sl w lva uva va (zs)) (hz : Lm zs) (h63 : zs.length ≤ 1000000) :
  Ret Tryz.prog 121 [va] w fun v w' => ∃ s, v = s ∧ Sl w' (lva) (uva) s (dg (vl zs)) ∧ Chg 0 0 w w' := by
 refine sx_enter Tryz.func121 rfl Tryz.ntmps121 (nbl rfl) ?_
 refine sx_seq fun K1 k1 => sx_region ?_
 refine av rfl rfl (wl_nil (q_n (k1 _ _ ?_)))
 refine sx_seq fun K2 k2 => sx_region ?_
 refine mv rfl rfl (sp rfl (px_len rfl Tryz.underlying23 hva) ?_)
 refine av rfl rfl (wl_nil (q_n (k2 _ _ ?_)))
 refine sx_seq fun K3 k3 => ?_
 refine sx_block ?_
 refine sx_loop (fun mm aa w' => ∃ (k : Nat), Agr 21 [(0, va), (3, .int .i64 ↑k)] aa ∧ Chg 0 0 w w' ∧ (mm = k) ∧ (k ≤ zs.length) ∧ (vl (zs.take k) = vl zs)) (_) (fun a ha => ⟨zs.length, ha.sub (Sub.c 0 rfl (.c 3 (look_int (t := 3) rfl (by first | omega | simp)) .nil)), Chg.refl _ _ _, rfl, by omega, vl_take_all zs⟩) ?_
 rintro mm aa wl4 ⟨k, hAwl4, cwl4, hm, hk, hv⟩
 refine (show cw Tryz.prog 21 _ _ _ wl4 from ?_) aa hAwl4
 clear hAwl4
 have zwl4 := cwl4.size
 refine sx_seq fun K5 k5 => ?_
 refine sx_seq fun K6 k6 => sx_region ?_
 refine mv rfl rfl (sp rfl (px_gt rfl rfl) ?_)
 refine mv rfl rfl ?_
 refine sx_tmpP (t := 8) rfl (fun h17 => ?_) (fun h17 => ?_)
 ·
  refine sx_guardT rfl rfl rfl ?_
  refine mv rfl rfl ?_
  refine sx_guardT rfl rfl rfl ?_
  refine mv rfl rfl ?_
  refine sx_guardT rfl rfl rfl ?_
  refine sp rfl (px_sub rfl rfl (by omega)) ?_
  refine sx_guardT rfl rfl rfl ?_
  have f7 := hva.ext cwl4
  refine sp rfl (px_index1 (j := (k - 1)) rfl rfl (by omega) Tryz.underlying23 Tryz.sizeOf3 f7 (by omega)) ?_
  refine sx_guardT rfl rfl rfl ?_
  refine sp rfl (px_load rfl (f7.load1 (at_int (by omega)) Tryz.isAgg3)) ?_
  refine sx_guardT rfl rfl rfl ?_
  refine sp rfl (px_eq rfl rfl) ?_
  refine sp rfl (px_pick rfl rfl) ?_
  refine wl_nil (q_n (k6 _ _ ?_))
  refine sx_condP rfl (fun h17x1 => ?_) (fun h17x1 => ?_)
  ·
   refine sx_skip ?_
   refine q_n (k5 _ _ ?_)
   refine sx_block ?_
   refine sx_region ?_
   refine mv rfl rfl (sp rfl (px_sub rfl rfl (by omega)) ?_)
   refine av rfl rfl (wl_nil ?_)
   exact q_bn (fun a ha => ⟨_, by omega, (k - 1), ha.sub (Sub.c 0 rfl (.c 3 (look_int (t := 3) rfl (by first | omega | simp)) .nil)), cwl4, rfl, by omega, trim_step (by omega) hk (by rw [getD_take (by omega)]; exact h17x1) hv⟩)
  refine sx_exit ?_
  refine q_e (q_e (q_bx (q_n (k3 _ _ ?_))))
  refine sx_seq fun K8 k8 => sx_region ?_
  refine mv rfl rfl (mv rfl rfl (sp rfl (px_sliceTo (h := k) rfl rfl (by omega) Tryz.underlying23 Tryz.sizeOf3 f7 (by omega)) ?_))
  refine av rfl rfl (wl_nil (q_n (k8 _ _ ?_)))
  refine sx_sub (Sub.c 2 rfl .nil) ?_
  refine sx_retc ?_
  refine sx_ret1 Tryz.results121 rfl ?_
  have hd := trim_done hz hk hv (by first | exact .inl (by omega) | exact .inr (by rw [getD_take (by omega)]; assumption))
  rw [← hd]
  exact ⟨_, rfl, (Sv.takeI f7 (h := k) (by omega)), cwl4⟩
 refine sx_guardF rfl rfl rfl rfl rfl rfl ?_
 refine sx_guardF rfl rfl rfl rfl rfl rfl ?_
 refine sx_guardF rfl rfl rfl rfl rfl rfl ?_
 refine sx_guardF rfl rfl rfl rfl rfl rfl ?_
 refine sx_guardF rfl rfl rfl rfl rfl rfl ?_
 refine sx_guardF rfl rfl rfl rfl rfl rfl ?_
 refine sp rfl (px_pick rfl rfl) ?_
 refine wl_nil (q_n (k6 _ _ ?_))
 refine sx_condF rfl ?_
 refine sx_exit ?_
 refine q_e (q_e (q_bx (q_n (k3 _ _ ?_))))
 refine sx_seq fun K9 k9 => sx_region ?_
 refine mv rfl rfl (mv rfl rfl ?_)
 have f10 := hva.ext cwl4
 refine sp rfl (px_sliceTo (h := k) rfl rfl (by omega) Tryz.underlying23 Tryz.sizeOf3 f10 (by omega)) ?_
 refine av rfl rfl (wl_nil (q_n (k9 _ _ ?_)))
 refine sx_sub (Sub.c 2 rfl .nil) ?_
 refine sx_retc ?_
 refine sx_ret1 Tryz.results121 rfl ?_
 have hd := trim_done hz hk hv (by first | exact .inl (by omega) | exact .inr (by rw [getD_take (by omega)]; assumption))
 rw [← hd]
 exact ⟨_, rfl, (Sv.takeI f10 (h := k) (by omega)), cwl4⟩

theorem c_l02TrimD {w : World} {va : Value} {lva uva : Nat} {m : Nat} (hva : Sl w lva uva va (dg m)) (h63 : (dg m).length ≤ 1000000) :
  Ret Tryz.prog 121 [va] w fun v w' => ∃ s, v = s ∧ Sl w' (lva) (uva) s (dg m) ∧ Chg 0 0 w w' := by
 simpa only [vl_dg] using c_l02TrimS hva (Lm_dg m) h63

theorem c_l02Cap {w : World} {va : Value} {lva uva : Nat} {m : Nat} (hva : Sl w lva uva va (dg m)) (h63 : (dg m).length ≤ 1000000) :
  Ret Tryz.prog 120 [va] w fun v w' => ∃ s, v = s ∧ Sl w' (lva) (uva) s (dg (capN m)) ∧ Chg 0 0 w w' := by
 refine sx_enter Tryz.func120 rfl Tryz.ntmps120 (nbl rfl) ?_
 refine sx_seq fun K1 k1 => sx_region ?_
 refine av rfl rfl (wl_nil (q_n (k1 _ _ ?_)))
 refine sx_seq fun K2 k2 => sx_region ?_
 refine mv rfl rfl (sx_call rfl rfl Tryz.call121 (c_l02TrimD hva (by omega)) (fun v3 w3 p3 => ?_))
 obtain ⟨s3, rfl, os_3, c3⟩ := p3
 have zw3 := c3.size
 refine av rfl rfl (wl_nil (q_n (k2 _ _ ?_)))
 refine sx_seq fun K4 k4 => ?_
 refine sx_seq fun K5 k5 => sx_region ?_
 refine mv rfl rfl (sp rfl (px_len rfl Tryz.underlying23 os_3) ?_)
 refine sp rfl (px_gt rfl rfl) ?_
 refine wl_nil (q_n (k5 _ _ ?_))
 refine sx_condP rfl (fun h25 => ?_) (fun h25 => ?_)
 ·
  refine sx_seq fun K6 k6 => sx_region ?_
  refine av rfl rfl (wl_nil (q_n (k6 _ _ ?_)))
  refine sx_retc ?_
  refine q_r (sx_ret1 Tryz.results120 rfl ?_)
  rw [capN_no (by omega), dg_zero]
  exact ⟨_, rfl, Sv.nil _ _ _ _, c3⟩
 refine sx_skip ?_
 refine q_n (k4 _ _ ?_)
 refine sx_seq fun K7 k7 => sx_region ?_
 refine mv rfl rfl (av rfl rfl (wl_nil (q_n (k7 _ _ ?_))))
 refine sx_retc ?_
 refine sx_ret1 Tryz.results120 rfl ?_
 rw [capN_ok (by omega)]
 exact ⟨_, rfl, (Sv.mono os_3 (by omega) (by omega)), c3⟩

theorem c_l04Make {w : World} {n : Bool} {va : Value} {lva uva : Nat} {m : Nat} (hva : Sl w lva uva va (dg m)) (h63 : (dg m).length ≤ 1000000) :
  Ret Tryz.prog 97 [.bool n, va] w fun v w' => ∃ s, v = .agg #[.bool (ng (capI n m)), s] ∧ OwnI w' w.heap.size w'.heap.size s intT (dg (capI n m).natAbs) ∧ Chg 0 0 w w' := by
 have hva0 := hva.fit
 have hcap : (dg (capN m)).length ≤ 50 := by unfold capN; split; assumption; rw [dg_zero]; simp
 refine sx_enter Tryz.func97 rfl Tryz.ntmps97 (nbl rfl) ?_
 refine sx_seq fun K1 k1 => sx_region ?_
 refine sx_alloc [.bool false, (.slice none 0 0)] rfl Tryz.zeroValue25 rfl (fun b2 w3 eb2 sb2 fb2 cb2 => ?_)
 have zw3 := cb2.size
 refine wl_nil (q_n (k1 _ _ ?_))
 refine sx_seq fun K4 k4 => sx_region ?_
 refine mv rfl rfl ?_
 have f5 := hva0.ext cb2
 refine sx_call rfl rfl Tryz.call120 (c_l02Cap f5 (by omega)) (fun v6 w6 p6 => ?_)
 obtain ⟨s6, rfl, os_6, c6⟩ := p6
 have zw6 := c6.size
 refine av rfl rfl (wl_nil (q_n (k4 _ _ ?_)))
 refine sx_seq fun K7 k7 => sx_region ?_
 refine mv rfl rfl (mv rfl rfl ?_)
 refine sx_tmpB (t := 9) rfl (fun h10 => ?_) (fun h10 => ?_)
 ·
  refine sx_guardT rfl rfl rfl ?_
  refine mv rfl rfl ?_
  refine sx_guardT rfl rfl rfl ?_
  refine sp rfl (px_len rfl Tryz.underlying23 os_6) ?_
  refine sx_guardT rfl rfl rfl ?_
  refine sp rfl (px_gt rfl rfl) ?_
  refine sp rfl (px_pick rfl rfl) ?_
  refine sx_lit0 rfl xelt23 (fun s8 ws8 ss8 fs8 cs8 => ?_)
  have zws8 := cs8.size
  refine mv rfl rfl ?_
  have f10 := os_6.ext cs8
  refine sx_append rfl xelt23 rfl rfl fs8 f10 one_int (by omega) (by first | omega | (simp only [List.length_nil]; omega)) (by unfold maxLen; first | omega | (simp only [List.length_nil]; omega)) (fun a9 w9 fw9 cw9 => ?_)
  have nw9 := Own.norm (f := (Value.int .i64)) (zs := dg (capN m)) fw9
  have zw9 := cw9.size
  refine sp rfl (px_build rfl (xbld25x0x1 rfl nw9.one _)) ?_
  have f13 := (fb2.ext c6).ext cs8
  have f14 := f13.chg cw9 (by omega)
  refine sx_store (vs := [.bool (decide ((0 : Int) < ↑((dg (capN m)).length))), a9]) rfl rfl f14 rfl Tryz.sizeOf25 (nbl rfl) (one_cons rfl (one_cons nw9.one one_nil)) (fun w11 sw11 fw11 cw11 => ?_)
  have zw11 := cw11.size
  have gw11 : Blk w11 b2 [.bool (decide ((0 : Int) < ↑((dg (capN m)).length))), a9] 25 := fw11
  refine wl_nil (q_n (k7 _ _ ?_))
  refine sx_sub (Sub.c 4 rfl .nil) ?_
  refine sx_retc ?_
  refine sx_ret1 Tryz.results97 ⟨_, rfl, gw11.loadA (vs := [.bool (decide ((0 : Int) < ↑((dg (capN m)).length))), a9]) (look_lit rfl) Tryz.isAgg25 Tryz.sizeOf25⟩ ?_
  have hh := cap_sg n m
  rw [← hh.1, ← hh.2]
  have q15 := Chg.step (l := 0) (h := 0) (Chg.zero (l := 0) (h := 0) ((cb2.t c6).t cs8)) cw9 (by omega)
  have q16 := Chg.step (l := 0) (h := 0) q15 cw11 (by omega)
  have f17 := nw9.chg cw11 (by omega)
  exact ⟨_, by simp [nz, h10], (Own.mono f17 (by omega) (by omega)), q16⟩
 refine sx_guardF rfl rfl rfl rfl rfl rfl ?_
 refine sx_guardF rfl rfl rfl rfl rfl rfl ?_
 refine sx_guardF rfl rfl rfl rfl rfl rfl ?_
 refine sp rfl (px_pick rfl rfl) ?_
 refine sx_lit0 rfl xelt23 (fun s18 ws18 ss18 fs18 cs18 => ?_)
 have zws18 := cs18.size
 refine mv rfl rfl ?_
 have f20 := os_6.ext cs18
 refine sx_append rfl xelt23 rfl rfl fs18 f20 one_int (by omega) (by first | omega | (simp only [List.length_nil]; omega)) (by unfold maxLen; first | omega | (simp only [List.length_nil]; omega)) (fun a19 w19 fw19 cw19 => ?_)
 have nw19 := Own.norm (f := (Value.int .i64)) (zs := dg (capN m)) fw19
 have zw19 := cw19.size
 refine sp rfl (px_build rfl (xbld25x0x1 rfl nw19.one _)) ?_
 have f23 := (fb2.ext c6).ext cs18
 have f24 := f23.chg cw19 (by omega)
 refine sx_store (vs := [.bool false, a19]) rfl rfl f24 rfl Tryz.sizeOf25 (nbl rfl) (one_cons rfl (one_cons nw19.one one_nil)) (fun w21 sw21 fw21 cw21 => ?_)
 have zw21 := cw21.size
 have gw21 : Blk w21 b2 [.bool false, a19] 25 := fw21
 refine wl_nil (q_n (k7 _ _ ?_))
 refine sx_sub (Sub.c 4 rfl .nil) ?_
 refine sx_retc ?_
 refine sx_ret1 Tryz.results97 ⟨_, rfl, gw21.loadA (vs := [.bool false, a19]) (look_lit rfl) Tryz.isAgg25 Tryz.sizeOf25⟩ ?_
 have hh := cap_sg n m
 rw [← hh.1, ← hh.2]
 have q25 := Chg.step (l := 0) (h := 0) (Chg.zero (l := 0) (h := 0) ((cb2.t c6).t cs18)) cw19 (by omega)
 have q26 := Chg.step (l := 0) (h := 0) q25 cw21 (by omega)
 have f27 := nw19.chg cw21 (by omega)
 exact ⟨_, by simp [nz, h10], (Own.mono f27 (by omega) (by omega)), q26⟩

theorem c_l04MakeMin {w : World} {n : Bool} {va : Value} {lva uva : Nat} {zs : List Int} (hva : Sl w lva uva va (zs)) (hz : zs = dg (-9223372036854775808 : Int).natAbs) :
  Ret Tryz.prog 97 [.bool n, va] w fun v w' => ∃ s, v = .agg #[.bool (ng (capI n (-9223372036854775808 : Int).natAbs)), s] ∧ OwnI w' w.heap.size w'.heap.size s intT (dg (capI n (-9223372036854775808 : Int).natAbs).natAbs) ∧ Chg 0 0 w w' := by
 subst hz; exact c_l04Make hva (by rw [dg_min]; simp)

theorem c_l04MakeOk {w : World} {n : Bool} {va : Value} {lva uva : Nat} {zs : List Int} (hva : Sl w lva uva va (zs)) (hI : IOk n zs) :
  Ret Tryz.prog 97 [.bool n, va] w fun v w' => ∃ s, v = .agg #[.bool (n), s] ∧ OwnI w' w.heap.size w'.heap.size s intT (zs) ∧ Chg 0 0 w w' := by
 obtain ⟨x, rfl, rfl, hx⟩ := hI.int
 have h := c_l04Make (n := ng x) hva (by omega)
 rw [capI_sgI hx, sgI_ng] at h
 exact h

theorem c_sNatOf {w : World} {n : Int} (hn : 0 ≤ n ∧ n ≤ 9223372036854775807) :
  Ret Tryz.prog 119 [.int .i64 n] w fun v w' => ∃ s, v = s ∧ OwnI w' w.heap.size w'.heap.size s intT (dg (n).toNat) ∧ Chg 0 0 w w' := by
 have l0 := len_u64 (n := n) (by omega)
 refine sx_enter Tryz.func119 rfl Tryz.ntmps119 (nbl rfl) ?_
 refine sx_seq fun K1 k1 => sx_region ?_
 refine av rfl rfl (wl_nil (q_n (k1 _ _ ?_)))
 refine sx_seq fun K2 k2 => sx_region ?_
 refine sx_lit0 rfl xelt23 (fun s3 ws3 ss3 fs3 cs3 => ?_)
 have zws3 := cs3.size
 refine av rfl rfl (wl_nil (q_n (k2 _ _ ?_)))
 refine sx_seq fun K4 k4 => ?_
 refine sx_block ?_
 refine sx_loop (fun mm aa w' => ∃ (s : Value) (os : List Int) (m : Int), Agr 15 [(0, .int .i64 m), (3, s)] aa ∧ Chg w.heap.size ws3.heap.size ws3 w' ∧ Own w' w.heap.size w'.heap.size s intT os.length 1 (os.map (Value.int .i64)) ∧ (mm = m.toNat) ∧ (Lm os) ∧ (0 ≤ m ∧ m ≤ n) ∧ (vl os + Bs ^ os.length * m.toNat = n.toNat) ∧ (os.length + (dg m.toNat).length = (dg n.toNat).length) ∧ (os.length = 0 ∨ Bs ^ (os.length - 1) ≤ n.toNat)) (_) (fun a ha => ⟨s3, [], n, ha.sub (Sub.c 0 (look_int (t := 0) rfl (by first | omega | simp)) (.c 3 rfl .nil)), Chg.refl _ _ _, (fs3.mono (by omega) (by omega)), rfl, Lm.nil, by omega, by simp [vl], by simp, .inl rfl⟩) ?_
 rintro mm aa wl5 ⟨s, os, m, hAwl5, cwl5, hs_s, hm, hlm, hb, hv, hln, hl⟩
 refine (show cw Tryz.prog 15 _ _ _ wl5 from ?_) aa hAwl5
 clear hAwl5
 have zwl5 := cwl5.size
 refine sx_seq fun K6 k6 => ?_
 refine sx_seq fun K7 k7 => sx_region ?_
 refine mv rfl rfl (sp rfl (px_gt rfl rfl) ?_)
 refine wl_nil (q_n (k7 _ _ ?_))
 refine sx_condP rfl (fun h34 => ?_) (fun h34 => ?_)
 ·
  refine sx_skip ?_
  refine q_n (k6 _ _ ?_)
  refine sx_block ?_
  refine sx_seq fun K8 k8 => sx_region ?_
  refine mv rfl rfl (mv rfl rfl (sp rfl (px_rem rfl rfl (by omega) (by omega)) ?_))
  refine sx_lit1 rfl xelt23 rfl rfl (fun s9 ws9 ss9 fs9 cs9 => ?_)
  have ns9 := Own.norm (f := (Value.int .i64)) (zs := [m % 1000000000]) fs9
  have zws9 := cs9.size
  have f11 := hs_s.ext cs9
  refine sx_append rfl xelt23 rfl rfl f11 ns9.sv one_int (by omega) (by simp only [List.length_cons, List.length_nil]; omega) (by unfold maxLen; simp only [List.length_cons, List.length_nil]; omega) (fun a10 w10 fw10 cw10 => ?_)
  have nw10 := Own.app (f := (Value.int .i64)) (a := os) (b := [m % 1000000000]) fw10
  have zw10 := cw10.size
  refine av rfl rfl (wl_nil (q_n (k8 _ _ ?_)))
  refine sx_region ?_
  refine mv rfl rfl (sp rfl (px_quo rfl rfl (by omega) (by omega) (by omega)) ?_)
  refine av rfl rfl (wl_nil ?_)
  have q12 := Chg.step (l := w.heap.size) (h := ws3.heap.size) cwl5 cs9 (by omega)
  have q13 := Chg.step (l := w.heap.size) (h := ws3.heap.size) q12 cw10 (by omega)
  have hmd := mod_bd (s := m) (by omega)
  have hm0 : m / 1000000000 < m := by omega
  exact q_bn (fun a ha => ⟨_, by omega, a10, (os ++ ([m % 1000000000])), (m / 1000000000), ha.sub (Sub.c 0 (look_int (t := 0) rfl (by first | omega | simp)) (.c 3 rfl .nil)), q13, (nw10.mono (by omega) (by omega)), rfl, hlm.append (Lm.single hmd.1 hmd.2), by omega, of_stepI (by omega) hv, by have h9 := of_ln (m := m) (by omega); simp only [List.length_append, List.length_singleton]; omega, .inr (of_len (by omega) hv)⟩)
 refine sx_exit ?_
 refine q_e (q_e (q_bx (q_n (k4 _ _ ?_))))
 refine sx_seq fun K14 k14 => sx_region ?_
 refine mv rfl rfl (av rfl rfl (wl_nil (q_n (k14 _ _ ?_))))
 refine sx_retc ?_
 refine sx_ret1 Tryz.results119 rfl ?_
 have hm0 : m = 0 := by omega
 subst hm0
 have hd : os = dg n.toNat := dg_of hlm (by simpa using hv) hl
 subst hd
 have q15 := Chg.step (l := 0) (h := 0) (Chg.zero (l := 0) (h := 0) cs3) cwl5 (by omega)
 exact ⟨_, rfl, (Own.mono hs_s (by omega) (by omega)), q15⟩

theorem c_sIntOf {w : World} {n : Int} (hn : -9223372036854775808 ≤ n ∧ n ≤ 9223372036854775807) :
  Ret Tryz.prog 96 [.int .i64 n] w fun v w' => ∃ s, v = .agg #[.bool (ng n), s] ∧ OwnI w' w.heap.size w'.heap.size s intT (dg (n).natAbs) ∧ Chg 0 0 w w' := by
 refine sx_enter Tryz.func96 rfl Tryz.ntmps96 (nbl rfl) ?_
 refine sx_seq fun K1 k1 => sx_region ?_
 refine sx_alloc [.bool false, (.slice none 0 0)] rfl Tryz.zeroValue25 rfl (fun b2 w3 eb2 sb2 fb2 cb2 => ?_)
 have zw3 := cb2.size
 refine wl_nil (q_n (k1 _ _ ?_))
 refine sx_seq fun K4 k4 => ?_
 refine sx_seq fun K5 k5 => sx_region ?_
 refine mv rfl rfl (sp rfl (px_eq rfl rfl) ?_)
 refine wl_nil (q_n (k5 _ _ ?_))
 refine sx_condP rfl (fun h15 => ?_) (fun h15 => ?_)
 ·
  subst h15
  refine sx_seq fun K6 k6 => sx_region ?_
  refine sx_lit3 rfl xelt23 rfl rfl rfl rfl rfl rfl (fun s7 ws7 ss7 fs7 cs7 => ?_)
  have ns7 := Own.norm (f := (Value.int .i64)) (zs := [854775808, 223372036, 9]) fs7
  have zws7 := cs7.size
  refine sx_call rfl rfl Tryz.call97 (c_l04MakeMin ns7.sv (dg_min.symm)) (fun v8 w8 p8 => ?_)
  obtain ⟨s8, rfl, os_8, c8⟩ := p8
  have zw8 := c8.size
  have f10 := fb2.ext cs7
  have f11 := f10.ext c8
  refine sx_store (vs := [.bool (ng (capI true (-9223372036854775808 : Int).natAbs)), s8]) rfl rfl f11 rfl Tryz.sizeOf25 (nbl rfl) (one_cons rfl (one_cons os_8.one one_nil)) (fun w9 sw9 fw9 cw9 => ?_)
  have zw9 := cw9.size
  have gw9 : Blk w9 b2 [.bool (ng (capI true (-9223372036854775808 : Int).natAbs)), s8] 25 := fw9
  refine wl_nil (q_n (k6 _ _ ?_))
  refine sx_retc ?_
  refine q_r (sx_ret1 Tryz.results96 ⟨_, rfl, gw9.loadA (vs := [.bool (ng (capI true (-9223372036854775808 : Int).natAbs)), s8]) (look_lit rfl) Tryz.isAgg25 Tryz.sizeOf25⟩ ?_)
  have e : capI true (-9223372036854775808 : Int).natAbs = -9223372036854775808 := capI_min
  have f12 := os_8.chg cw9 (by omega)
  have hr := f12
  rw [e] at hr
  have q13 := Chg.step (l := 0) (h := 0) (Chg.zero (l := 0) (h := 0) ((cb2.t cs7).t c8)) cw9 (by omega)
  exact ⟨_, by rw [e], hr.mono (by omega) (by omega), q13⟩
 refine sx_skip ?_
 refine q_n (k4 _ _ ?_)
 refine sx_seq fun K14 k14 => ?_
 refine sx_seq fun K15 k15 => sx_region ?_
 refine mv rfl rfl (sp rfl (px_lt rfl rfl) ?_)
 refine wl_nil (q_n (k15 _ _ ?_))
 refine sx_condP rfl (fun h18 => ?_) (fun h18 => ?_)
 ·
  refine sx_seq fun K16 k16 => sx_region ?_
  refine mv rfl rfl (sp rfl (px_neg rfl (by omega)) ?_)
  refine sx_call rfl rfl Tryz.call119 (c_sNatOf (by omega)) (fun v17 w17 p17 => ?_)
  obtain ⟨s17, rfl, os_17, c17⟩ := p17
  have zw17 := c17.size
  refine sx_call rfl rfl Tryz.call97 (c_l04Make os_17.sv (by first | (have h9 := len_u64 (n := -n) (by omega); omega) | (have h9 := len_u64 (n := n) (by omega); omega))) (fun v18 w18 p18 => ?_)
  obtain ⟨s18, rfl, os_18, c18⟩ := p18
  have zw18 := c18.size
  have f21 := (fb2.ext c17).ext c18
  refine sx_store (vs := [.bool (ng (capI true (((-n)).toNat))), s18]) rfl rfl f21 rfl Tryz.sizeOf25 (nbl rfl) (one_cons rfl (one_cons os_18.one one_nil)) (fun w19 sw19 fw19 cw19 => ?_)
  have zw19 := cw19.size
  have gw19 : Blk w19 b2 [.bool (ng (capI true (((-n)).toNat))), s18] 25 := fw19
  refine wl_nil (q_n (k16 _ _ ?_))
  refine sx_retc ?_
  refine q_r (sx_ret1 Tryz.results96 ⟨_, rfl, gw19.loadA (vs := [.bool (ng (capI true (((-n)).toNat))), s18]) (look_lit rfl) Tryz.isAgg25 Tryz.sizeOf25⟩ ?_)
  have e : capI true (-n).toNat = n := capI_neg (by omega)
  have f22 := os_18.chg cw19 (by omega)
  have hr := f22
  rw [e] at hr
  have q23 := Chg.step (l := 0) (h := 0) (Chg.zero (l := 0) (h := 0) ((cb2.t c17).t c18)) cw19 (by omega)
  exact ⟨_, by rw [e], hr.mono (by omega) (by omega), q23⟩
 refine sx_skip ?_
 refine q_n (k14 _ _ ?_)
 refine sx_seq fun K24 k24 => sx_region ?_
 refine mv rfl rfl (sx_call rfl rfl Tryz.call119 (c_sNatOf (by omega)) (fun v25 w25 p25 => ?_))
 obtain ⟨s25, rfl, os_25, c25⟩ := p25
 have zw25 := c25.size
 refine sx_call rfl rfl Tryz.call97 (c_l04Make os_25.sv (by first | (have h9 := len_u64 (n := -n) (by omega); omega) | (have h9 := len_u64 (n := n) (by omega); omega))) (fun v26 w26 p26 => ?_)
 obtain ⟨s26, rfl, os_26, c26⟩ := p26
 have zw26 := c26.size
 have f29 := (fb2.ext c25).ext c26
 refine sx_store (vs := [.bool (ng (capI false ((n).toNat))), s26]) rfl rfl f29 rfl Tryz.sizeOf25 (nbl rfl) (one_cons rfl (one_cons os_26.one one_nil)) (fun w27 sw27 fw27 cw27 => ?_)
 have zw27 := cw27.size
 have gw27 : Blk w27 b2 [.bool (ng (capI false ((n).toNat))), s26] 25 := fw27
 refine wl_nil (q_n (k24 _ _ ?_))
 refine sx_retc ?_
 refine sx_ret1 Tryz.results96 ⟨_, rfl, gw27.loadA (vs := [.bool (ng (capI false ((n).toNat))), s26]) (look_lit rfl) Tryz.isAgg25 Tryz.sizeOf25⟩ ?_
 have e : capI false n.toNat = n := capI_pos (by omega)
 have f30 := os_26.chg cw27 (by omega)
 have hr := f30
 rw [e] at hr
 have q31 := Chg.step (l := 0) (h := 0) (Chg.zero (l := 0) (h := 0) ((cb2.t c25).t c26)) cw27 (by omega)
 exact ⟨_, by rw [e], hr.mono (by omega) (by omega), q31⟩

theorem c_l01Pick {w : World} {c : Nat} {vb : Value} {lvb uvb : Nat} {bs : List Int} {i : Int} {h : Int} {vl : Value} {lvl uvl : Nat} {zs : List Int} (hc : Blk w c [vb, .int .i64 i, .int .i64 h] 97) (hvb : SlB w lvb uvb vb (bs)) (hvl : Sl w lvl uvl vl (zs)) (hb8 : ∀ j, j < bs.length → 0 ≤ bs.getD j 0 ∧ bs.getD j 0 ≤ 255) (hbl : bs.length ≤ 1048576) (hi : 0 ≤ i ∧ i ≤ bs.length) (hdis : uvb ≤ c) (hz : 1 ≤ zs.length ∧ zs.length ≤ 1000) (hd2 : uvl ≤ c ∨ c < lvl) :
  Ret Tryz.prog 65 [.pointer (some ⟨c, 0, none⟩), vl] w fun v w' => ∃ x i2 h2, v = .int .i64 (x) ∧ Blk w' c [vb, .int .i64 (i2), .int .i64 (h2)] 97 ∧ (x ∈ zs) ∧ (0 ≤ i2 ∧ i2 ≤ (bs).length) ∧ Chg c (c + 1) w w' := by
 have clt := hc.lt
 refine sx_enter Tryz.func65 rfl Tryz.ntmps65 (nbl rfl) ?_
 refine sx_seq fun K1 k1 => sx_region ?_
 refine av rfl rfl (wl_nil (q_n (k1 _ _ ?_)))
 refine sx_seq fun K2 k2 => sx_region ?_
 refine mv rfl rfl (mv rfl rfl (mv rfl rfl (sp rfl (px_len rfl Tryz.underlying23 hvl) ?_)))
 refine sx_call rfl rfl Tryz.call54 (c_l01Below hc hvb (by assumption) (by omega) (by omega) (by omega) (by omega)) (fun v3 w3 p3 => ?_)
 obtain ⟨x3, i23, h23, rfl, xc_3, hx3, hi23, c3⟩ := p3
 have zw3 := c3.size
 have f4 := hvl.chg c3 (by omega)
 refine sp rfl (px_index1 (j := x3.toNat) rfl rfl (by omega) Tryz.underlying23 Tryz.sizeOf3 f4 (by omega)) ?_
 refine sp rfl (px_load rfl (f4.load1 (at_int (by omega)) Tryz.isAgg3)) ?_
 refine av rfl rfl (wl_nil (q_n (k2 _ _ ?_)))
 refine sx_retc ?_
 refine sx_ret1 Tryz.results65 rfl ?_
 exact ⟨_, _, _, rfl, xc_3, mem_getD (by omega), by omega, c3⟩

theorem c_l10Draw {w : World} {c : Nat} {vb : Value} {lvb uvb : Nat} {bs : List Int} {i : Int} {h : Int} (hc : Blk w c [vb, .int .i64 i, .int .i64 h] 97) (hvb : SlB w lvb uvb vb (bs)) (hb8 : ∀ j, j < bs.length → 0 ≤ bs.getD j 0 ∧ bs.getD j 0 ≤ 255) (hbl : bs.length ≤ 1048576) (hi : 0 ≤ i ∧ i ≤ bs.length) (hdis : uvb ≤ c) :
  Ret Tryz.prog 85 [.pointer (some ⟨c, 0, none⟩)] w fun v w' => ∃ s a b x p i2 h2, v = .agg #[.string (a), .string (b), .bool (ng x), s, .int .i64 (p)] ∧ OwnI w' w.heap.size w'.heap.size s intT (dg (x).natAbs) ∧ Blk w' c [vb, .int .i64 (i2), .int .i64 (h2)] 97 ∧ (Known a ∧ Known b ∧ a ≠ b) ∧ (1 ≤ x ∧ x ≤ 3000) ∧ (0 ≤ p ∧ p ≤ 4) ∧ (0 ≤ i2 ∧ i2 ≤ (bs).length) ∧ Chg c (c + 1) w w' := by
 have clt := hc.lt
 have clt := hc.lt
 have hkn2 : ∀ s ∈ ([⟨#[67, 72, 70]⟩, ⟨#[69, 85, 82]⟩] : List ByteArray), Known s ∧ s ≠ ⟨#[85, 83, 68]⟩ := by decide
 refine sx_enter Tryz.func85 rfl Tryz.ntmps85 (nbl rfl) ?_
 refine sx_seq fun K1 k1 => sx_region ?_
 refine sx_alloc [.string (⟨#[]⟩), .string (⟨#[]⟩), .bool false, (.slice none 0 0), .int .i64 0] rfl Tryz.zeroValue54 rfl (fun b2 w3 eb2 sb2 fb2 cb2 => ?_)
 have zw3 := cb2.size
 refine wl_nil (q_n (k1 _ _ ?_))
 refine sx_seq fun K4 k4 => sx_region ?_
 refine mv rfl rfl ?_
 have f5 := hc.ext cb2
 have f6 := hvb.ext cb2
 refine sx_call rfl rfl Tryz.call89 (c_l08Cur f5 f6 (by assumption) (by omega) (by omega) (by omega)) (fun v7 w7 p7 => ?_)
 obtain ⟨s7, i27, h27, rfl, xc_7, hk7, hi27, c7⟩ := p7
 have zw7 := c7.size
 refine av rfl rfl (wl_nil (q_n (k4 _ _ ?_)))
 refine sx_seq fun K8 k8 => sx_region ?_
 refine mv rfl rfl ?_
 have f9 := f6.chg c7 (by omega)
 refine sx_call rfl rfl Tryz.call89 (c_l08Cur xc_7 f9 (by assumption) (by omega) (by omega) (by omega)) (fun v10 w10 p10 => ?_)
 obtain ⟨s10, i210, h210, rfl, xc_10, hk10, hi210, c10⟩ := p10
 have zw10 := c10.size
 refine av rfl rfl (wl_nil (q_n (k8 _ _ ?_)))
 refine sx_seq fun K11 k11 => ?_
 refine sx_block ?_
 have f14 := (fb2.chg c7 (by omega)).chg c10 (by omega)
 have q15 := Chg.step (l := c) (h := (c + 1)) (Chg.zero (l := c) (h := (c + 1)) cb2) c7 (by omega)
 have q16 := Chg.step (l := c) (h := (c + 1)) q15 c10 (by omega)
 refine sx_loop (fun mm aa w' => ∃ (a : ByteArray) (b : ByteArray) (i2 : Int) (h2 : Int), Agr 28 [(0, .pointer (some ⟨c, 0, none⟩)), (2, .pointer (some ⟨b2, 0, none⟩)), (3, .string a), (4, .string b)] aa ∧ Chg c (c + 1) w w' ∧ Blk w' c [vb, .int .i64 i2, .int .i64 h2] 97 ∧ Blk w' b2 [.string (⟨#[]⟩), .string (⟨#[]⟩), .bool false, (.slice none 0 0), .int .i64 0] 54 ∧ (mm = (if a = b then 1 else 0)) ∧ (Known a) ∧ (Known b) ∧ (0 ≤ i2 ∧ i2 ≤ bs.length)) (_) (fun a ha => ⟨s7, s10, i210, h210, ha.sub (Sub.c 0 rfl (.c 2 rfl (.c 3 rfl (.c 4 rfl .nil)))), q16, xc_10, f14, rfl, by assumption, by assumption, by omega⟩) ?_
 rintro mm aa wl12 ⟨a, b, i2, h2, hAwl12, cwl12, hb_c, hb_b2, hm, hka, hkb, hi2⟩
 refine (show cw Tryz.prog 28 _ _ _ wl12 from ?_) aa hAwl12
 clear hAwl12
 have zwl12 := cwl12.size
 have lt17 := hb_c.lt
 have lt18 := hb_b2.lt
 refine sx_seq fun K19 k19 => ?_
 refine sx_seq fun K20 k20 => sx_region ?_
 refine mv rfl rfl (mv rfl rfl (sp rfl (px_eqS rfl rfl) ?_))
 refine wl_nil (q_n (k20 _ _ ?_))
 refine sx_condP rfl (fun h156 => ?_) (fun h156 => ?_)
 ·
  refine sx_skip ?_
  refine q_n (k19 _ _ ?_)
  refine sx_block ?_
  refine sx_seq fun K21 k21 => sx_region ?_
  refine mv rfl rfl ?_
  refine sx_lit2 rfl xelt65 rfl rfl rfl rfl (fun s22 ws22 ss22 fs22 cs22 => ?_)
  have ns22 := Own.norm (f := Value.string) (zs := [⟨#[67, 72, 70]⟩, ⟨#[69, 85, 82]⟩]) fs22
  have zws22 := cs22.size
  have f23 := hb_c.ext cs22
  have f24 := hvb.chg cwl12 (by omega)
  have f25 := f24.ext cs22
  refine sx_call rfl rfl Tryz.call84 (c_l01Str f23 f25 ns22.sv (by assumption) (by omega) (by omega) (by omega) (by first | omega | decide | simp) (by omega)) (fun v26 w26 p26 => ?_)
  obtain ⟨s26, i226, h226, rfl, xc_26, hx26, hi226, c26⟩ := p26
  have zw26 := c26.size
  refine av rfl rfl (wl_nil (q_n (k21 _ _ ?_)))
  refine sx_region ?_
  refine av rfl rfl (wl_nil ?_)
  have q27 := Chg.step (l := c) (h := (c + 1)) cwl12 cs22 (by omega)
  have q28 := Chg.step (l := c) (h := (c + 1)) q27 c26 (by omega)
  have f29 := hb_b2.ext cs22
  have f30 := f29.chg c26 (by omega)
  have hkk := hkn2 s26 (by assumption)
  have e1 : (if a = b then 1 else 0) = 1 := if_pos h156
  have e0 : (if s26 = (⟨#[85, 83, 68]⟩ : ByteArray) then 1 else 0) = 0 := if_neg hkk.2
  exact q_bn (fun a ha => ⟨_, by omega, s26, (⟨#[85, 83, 68]⟩), i226, h226, ha.sub (Sub.c 0 rfl (.c 2 rfl (.c 3 rfl (.c 4 rfl .nil)))), q28, xc_26, f30, rfl, hkk.1, by decide, by omega⟩)
 refine sx_exit ?_
 refine q_e (q_e (q_bx (q_n (k11 _ _ ?_))))
 refine sx_seq fun K31 k31 => sx_region ?_
 refine mv rfl rfl ?_
 have f32 := hvb.chg cwl12 (by omega)
 refine sx_call rfl rfl Tryz.call54 (c_l01Below hb_c f32 (by assumption) (by omega) (by omega) (by omega) (by omega)) (fun v33 w33 p33 => ?_)
 obtain ⟨x33, i233, h233, rfl, xc_33, hx33, hi233, c33⟩ := p33
 have zw33 := c33.size
 refine sp rfl (px_add rfl rfl (by omega)) ?_
 refine sx_call rfl rfl Tryz.call96 (c_sIntOf (by omega)) (fun v34 w34 p34 => ?_)
 obtain ⟨s34, rfl, os_34, c34⟩ := p34
 have zw34 := c34.size
 refine sx_alloc [.bool false, (.slice none 0 0)] rfl Tryz.zeroValue25 rfl (fun b35 w36 eb35 sb35 fb35 cb35 => ?_)
 have zw36 := cb35.size
 have f38 := os_34.ext cb35
 refine sx_store (vs := [.bool (ng (1 + x33)), s34]) rfl rfl fb35 rfl Tryz.sizeOf25 (nbl rfl) (one_cons rfl (one_cons f38.one one_nil)) (fun w37 sw37 fw37 cw37 => ?_)
 have zw37 := cw37.size
 have gw37 : Blk w37 b35 [.bool (ng (1 + x33)), s34] 25 := fw37
 refine wl_nil (q_n (k31 _ _ ?_))
 refine sx_seq fun K39 k39 => ?_
 have f42 := ((f32.chg c33 (by omega)).ext c34).ext cb35
 have f43 := f42.chg cw37 (by omega)
 have f44 := f38.chg cw37 (by omega)
 refine dx_region (fun w' => Chg c (b2 + 1) w37 w') (by kernel_rfl) (Chg.zero (Chg.drew _)) ?_
 have d45 := Chg.drew w37
 have s45 : Chg c (b2 + 1) w37 (World.drew w37) := Chg.zero (Chg.drew _)
 have y45 : (World.drew w37).heap.size = w37.heap.size := rfl
 generalize World.drew w37 = w45 at *
 have zw45 := d45.size
 refine dt 0 rfl rfl rfl rfl s45 (fun _ hS => px_move rfl) ?_
 refine dt 1 rfl rfl rfl rfl s45 (fun _ hS => px_move rfl) ?_
 refine dt 2 rfl rfl rfl rfl s45 (fun _ hS => px_load rfl ((gw37.chg hS (by omega)).loadA (vs := [.bool (ng (1 + x33)), s34]) (look_lit rfl) Tryz.isAgg25 Tryz.sizeOf25)) ?_
 refine dt 3 rfl rfl rfl rfl s45 (fun _ hS => px_move rfl) ?_
 refine dx_eff 4 rfl (by kernel_rfl) ?_
 refine sx_lit5 rfl xelt23 rfl rfl rfl rfl rfl rfl rfl rfl rfl rfl (fun s46 ws46 ss46 fs46 cs46 => ?_)
 have ns46 := Own.norm (f := (Value.int .i64)) (zs := [0, 1, 2, 3, 4]) fs46
 have zws46 := cs46.size
 have s47 : Chg c (b2 + 1) w37 ws46 := (Chg.zero (l := c) (h := (b2 + 1)) (d45.t cs46))
 refine wl_nil ?_
 refine dx_next s47 ?_
 refine dx_eff 5 rfl (by kernel_rfl) ?_
 have f49 := (xc_33.ext c34).ext cb35
 have f50 := f49.chg cw37 (by omega)
 have f52 := (f50.ext d45).ext cs46
 have f54 := (f43.ext d45).ext cs46
 refine sx_call rfl rfl Tryz.call65 (c_l01Pick f52 f54 ns46.sv (by assumption) (by omega) (by omega) (by omega) (by first | omega | simp) (by omega)) (fun v55 w55 p55 => ?_)
 obtain ⟨x55, i255, h255, rfl, xc_55, hx55, hi255, c55⟩ := p55
 have zw55 := c55.size
 have bx55 : 0 ≤ x55 ∧ x55 ≤ 4 := by have h9 := hx55; simp only [List.mem_cons, List.not_mem_nil, or_false] at h9; omega
 have q57 := Chg.step (l := c) (h := (b2 + 1)) (Chg.zero (l := c) (h := (b2 + 1)) (d45.t cs46)) c55 (by omega)
 have s56 : Chg c (b2 + 1) w37 w55 := q57
 refine wl_nil ?_
 refine dx_next s56 ?_
 refine dt 6 rfl rfl rfl rfl s56 (fun _ hS => px_build rfl (xbld27x0x1 rfl _)) ?_
 refine dt 7 rfl rfl rfl rfl s56 (fun _ hS => px_build rfl (xbld54x0x1x2 rfl rfl _)) ?_
 refine dx_eff 8 rfl (by kernel_rfl) ?_
 have f61 := ((hb_b2.chg c33 (by omega)).ext c34).ext cb35
 have f62 := f61.chg cw37 (by omega)
 have f64 := (f62.ext d45).ext cs46
 have f65 := f64.chg c55 (by omega)
 have f67 := (f44.ext d45).ext cs46
 have f68 := f67.chg c55 (by omega)
 refine sx_store (vs := [.string a, .string b, .bool (ng (1 + x33)), s34, .int .i64 x55]) rfl rfl f65 rfl Tryz.sizeOf54 (nbl rfl) (one_cons rfl (one_cons rfl (one_cons rfl (one_cons f68.one (o1 rfl))))) (fun w58 sw58 fw58 cw58 => ?_)
 have zw58 := cw58.size
 have gw58 : Blk w58 b2 [.string a, .string b, .bool (ng (1 + x33)), s34, .int .i64 x55] 54 := fw58
 have q70 := Chg.step (l := c) (h := (b2 + 1)) (Chg.zero (l := c) (h := (b2 + 1)) (d45.t cs46)) c55 (by omega)
 have q71 := Chg.step (l := c) (h := (b2 + 1)) q70 cw58 (by omega)
 have s69 : Chg c (b2 + 1) w37 w58 := q71
 refine wl_nil ?_
 refine dx_next s69 ?_
 refine dx_done (by kernel_rfl) ?_
 refine q_n (k39 _ _ ?_)
 refine sx_sub (Sub.c 2 rfl .nil) ?_
 refine sx_retc ?_
 refine sx_ret1 Tryz.results85 ⟨_, rfl, gw58.loadA (vs := [.string a, .string b, .bool (ng (1 + x33)), s34, .int .i64 x55]) (look_lit rfl) Tryz.isAgg54 Tryz.sizeOf54⟩ ?_
 have f72 := xc_55.chg cw58 (by omega)
 have q73 := Chg.step (l := c) (h := (c + 1)) cwl12 c33 (by omega)
 have q74 := Chg.step (l := c) (h := (c + 1)) q73 (c34.t cb35) (by omega)
 have q75 := Chg.step (l := c) (h := (c + 1)) q74 cw37 (by omega)
 have q76 := Chg.step (l := c) (h := (c + 1)) q75 (d45.t cs46) (by omega)
 have q77 := Chg.step (l := c) (h := (c + 1)) q76 c55 (by omega)
 have q78 := Chg.step (l := c) (h := (c + 1)) q77 cw58 (by omega)
 have f79 := f68.chg cw58 (by omega)
 exact ⟨_, _, _, (1 + x33), _, _, _, rfl, (Own.mono f79 (by omega) (by omega)), f72, ⟨by assumption, by assumption, by assumption⟩, by omega, by assumption, by omega, q78⟩

theorem c_l01Once {w : World} {c : Nat} {vb : Value} {lvb uvb : Nat} {bs : List Int} {i : Int} {h : Int} {n : Int} (hc : Blk w c [vb, .int .i64 i, .int .i64 h] 97) (hvb : SlB w lvb uvb vb (bs)) (hb8 : ∀ j, j < bs.length → 0 ≤ bs.getD j 0 ∧ bs.getD j 0 ≤ 255) (hbl : bs.length ≤ 1048576) (hi : 0 ≤ i ∧ i ≤ bs.length) (hdis : uvb ≤ c) (hn : 1 ≤ n ∧ n ≤ 1000000000) :
  Ret Tryz.prog 86 [.pointer (some ⟨c, 0, none⟩), .int .i64 n] w fun v w' => ∃ x i2 h2, v = .bool (decide ((x : Int) = 0)) ∧ Blk w' c [vb, .int .i64 (i2), .int .i64 (h2)] 97 ∧ (0 ≤ x ∧ x < n) ∧ (0 ≤ i2 ∧ i2 ≤ (bs).length) ∧ Chg c (c + 1) w w' := by
 have clt := hc.lt
 refine sx_enter Tryz.func86 rfl Tryz.ntmps86 (nbl rfl) ?_
 refine sx_seq fun K1 k1 => sx_region ?_
 refine av rfl rfl (wl_nil (q_n (k1 _ _ ?_)))
 refine sx_seq fun K2 k2 => sx_region ?_
 refine mv rfl rfl (mv rfl rfl (sx_call rfl rfl Tryz.call54 (c_l01Below hc hvb (by assumption) (by omega) (by omega) (by omega) (by omega)) (fun v3 w3 p3 => ?_)))
 obtain ⟨x3, i23, h23, rfl, xc_3, hx3, hi23, c3⟩ := p3
 have zw3 := c3.size
 refine sp rfl (px_eq rfl rfl) ?_
 refine av rfl rfl (wl_nil (q_n (k2 _ _ ?_)))
 refine sx_retc ?_
 refine sx_ret1 Tryz.results86 rfl ?_
 exact ⟨_, _, _, rfl, xc_3, by omega, by omega, c3⟩

theorem c_l08Table {w : World} :
  Ret Tryz.prog 90 [] w fun v w' => ∃ sl, v = sl ∧ Own w' w.heap.size w'.heap.size sl 92 20 4 (crCells tabS) ∧ Chg 0 0 w w' := by
 refine sx_enter Tryz.func90 rfl Tryz.ntmps90 (nbl rfl) ?_
 refine sx_seq fun K1 k1 => sx_region ?_
 refine av rfl rfl (wl_nil (q_n (k1 _ _ ?_)))
 refine sx_seq fun K2 k2 => sx_region ?_
 refine sp rfl (px_build rfl (xbld92x0x1x2x3 rfl rfl rfl rfl _)) ?_
 refine sp rfl (px_build rfl (xbld92x0x1x2x3 rfl rfl rfl rfl _)) ?_
 refine sp rfl (px_build rfl (xbld92x0x1x2x3 rfl rfl rfl rfl _)) ?_
 refine sp rfl (px_build rfl (xbld92x0x1x2x3 rfl rfl rfl rfl _)) ?_
 refine sp rfl (px_build rfl (xbld92x0x1x2x3 rfl rfl rfl rfl _)) ?_
 refine sp rfl (px_build rfl (xbld92x0x1x2x3 rfl rfl rfl rfl _)) ?_
 refine sp rfl (px_build rfl (xbld92x0x1x2x3 rfl rfl rfl rfl _)) ?_
 refine sp rfl (px_build rfl (xbld92x0x1x2x3 rfl rfl rfl rfl _)) ?_
 refine sp rfl (px_build rfl (xbld92x0x1x2x3 rfl rfl rfl rfl _)) ?_
 refine sp rfl (px_build rfl (xbld92x0x1x2x3 rfl rfl rfl rfl _)) ?_
 refine sp rfl (px_build rfl (xbld92x0x1x2x3 rfl rfl rfl rfl _)) ?_
 refine sp rfl (px_build rfl (xbld92x0x1x2x3 rfl rfl rfl rfl _)) ?_
 refine sp rfl (px_build rfl (xbld92x0x1x2x3 rfl rfl rfl rfl _)) ?_
 refine sp rfl (px_build rfl (xbld92x0x1x2x3 rfl rfl rfl rfl _)) ?_
 refine sp rfl (px_build rfl (xbld92x0x1x2x3 rfl rfl rfl rfl _)) ?_
 refine sp rfl (px_build rfl (xbld92x0x1x2x3 rfl rfl rfl rfl _)) ?_
 refine sp rfl (px_build rfl (xbld92x0x1x2x3 rfl rfl rfl rfl _)) ?_
 refine sp rfl (px_build rfl (xbld92x0x1x2x3 rfl rfl rfl rfl _)) ?_
 refine sp rfl (px_build rfl (xbld92x0x1x2x3 rfl rfl rfl rfl _)) ?_
 refine sp rfl (px_build rfl (xbld92x0x1x2x3 rfl rfl rfl rfl _)) ?_
 refine sx_litG (k := 4) (e := 92) (vs := crCells tabS) rfl rfl ⟨by decide, by decide⟩ (fun w => by kernel_rfl) (fun s3 ws3 ss3 fs3 cs3 => ?_)
 have zws3 := cs3.size
 refine av rfl rfl (wl_nil (q_n (k2 _ _ ?_)))
 refine sx_sub (Sub.c 0 rfl .nil) ?_
 refine sx_retc ?_
 refine sx_ret1 Tryz.results90 rfl ?_
 exact ⟨_, rfl, fs3, cs3⟩

theorem c_l08Find {w : World} {s : ByteArray} :
  Ret Tryz.prog 52 [.string s] w fun v w' => v = .agg #[.string ((curOf s).code), .string ((curOf s).number), .int .i64 ((curOf s).places), .int .i64 ((curOf s).cash)] ∧ Chg 0 0 w w' := by
 refine sx_enter Tryz.func52 rfl Tryz.ntmps52 (nbl rfl) ?_
 refine sx_seq fun K1 k1 => sx_region ?_
 refine sx_alloc [.string (⟨#[]⟩), .string (⟨#[]⟩), .int .i64 0, .int .i64 0] rfl Tryz.zeroValue92 rfl (fun b2 w3 eb2 sb2 fb2 cb2 => ?_)
 have zw3 := cb2.size
 refine wl_nil (q_n (k1 _ _ ?_))
 refine sx_seq fun K4 k4 => ?_
 refine sx_seq fun K5 k5 => sx_region ?_
 refine sx_call rfl rfl Tryz.call90 (c_l08Table) (fun v6 w6 p6 => ?_)
 obtain ⟨sl6, rfl, osl_6, c6⟩ := p6
 have zw6 := c6.size
 refine sp rfl (px_len rfl Tryz.underlying124 osl_6.sv) ?_
 refine mv rfl rfl (wl_nil (q_n (k5 _ _ ?_)))
 refine sx_block ?_
 refine sx_loop (fun mm aa w' => ∃ (k : Nat), Agr 18 [(0, .string s), (2, .pointer (some ⟨b2, 0, none⟩)), (5, v6), (6, .int .i64 20), (7, .int .i64 ↑k)] aa ∧ Chg 0 0 w6 w' ∧ (mm = 20 - k) ∧ (k ≤ 20) ∧ (∀ i, i < k → ¬ (tabS.getD i cr0).code = s)) (20) (fun a ha => ⟨0, ha.sub (Sub.c 0 rfl (.c 2 rfl (.c 5 rfl (.c 6 rfl (.c 7 (look_int (t := 7) rfl (by first | omega | simp)) .nil))))), Chg.refl _ _ _, rfl, by omega, fun i h => by omega⟩) ?_
 rintro mm aa wl7 ⟨k, hAwl7, cwl7, hm, hk, hn⟩
 refine (show cw Tryz.prog 18 _ _ _ wl7 from ?_) aa hAwl7
 clear hAwl7
 have zwl7 := cwl7.size
 refine sx_seq fun K8 k8 => sx_region ?_
 refine sp rfl (px_lt rfl rfl) ?_
 refine wl_nil (q_n (k8 _ _ ?_))
 refine sx_seq fun K9 k9 => ?_
 refine sx_condP rfl (fun h24 => ?_) (fun h24 => ?_)
 ·
  refine sx_skip ?_
  refine q_n (k9 _ _ ?_)
  refine sx_seq fun K10 k10 => ?_
  refine sx_block ?_
  refine sx_seq fun K11 k11 => sx_region ?_
  have f12 := osl_6.ext cwl7
  refine sp rfl (px_indexK (j := k) rfl rfl (by omega) Tryz.underlying124 Tryz.sizeOf92 f12.sv (by omega)) ?_
  refine sp rfl (px_load rfl (f12.sv.loadA (cr_look (l := tabS) (k := k) (by rw [show tabS.length = 20 from rfl]; omega)) Tryz.isAgg92 Tryz.sizeOf92)) ?_
  refine sx_alloc [.string (⟨#[]⟩), .string (⟨#[]⟩), .int .i64 0, .int .i64 0] rfl Tryz.zeroValue92 rfl (fun b13 w14 eb13 sb13 fb13 cb13 => ?_)
  have zw14 := cb13.size
  refine sx_store (vs := [.string ((tabS.getD k cr0).code), .string ((tabS.getD k cr0).number), .int .i64 ((tabS.getD k cr0).places), .int .i64 ((tabS.getD k cr0).cash)]) rfl rfl fb13 rfl Tryz.sizeOf92 (nbl rfl) (one_cons rfl (o3 rfl rfl rfl)) (fun w15 sw15 fw15 cw15 => ?_)
  have zw15 := cw15.size
  have gw15 : Blk w15 b13 [.string ((tabS.getD k cr0).code), .string ((tabS.getD k cr0).number), .int .i64 ((tabS.getD k cr0).places), .int .i64 ((tabS.getD k cr0).cash)] 92 := fw15
  refine wl_nil (q_n (k11 _ _ ?_))
  refine sx_seq fun K16 k16 => sx_region ?_
  refine sp rfl (px_field rfl xfld92x0) ?_
  refine sp rfl (px_load rfl (gw15.load1 rfl Tryz.isAgg9)) ?_
  refine mv rfl rfl (sp rfl (px_eqS rfl rfl) ?_)
  refine wl_nil (q_n (k16 _ _ ?_))
  refine sx_condP rfl (fun h25 => ?_) (fun h25 => ?_)
  ·
   refine sx_seq fun K17 k17 => sx_region ?_
   refine sp rfl (px_load rfl (gw15.loadA (vs := [.string ((tabS.getD k cr0).code), .string ((tabS.getD k cr0).number), .int .i64 ((tabS.getD k cr0).places), .int .i64 ((tabS.getD k cr0).cash)]) (look_lit rfl) Tryz.isAgg92 Tryz.sizeOf92)) ?_
   have f20 := (fb2.ext c6).ext cwl7
   have f21 := f20.ext cb13
   have f22 := f21.chg cw15 (by omega)
   refine sx_store (vs := [.string ((tabS.getD k cr0).code), .string ((tabS.getD k cr0).number), .int .i64 ((tabS.getD k cr0).places), .int .i64 ((tabS.getD k cr0).cash)]) rfl rfl f22 rfl Tryz.sizeOf92 (nbl rfl) (one_cons rfl (o3 rfl rfl rfl)) (fun w18 sw18 fw18 cw18 => ?_)
   have zw18 := cw18.size
   have gw18 : Blk w18 b2 [.string ((tabS.getD k cr0).code), .string ((tabS.getD k cr0).number), .int .i64 ((tabS.getD k cr0).places), .int .i64 ((tabS.getD k cr0).cash)] 92 := fw18
   refine wl_nil (q_n (k17 _ _ ?_))
   refine sx_retc ?_
   refine q_br (q_r (q_r (q_br (q_r (sx_ret1 Tryz.results52 ⟨_, rfl, gw18.loadA (vs := [.string ((tabS.getD k cr0).code), .string ((tabS.getD k cr0).number), .int .i64 ((tabS.getD k cr0).places), .int .i64 ((tabS.getD k cr0).cash)]) (look_lit rfl) Tryz.isAgg92 Tryz.sizeOf92⟩ ?_)))))
   have e := curOf_someS (by rw [show tabS.length = 20 from rfl]; omega) hn h25
   rw [e]
   have q23 := Chg.step (l := 0) (h := 0) (Chg.zero (l := 0) (h := 0) (((cb2.t c6).t cwl7).t cb13)) cw15 (by omega)
   have q24 := Chg.step (l := 0) (h := 0) q23 cw18 (by omega)
   exact ⟨rfl, q24⟩
  refine sx_skip ?_
  refine q_bn (q_n (k10 _ _ ?_))
  refine sx_region ?_
  refine sp rfl (px_add rfl rfl (by omega)) ?_
  refine mv rfl rfl (wl_nil ?_)
  have q25 := Chg.step (l := 0) (h := 0) (Chg.zero (l := 0) (h := 0) (cwl7.t cb13)) cw15 (by omega)
  exact fun a ha => ⟨_, by omega, (k + 1), ha.sub (Sub.c 0 rfl (.c 2 rfl (.c 5 rfl (.c 6 rfl (.c 7 (look_int (t := 7) rfl (by first | omega | simp)) .nil))))), q25, rfl, by omega, upto_succ hn h25⟩
 refine sx_exit ?_
 refine q_e (q_e (q_bx (q_n (k4 _ _ ?_))))
 refine sx_seq fun K26 k26 => sx_region ?_
 refine sp rfl (px_build rfl (xbld92x  _)) ?_
 have f29 := (fb2.ext c6).ext cwl7
 refine sx_store (vs := [.string (⟨#[]⟩), .string (⟨#[]⟩), .int .i64 0, .int .i64 0]) rfl rfl f29 rfl Tryz.sizeOf92 (nbl rfl) (one_cons rfl (o3 rfl rfl rfl)) (fun w27 sw27 fw27 cw27 => ?_)
 have zw27 := cw27.size
 have gw27 : Blk w27 b2 [.string (⟨#[]⟩), .string (⟨#[]⟩), .int .i64 0, .int .i64 0] 92 := fw27
 refine wl_nil (q_n (k26 _ _ ?_))
 refine sx_retc ?_
 refine sx_ret1 Tryz.results52 ⟨_, rfl, gw27.loadA (vs := [.string (⟨#[]⟩), .string (⟨#[]⟩), .int .i64 0, .int .i64 0]) (look_lit rfl) Tryz.isAgg92 Tryz.sizeOf92⟩ ?_
 have e := curOf_noneS (s := s) (fun i hi => hn i (by rw [show tabS.length = 20 from rfl] at hi; omega))
 rw [e]
 have q30 := Chg.step (l := 0) (h := 0) (Chg.zero (l := 0) (h := 0) ((cb2.t c6).t cwl7)) cw27 (by omega)
 exact ⟨rfl, q30⟩

theorem c_sCurKnown {w : World} {s : ByteArray} :
  Ret Tryz.prog 20 [.string s] w fun v w' => v = .bool (decide (Known s)) ∧ Chg 0 0 w w' := by
 refine sx_enter Tryz.func20 rfl Tryz.ntmps20 (nbl rfl) ?_
 refine sx_seq fun K1 k1 => sx_region ?_
 refine av rfl rfl (wl_nil (q_n (k1 _ _ ?_)))
 refine sx_seq fun K2 k2 => sx_region ?_
 refine mv rfl rfl (sx_call rfl rfl Tryz.call52 (c_l08Find) (fun v3 w3 p3 => ?_))
 obtain ⟨rfl, c3⟩ := p3
 have zw3 := c3.size
 refine sp rfl (px_fieldv rfl (xfv92x0 _)) ?_
 refine sp rfl (px_neS rfl rfl) ?_
 refine av rfl rfl (wl_nil (q_n (k2 _ _ ?_)))
 refine sx_retc ?_
 refine sx_ret1 Tryz.results20 rfl ?_
 exact ⟨bIff (known_iff s).symm, c3⟩

theorem c_l01In {w : World} {n : Int} {lo : Int} {hi : Int} :
  Ret Tryz.prog 135 [.int .i64 n, .int .i64 lo, .int .i64 hi] w fun v w' => v = .bool (decide (lo ≤ n ∧ n ≤ hi)) ∧ Chg 0 0 w w' := by
 refine sx_enter Tryz.func135 rfl Tryz.ntmps135 (nbl rfl) ?_
 refine sx_seq fun K1 k1 => sx_region ?_
 refine av rfl rfl (wl_nil (q_n (k1 _ _ ?_)))
 refine sx_seq fun K2 k2 => sx_region ?_
 refine mv rfl rfl (mv rfl rfl (sp rfl (px_ge rfl rfl) ?_))
 refine mv rfl rfl ?_
 refine sx_tmpP (t := 10) rfl (fun h5 => ?_) (fun h5 => ?_)
 ·
  refine sx_guardT rfl rfl rfl ?_
  refine mv rfl rfl ?_
  refine sx_guardT rfl rfl rfl ?_
  refine mv rfl rfl ?_
  refine sx_guardT rfl rfl rfl ?_
  refine sp rfl (px_le rfl rfl) ?_
  refine sp rfl (px_pick rfl rfl) ?_
  refine av rfl rfl (wl_nil (q_n (k2 _ _ ?_)))
  refine sx_retc ?_
  refine sx_ret1 Tryz.results135 rfl ?_
  exact ⟨(by first | exact bIff (by omega) | exact bFalse (by omega) | exact bTrue (by omega)), (Chg.refl 0 0 _)⟩
 refine sx_guardF rfl rfl rfl rfl rfl rfl ?_
 refine sx_guardF rfl rfl rfl rfl rfl rfl ?_
 refine sx_guardF rfl rfl rfl rfl rfl rfl ?_
 refine sp rfl (px_pick rfl rfl) ?_
 refine av rfl rfl (wl_nil (q_n (k2 _ _ ?_)))
 refine sx_retc ?_
 refine sx_ret1 Tryz.results135 rfl ?_
 exact ⟨(by first | exact bIff (by omega) | exact bFalse (by omega) | exact bTrue (by omega)), (Chg.refl 0 0 _)⟩

theorem c_sNatOk {w : World} {va : Value} {lva uva : Nat} {zs : List Int} (hva : Sl w lva uva va (zs)) (h63 : zs.length ≤ 4611686018427387904) :
  Ret Tryz.prog 141 [va] w fun v w' => v = .bool (decide (NOk zs)) ∧ Chg 0 0 w w' := by
 have hva0 := hva.fit
 refine sx_enter Tryz.func141 rfl Tryz.ntmps141 (nbl rfl) ?_
 refine sx_seq fun K1 k1 => sx_region ?_
 refine av rfl rfl (wl_nil (q_n (k1 _ _ ?_)))
 refine sx_seq fun K2 k2 => ?_
 refine sx_seq fun K3 k3 => sx_region ?_
 refine mv rfl rfl (sp rfl (px_len rfl Tryz.underlying23 hva0) ?_)
 refine mv rfl rfl (wl_nil (q_n (k3 _ _ ?_)))
 refine sx_block ?_
 refine sx_loop (fun mm aa w' => ∃ (k : Nat), Agr 32 [(0, va), (5, va), (6, .int .i64 ↑zs.length), (7, .int .i64 ↑k)] aa ∧ Chg 0 0 w w' ∧ (mm = zs.length - k) ∧ (k ≤ zs.length) ∧ (∀ i, i < k → 0 ≤ zs.getD i 0 ∧ zs.getD i 0 < 1000000000)) (_) (fun a ha => ⟨0, ha.sub (Sub.c 0 rfl (.c 5 rfl (.c 6 (look_int (t := 6) rfl (by first | omega | simp)) (.c 7 (look_int (t := 7) rfl (by first | omega | simp)) .nil)))), Chg.refl _ _ _, rfl, by omega, fun i h => by omega⟩) ?_
 rintro mm aa wl4 ⟨k, hAwl4, cwl4, hm, hk, hall⟩
 refine (show cw Tryz.prog 32 _ _ _ wl4 from ?_) aa hAwl4
 clear hAwl4
 have zwl4 := cwl4.size
 refine sx_seq fun K5 k5 => sx_region ?_
 refine sp rfl (px_lt rfl rfl) ?_
 refine wl_nil (q_n (k5 _ _ ?_))
 refine sx_seq fun K6 k6 => ?_
 refine sx_condP rfl (fun h7 => ?_) (fun h7 => ?_)
 ·
  refine sx_skip ?_
  refine q_n (k6 _ _ ?_)
  refine sx_seq fun K7 k7 => ?_
  refine sx_block ?_
  refine sx_seq fun K8 k8 => sx_region ?_
  have f9 := hva0.ext cwl4
  refine sp rfl (px_index1 (j := k) rfl rfl (by omega) Tryz.underlying23 Tryz.sizeOf3 f9 (by omega)) ?_
  refine sp rfl (px_load rfl (f9.load1 (at_int (by omega)) Tryz.isAgg3)) ?_
  refine av rfl rfl (wl_nil (q_n (k8 _ _ ?_)))
  refine sx_seq fun K10 k10 => sx_region ?_
  refine mv rfl rfl (sx_call rfl rfl Tryz.call135 (c_l01In) (fun v11 w11 p11 => ?_))
  obtain ⟨rfl, c11⟩ := p11
  have zw11 := c11.size
  refine sp rfl (px_notP rfl) ?_
  refine wl_nil (q_n (k10 _ _ ?_))
  refine sx_condP rfl (fun h8 => ?_) (fun h8 => ?_)
  ·
   refine sx_seq fun K12 k12 => sx_region ?_
   refine av rfl rfl (wl_nil (q_n (k12 _ _ ?_)))
   refine sx_retc ?_
   refine q_br (q_r (q_r (q_br (q_r (sx_ret1 Tryz.results141 rfl ?_)))))
   exact ⟨bFalse (fun h => by have h1 := h.1.getD k; omega), (cwl4.t c11)⟩
  refine sx_skip ?_
  refine q_bn (q_n (k7 _ _ ?_))
  refine sx_region ?_
  refine sp rfl (px_add rfl rfl (by omega)) ?_
  refine mv rfl rfl (wl_nil ?_)
  exact fun a ha => ⟨_, by omega, (k + 1), ha.sub (Sub.c 0 rfl (.c 5 rfl (.c 6 rfl (.c 7 (look_int (t := 7) rfl (by first | omega | simp)) .nil)))), (cwl4.t c11), rfl, by omega, lm_succ hall (by omega)⟩
 refine sx_exit ?_
 refine q_e (q_e (q_bx (q_n (k2 _ _ ?_))))
 refine sx_seq fun K13 k13 => ?_
 have ek : k = zs.length := by omega
 have hz : Lm zs := lm_mem (by rw [← ek]; exact hall)
 refine sx_region ?_
 refine mv rfl rfl ?_
 have f14 := hva0.ext cwl4
 refine sp rfl (px_len rfl Tryz.underlying23 f14) ?_
 refine sp rfl (px_le rfl rfl) ?_
 refine mv rfl rfl ?_
 refine sx_tmpP (t := 18) rfl (fun h12 => ?_) (fun h12 => ?_)
 ·
  refine sx_guardT rfl rfl rfl ?_
  refine mv rfl rfl ?_
  refine sx_guardT rfl rfl rfl ?_
  refine sp rfl (px_len rfl Tryz.underlying23 f14) ?_
  refine sx_guardT rfl rfl rfl ?_
  refine sp rfl (px_eq rfl rfl) ?_
  refine sx_guardT rfl rfl rfl ?_
  refine mv rfl rfl ?_
  refine sx_tmpP (t := 22) rfl (fun h12x1 => ?_) (fun h12x1 => ?_)
  ·
   refine sx_guardF rfl rfl rfl rfl rfl rfl ?_
   refine sx_guardF rfl rfl rfl rfl rfl rfl ?_
   refine sx_guardF rfl rfl rfl rfl rfl rfl ?_
   refine sx_guardF rfl rfl rfl rfl rfl rfl ?_
   refine sx_guardF rfl rfl rfl rfl rfl rfl ?_
   refine sx_guardF rfl rfl rfl rfl rfl rfl ?_
   refine sx_guardF rfl rfl rfl rfl rfl rfl ?_
   refine sx_guardT rfl rfl rfl ?_
   refine sp rfl (px_pick rfl rfl) ?_
   refine sp rfl (px_pick rfl rfl) ?_
   refine av rfl rfl (wl_nil (q_n (k13 _ _ ?_)))
   refine sx_sub (Sub.c 2 rfl .nil) ?_
   refine sx_retc ?_
   refine sx_ret1 Tryz.results141 rfl ?_
   exact ⟨(by first | exact bFalse (fun h => by have h1 := h.2.1; omega) | exact bTrue (NOk_mk hz (by omega) (.inl (by omega))) | exact bIff (NOk_iff hz (by omega) (by omega))), cwl4⟩
  refine sx_guardT rfl rfl rfl ?_
  refine mv rfl rfl ?_
  refine sx_guardT rfl rfl rfl ?_
  refine mv rfl rfl ?_
  refine sx_guardT rfl rfl rfl ?_
  refine sp rfl (px_len rfl Tryz.underlying23 f14) ?_
  refine sx_guardT rfl rfl rfl ?_
  refine sp rfl (px_sub rfl rfl (by omega)) ?_
  refine sx_guardT rfl rfl rfl ?_
  refine sp rfl (px_index1 (j := (zs.length - 1)) rfl rfl (by omega) Tryz.underlying23 Tryz.sizeOf3 f14 (by omega)) ?_
  refine sx_guardT rfl rfl rfl ?_
  refine sp rfl (px_load rfl (f14.load1 (at_int (by omega)) Tryz.isAgg3)) ?_
  refine sx_guardT rfl rfl rfl ?_
  refine sp rfl (px_ne rfl rfl) ?_
  refine sx_guardT rfl rfl rfl ?_
  refine sp rfl (px_pick rfl rfl) ?_
  refine sp rfl (px_pick rfl rfl) ?_
  refine av rfl rfl (wl_nil (q_n (k13 _ _ ?_)))
  refine sx_sub (Sub.c 2 rfl .nil) ?_
  refine sx_retc ?_
  refine sx_ret1 Tryz.results141 rfl ?_
  exact ⟨(by first | exact bFalse (fun h => by have h1 := h.2.1; omega) | exact bTrue (NOk_mk hz (by omega) (.inl (by omega))) | exact bIff (NOk_iff hz (by omega) (by omega))), cwl4⟩
 refine sx_guardF rfl rfl rfl rfl rfl rfl ?_
 refine sx_guardF rfl rfl rfl rfl rfl rfl ?_
 refine sx_guardF rfl rfl rfl rfl rfl rfl ?_
 refine sx_guardF rfl rfl rfl rfl rfl rfl ?_
 refine sx_guardFU rfl rfl rfl rfl rfl ?_
 refine sx_guardFU rfl rfl rfl rfl rfl ?_
 refine sx_guardFU rfl rfl rfl rfl rfl ?_
 refine sx_guardFU rfl rfl rfl rfl rfl ?_
 refine sx_guardFU rfl rfl rfl rfl rfl ?_
 refine sx_guardFU rfl rfl rfl rfl rfl ?_
 refine sx_guardFU rfl rfl rfl rfl rfl ?_
 refine sx_guardF rfl rfl rfl rfl rfl rfl ?_
 refine sp rfl (px_pick rfl rfl) ?_
 refine av rfl rfl (wl_nil (q_n (k13 _ _ ?_)))
 refine sx_sub (Sub.c 2 rfl .nil) ?_
 refine sx_retc ?_
 refine sx_ret1 Tryz.results141 rfl ?_
 exact ⟨(by first | exact bFalse (fun h => by have h1 := h.2.1; omega) | exact bTrue (NOk_mk hz (by omega) (.inl (by omega))) | exact bIff (NOk_iff hz (by omega) (by omega))), cwl4⟩

theorem c_sIntOk {w : World} {n1 : Bool} {v1 : Value} {lv1 uv1 : Nat} {z1 : List Int} (hv1 : Sl w lv1 uv1 v1 (z1)) (h63 : z1.length ≤ 4611686018427387904) :
  Ret Tryz.prog 134 [.agg #[.bool n1, v1]] w fun v w' => v = .bool (decide (IOk n1 z1)) ∧ Chg 0 0 w w' := by
 have hv10 := hv1.fit
 refine sx_enter Tryz.func134 rfl Tryz.ntmps134 (nbl rfl) ?_
 refine sx_seq fun K1 k1 => sx_region ?_
 refine sx_box [.bool n1, v1] rfl rfl rfl (fun b2 w3 eb2 sb2 fb2 cb2 => ?_)
 have zw3 := cb2.size
 refine av rfl rfl (wl_nil (q_n (k1 _ _ ?_)))
 refine sx_seq fun K4 k4 => sx_region ?_
 refine sp rfl (px_field rfl xfld25x1) ?_
 refine sp rfl (px_load rfl (fb2.load1 rfl Tryz.isAgg23)) ?_
 have f5 := hv10.ext cb2
 refine sx_call rfl rfl Tryz.call141 (c_sNatOk f5 (by omega)) (fun v6 w6 p6 => ?_)
 obtain ⟨rfl, c6⟩ := p6
 have zw6 := c6.size
 refine mv rfl rfl ?_
 refine sx_tmpP (t := 6) rfl (fun h6 => ?_) (fun h6 => ?_)
 ·
  refine sx_guardT rfl rfl rfl ?_
  refine sp rfl (px_field rfl xfld25x0) ?_
  refine sx_guardT rfl rfl rfl ?_
  have f7 := fb2.ext c6
  refine sp rfl (px_load rfl (f7.load1 rfl Tryz.isAgg4)) ?_
  refine sx_guardT rfl rfl rfl ?_
  refine sp rfl (px_not rfl) ?_
  refine sx_guardT rfl rfl rfl ?_
  refine mv rfl rfl ?_
  refine sx_tmpB (t := 10) rfl (fun h6x1 => ?_) (fun h6x1 => ?_)
  ·
   refine sx_guardF rfl rfl rfl rfl rfl rfl ?_
   refine sx_guardF rfl rfl rfl rfl rfl rfl ?_
   refine sx_guardF rfl rfl rfl rfl rfl rfl ?_
   refine sx_guardF rfl rfl rfl rfl rfl rfl ?_
   refine sx_guardT rfl rfl rfl ?_
   refine sp rfl (px_pick rfl rfl) ?_
   refine sp rfl (px_pick rfl rfl) ?_
   refine av rfl rfl (wl_nil (q_n (k4 _ _ ?_)))
   refine sx_sub (Sub.c 2 rfl .nil) ?_
   refine sx_retc ?_
   refine sx_ret1 Tryz.results134 rfl ?_
   exact ⟨(by first | exact bTrue (by grind [IOk]) | exact bFalse (by grind [IOk]) | exact bIff (by grind [IOk])), (cb2.t c6)⟩
  refine sx_guardT rfl rfl rfl ?_
  refine sp rfl (px_field rfl xfld25x1) ?_
  refine sx_guardT rfl rfl rfl ?_
  refine sp rfl (px_load rfl (f7.load1 rfl Tryz.isAgg23)) ?_
  refine sx_guardT rfl rfl rfl ?_
  have f8 := f5.ext c6
  refine sp rfl (px_len rfl Tryz.underlying23 f8) ?_
  refine sx_guardT rfl rfl rfl ?_
  refine sp rfl (px_gt rfl rfl) ?_
  refine sx_guardT rfl rfl rfl ?_
  refine sp rfl (px_pick rfl rfl) ?_
  refine sp rfl (px_pick rfl rfl) ?_
  refine av rfl rfl (wl_nil (q_n (k4 _ _ ?_)))
  refine sx_sub (Sub.c 2 rfl .nil) ?_
  refine sx_retc ?_
  refine sx_ret1 Tryz.results134 rfl ?_
  exact ⟨(by first | exact bTrue (by grind [IOk]) | exact bFalse (by grind [IOk]) | exact bIff (by grind [IOk])), (cb2.t c6)⟩
 refine sx_guardF rfl rfl rfl rfl rfl rfl ?_
 refine sx_guardF rfl rfl rfl rfl rfl rfl ?_
 refine sx_guardF rfl rfl rfl rfl rfl rfl ?_
 refine sx_guardF rfl rfl rfl rfl rfl rfl ?_
 refine sx_guardFU rfl rfl rfl rfl rfl ?_
 refine sx_guardFU rfl rfl rfl rfl rfl ?_
 refine sx_guardFU rfl rfl rfl rfl rfl ?_
 refine sx_guardFU rfl rfl rfl rfl rfl ?_
 refine sx_guardF rfl rfl rfl rfl rfl rfl ?_
 refine sp rfl (px_pick rfl rfl) ?_
 refine av rfl rfl (wl_nil (q_n (k4 _ _ ?_)))
 refine sx_sub (Sub.c 2 rfl .nil) ?_
 refine sx_retc ?_
 refine sx_ret1 Tryz.results134 rfl ?_
 exact ⟨(by first | exact bTrue (by grind [IOk]) | exact bFalse (by grind [IOk]) | exact bIff (by grind [IOk])), (cb2.t c6)⟩

theorem c_sDecOk {w : World} {n1 : Bool} {v1 : Value} {lv1 uv1 : Nat} {z1 : List Int} {p1 : Int} (hv1 : Sl w lv1 uv1 v1 (z1)) (h63 : z1.length ≤ 4611686018427387904) :
  Ret Tryz.prog 129 [.agg #[.bool n1, v1, .int .i64 p1]] w fun v w' => v = .bool (decide (DOk n1 z1 p1)) ∧ Chg 0 0 w w' := by
 have hv10 := hv1.fit
 refine sx_enter Tryz.func129 rfl Tryz.ntmps129 (nbl rfl) ?_
 refine sx_seq fun K1 k1 => sx_region ?_
 refine sx_box [.bool n1, v1, .int .i64 p1] rfl rfl rfl (fun b2 w3 eb2 sb2 fb2 cb2 => ?_)
 have zw3 := cb2.size
 refine av rfl rfl (wl_nil (q_n (k1 _ _ ?_)))
 refine sx_seq fun K4 k4 => sx_region ?_
 refine sp rfl (px_field rfl xfld27x0) ?_
 refine sp rfl (px_load rfl (fb2.loadA (vs := [.bool n1, v1]) (look_lit rfl) Tryz.isAgg25 Tryz.sizeOf25)) ?_
 have f5 := hv10.ext cb2
 refine sx_call rfl rfl Tryz.call134 (c_sIntOk f5 (by omega)) (fun v6 w6 p6 => ?_)
 obtain ⟨rfl, c6⟩ := p6
 have zw6 := c6.size
 refine mv rfl rfl ?_
 refine sx_tmpP (t := 6) rfl (fun h7 => ?_) (fun h7 => ?_)
 ·
  refine sx_guardT rfl rfl rfl ?_
  refine sp rfl (px_field rfl xfld27x0) ?_
  refine sx_guardT rfl rfl rfl ?_
  refine sp rfl (px_field rfl xfld25x1) ?_
  refine sx_guardT rfl rfl rfl ?_
  have f7 := fb2.ext c6
  refine sp rfl (px_load rfl (f7.load1 rfl Tryz.isAgg23)) ?_
  refine sx_guardT rfl rfl rfl ?_
  have f8 := f5.ext c6
  refine sp rfl (px_len rfl Tryz.underlying23 f8) ?_
  refine sx_guardT rfl rfl rfl ?_
  refine sp rfl (px_le rfl rfl) ?_
  refine sp rfl (px_pick rfl rfl) ?_
  refine mv rfl rfl ?_
  refine sx_tmpP (t := 13) rfl (fun h7x1 => ?_) (fun h7x1 => ?_)
  ·
   refine sx_guardT rfl rfl rfl ?_
   refine sp rfl (px_field rfl xfld27x1) ?_
   refine sx_guardT rfl rfl rfl ?_
   refine sp rfl (px_load rfl (f7.load1 rfl Tryz.isAgg3)) ?_
   refine sx_guardT rfl rfl rfl ?_
   refine sx_call rfl rfl Tryz.call135 (c_l01In) (fun v9 w9 p9 => ?_)
   obtain ⟨rfl, c9⟩ := p9
   have zw9 := c9.size
   refine sp rfl (px_pick rfl rfl) ?_
   refine av rfl rfl (wl_nil (q_n (k4 _ _ ?_)))
   refine sx_sub (Sub.c 2 rfl .nil) ?_
   refine sx_retc ?_
   refine sx_ret1 Tryz.results129 rfl ?_
   exact ⟨(by first | exact bTrue (by grind [DOk]) | exact bFalse (by grind [DOk]) | exact bIff (by grind [DOk])), ((cb2.t c6).t c9)⟩
  refine sx_guardF rfl rfl rfl rfl rfl rfl ?_
  refine sx_guardF rfl rfl rfl rfl rfl rfl ?_
  refine sx_guardF rfl rfl rfl rfl rfl rfl ?_
  refine sp rfl (px_pick rfl rfl) ?_
  refine av rfl rfl (wl_nil (q_n (k4 _ _ ?_)))
  refine sx_sub (Sub.c 2 rfl .nil) ?_
  refine sx_retc ?_
  refine sx_ret1 Tryz.results129 rfl ?_
  exact ⟨(by first | exact bTrue (by grind [DOk]) | exact bFalse (by grind [DOk]) | exact bIff (by grind [DOk])), (cb2.t c6)⟩
 refine sx_guardF rfl rfl rfl rfl rfl rfl ?_
 refine sx_guardF rfl rfl rfl rfl rfl rfl ?_
 refine sx_guardF rfl rfl rfl rfl rfl rfl ?_
 refine sx_guardF rfl rfl rfl rfl rfl rfl ?_
 refine sx_guardF rfl rfl rfl rfl rfl rfl ?_
 refine sp rfl (px_pick rfl rfl) ?_
 refine mv rfl rfl ?_
 refine sx_guardF rfl rfl rfl rfl rfl rfl ?_
 refine sx_guardF rfl rfl rfl rfl rfl rfl ?_
 refine sx_guardF rfl rfl rfl rfl rfl rfl ?_
 refine sp rfl (px_pick rfl rfl) ?_
 refine av rfl rfl (wl_nil (q_n (k4 _ _ ?_)))
 refine sx_sub (Sub.c 2 rfl .nil) ?_
 refine sx_retc ?_
 refine sx_ret1 Tryz.results129 rfl ?_
 exact ⟨(by first | exact bTrue (by grind [DOk]) | exact bFalse (by grind [DOk]) | exact bIff (by grind [DOk])), (cb2.t c6)⟩

theorem c_l02Cmp {w : World} {va : Value} {lva uva : Nat} {zs : List Int} {vb : Value} {lvb uvb : Nat} {ys : List Int} (hva : Sl w lva uva va (zs)) (hvb : Sl w lvb uvb vb (ys)) (h63 : zs.length ≤ 4611686018427387904 ∧ ys.length ≤ 4611686018427387904) :
  Ret Tryz.prog 142 [va, vb] w fun v w' => v = .int .i64 (cmpL zs ys) ∧ Chg 0 0 w w' := by
 have hva0 := hva.fit
 have hvb0 := hvb.fit
 have zs0 : zs.drop zs.length = [] := by simp
 have ys0 : ys.drop ys.length = [] := by simp
 refine sx_enter Tryz.func142 rfl Tryz.ntmps142 (nbl rfl) ?_
 refine sx_seq fun K1 k1 => sx_region ?_
 refine av rfl rfl (wl_nil (q_n (k1 _ _ ?_)))
 refine sx_seq fun K2 k2 => ?_
 refine sx_seq fun K3 k3 => sx_region ?_
 refine mv rfl rfl (sp rfl (px_len rfl Tryz.underlying23 hva0) ?_)
 refine mv rfl rfl (sp rfl (px_len rfl Tryz.underlying23 hvb0) ?_)
 refine sp rfl (px_ne rfl rfl) ?_
 refine wl_nil (q_n (k3 _ _ ?_))
 refine sx_condP rfl (fun h54 => ?_) (fun h54 => ?_)
 ·
  refine sx_seq fun K4 k4 => ?_
  refine sx_seq fun K5 k5 => sx_region ?_
  refine mv rfl rfl (sp rfl (px_len rfl Tryz.underlying23 hva0) ?_)
  refine mv rfl rfl (sp rfl (px_len rfl Tryz.underlying23 hvb0) ?_)
  refine sp rfl (px_lt rfl rfl) ?_
  refine wl_nil (q_n (k5 _ _ ?_))
  refine sx_condP rfl (fun h55 => ?_) (fun h55 => ?_)
  ·
   refine sx_seq fun K6 k6 => sx_region ?_
   refine av rfl rfl (wl_nil (q_n (k6 _ _ ?_)))
   refine sx_retc ?_
   refine q_r (q_r (sx_ret1 Tryz.results142 rfl ?_))
   exact ⟨iEq (cmpL_short (by omega)).symm, (Chg.refl 0 0 _)⟩
  refine sx_skip ?_
  refine q_n (k4 _ _ ?_)
  refine sx_seq fun K7 k7 => sx_region ?_
  refine av rfl rfl (wl_nil (q_n (k7 _ _ ?_)))
  refine sx_retc ?_
  refine q_r (sx_ret1 Tryz.results142 rfl ?_)
  exact ⟨iEq (cmpL_long (by omega)).symm, (Chg.refl 0 0 _)⟩
 refine sx_skip ?_
 refine q_n (k2 _ _ ?_)
 refine sx_seq fun K8 k8 => ?_
 refine sx_seq fun K9 k9 => sx_region ?_
 refine mv rfl rfl (sp rfl (px_len rfl Tryz.underlying23 hva0) ?_)
 refine sp rfl (px_sub rfl rfl (by omega)) ?_
 refine av rfl rfl (wl_nil (q_n (k9 _ _ ?_)))
 refine sx_block ?_
 have e00 : zs.length = ys.length := by omega
 have he0 : zs.drop zs.length = ys.drop zs.length := by rw [zs0, e00, ys0]
 refine sx_loop (fun mm aa w' => ∃ (k : Nat), Agr 41 [(0, va), (1, vb), (5, .int .i64 (↑k - 1))] aa ∧ Chg 0 0 w w' ∧ (mm = k) ∧ (k ≤ zs.length) ∧ (zs.drop k = ys.drop k)) (_) (fun a ha => ⟨zs.length, ha.sub (Sub.c 0 rfl (.c 1 rfl (.c 5 (look_int (t := 5) rfl (by first | omega | simp)) .nil))), Chg.refl _ _ _, rfl, by omega, he0⟩) ?_
 rintro mm aa wl10 ⟨k, hAwl10, cwl10, hm, hk, he⟩
 refine (show cw Tryz.prog 41 _ _ _ wl10 from ?_) aa hAwl10
 clear hAwl10
 have zwl10 := cwl10.size
 have hl : zs.length = ys.length := by omega
 refine sx_seq fun K11 k11 => ?_
 refine sx_seq fun K12 k12 => sx_region ?_
 refine mv rfl rfl (sp rfl (px_ge rfl rfl) ?_)
 refine wl_nil (q_n (k12 _ _ ?_))
 refine sx_condP rfl (fun h60 => ?_) (fun h60 => ?_)
 ·
  refine sx_skip ?_
  refine q_n (k11 _ _ ?_)
  refine sx_seq fun K13 k13 => ?_
  refine sx_block ?_
  refine sx_seq fun K14 k14 => ?_
  refine sx_seq fun K15 k15 => ?_
  have f16 := hva0.ext cwl10
  have f17 := hvb0.ext cwl10
  refine dx_region (fun w' => Chg 0 0 wl10 w') (by kernel_rfl) (Chg.zero (Chg.drew _)) ?_
  have d18 := Chg.drew wl10
  have s18 : Chg 0 0 wl10 (World.drew wl10) := Chg.zero (Chg.drew _)
  have y18 : (World.drew wl10).heap.size = wl10.heap.size := rfl
  generalize World.drew wl10 = w18 at *
  have zw18 := d18.size
  refine dt 0 rfl rfl rfl rfl s18 (fun _ hS => px_move rfl) ?_
  refine dt 1 rfl rfl rfl rfl s18 (fun _ hS => px_move rfl) ?_
  refine dt 2 rfl rfl rfl rfl s18 (fun _ hS => px_index1 (j := (k - 1)) rfl rfl (by omega) Tryz.underlying23 Tryz.sizeOf3 ((f16).chg hS (by omega)) (by omega)) ?_
  refine dt 3 rfl rfl rfl rfl s18 (fun _ hS => px_load rfl (((f16).chg hS (by omega)).load1 (at_int (by omega)) Tryz.isAgg3)) ?_
  refine dt 4 rfl rfl rfl rfl s18 (fun _ hS => px_move rfl) ?_
  refine dt 5 rfl rfl rfl rfl s18 (fun _ hS => px_move rfl) ?_
  refine dt 6 rfl rfl rfl rfl s18 (fun _ hS => px_index1 (j := (k - 1)) rfl rfl (by omega) Tryz.underlying23 Tryz.sizeOf3 ((f17).chg hS (by omega)) (by omega)) ?_
  refine dt 7 rfl rfl rfl rfl s18 (fun _ hS => px_load rfl (((f17).chg hS (by omega)).load1 (at_int (by omega)) Tryz.isAgg3)) ?_
  refine dt 8 rfl rfl rfl rfl s18 (fun _ hS => px_lt rfl rfl) ?_
  refine dx_done (by kernel_rfl) ?_
  refine q_n (k15 _ _ ?_)
  refine sx_condP rfl (fun h61 => ?_) (fun h61 => ?_)
  ·
   refine sx_seq fun K19 k19 => sx_region ?_
   refine av rfl rfl (wl_nil (q_n (k19 _ _ ?_)))
   refine sx_sub (Sub.c 0 rfl (.c 1 rfl (.c 4 rfl (.c 5 rfl .nil)))) ?_
   refine sx_retc ?_
   refine q_r (q_br (q_r (q_r (q_br (q_r (sx_ret1 Tryz.results142 rfl ?_))))))
   have hlt := cmpL_lt hl (k := k - 1) (by omega) (by rw [Nat.sub_add_cancel (by omega)]; exact he) (h61)
   exact ⟨iEq hlt.symm, (cwl10.t d18)⟩
  refine sx_skip ?_
  refine q_n (k14 _ _ ?_)
  refine sx_seq fun K20 k20 => ?_
  have f21 := f16.ext d18
  have f22 := f17.ext d18
  refine dx_region (fun w' => Chg 0 0 w18 w') (by kernel_rfl) (Chg.zero (Chg.drew _)) ?_
  have d23 := Chg.drew w18
  have s23 : Chg 0 0 w18 (World.drew w18) := Chg.zero (Chg.drew _)
  have y23 : (World.drew w18).heap.size = w18.heap.size := rfl
  generalize World.drew w18 = w23 at *
  have zw23 := d23.size
  refine dt 0 rfl rfl rfl rfl s23 (fun _ hS => px_move rfl) ?_
  refine dt 1 rfl rfl rfl rfl s23 (fun _ hS => px_move rfl) ?_
  refine dt 2 rfl rfl rfl rfl s23 (fun _ hS => px_index1 (j := (k - 1)) rfl rfl (by omega) Tryz.underlying23 Tryz.sizeOf3 ((f21).chg hS (by omega)) (by omega)) ?_
  refine dt 3 rfl rfl rfl rfl s23 (fun _ hS => px_load rfl (((f21).chg hS (by omega)).load1 (at_int (by omega)) Tryz.isAgg3)) ?_
  refine dt 4 rfl rfl rfl rfl s23 (fun _ hS => px_move rfl) ?_
  refine dt 5 rfl rfl rfl rfl s23 (fun _ hS => px_move rfl) ?_
  refine dt 6 rfl rfl rfl rfl s23 (fun _ hS => px_index1 (j := (k - 1)) rfl rfl (by omega) Tryz.underlying23 Tryz.sizeOf3 ((f22).chg hS (by omega)) (by omega)) ?_
  refine dt 7 rfl rfl rfl rfl s23 (fun _ hS => px_load rfl (((f22).chg hS (by omega)).load1 (at_int (by omega)) Tryz.isAgg3)) ?_
  refine dt 8 rfl rfl rfl rfl s23 (fun _ hS => px_gt rfl rfl) ?_
  refine dx_done (by kernel_rfl) ?_
  refine q_n (k20 _ _ ?_)
  refine sx_sub (Sub.c 0 rfl (.c 1 rfl (.c 5 rfl (.c 40 rfl .nil)))) ?_
  refine sx_condP rfl (fun h64 => ?_) (fun h64 => ?_)
  ·
   refine sx_seq fun K24 k24 => sx_region ?_
   refine av rfl rfl (wl_nil (q_n (k24 _ _ ?_)))
   refine sx_retc ?_
   refine q_br (q_r (q_r (q_br (q_r (sx_ret1 Tryz.results142 rfl ?_)))))
   have hlt := cmpL_gt hl (k := k - 1) (by omega) (by rw [Nat.sub_add_cancel (by omega)]; exact he) (h64)
   exact ⟨iEq hlt.symm, ((cwl10.t d18).t d23)⟩
  refine sx_skip ?_
  refine q_bn (q_n (k13 _ _ ?_))
  refine sx_region ?_
  refine mv rfl rfl (sp rfl (px_sub rfl rfl (by omega)) ?_)
  refine av rfl rfl (wl_nil ?_)
  exact fun a ha => ⟨_, by omega, (k - 1), ha.sub (Sub.c 0 rfl (.c 1 rfl (.c 5 (look_int (t := 5) rfl (by first | omega | simp)) .nil))), ((cwl10.t d18).t d23), rfl, by omega, drop_succ_eq (by omega) (by omega) (by rw [Nat.sub_add_cancel (by omega)]; exact he) (by omega)⟩
 refine sx_exit ?_
 refine q_e (q_e (q_bx (q_n (k8 _ _ ?_))))
 refine sx_seq fun K25 k25 => sx_region ?_
 refine av rfl rfl (wl_nil (q_n (k25 _ _ ?_)))
 refine sx_retc ?_
 refine sx_ret1 Tryz.results142 rfl ?_
 have e1 : k = 0 := by omega
 subst e1
 have e2 : zs = ys := by simpa using he
 subst e2
 exact ⟨iEq (cmpL_self zs).symm, cwl10⟩

theorem c_IntCmp {w : World} {va : Value} {lva uva : Nat} {x : Int} {vb : Value} {lvb uvb : Nat} {y : Int} (hva : Sl w lva uva va (dg x.natAbs)) (hvb : Sl w lvb uvb vb (dg y.natAbs)) (hbx : (dg x.natAbs).length ≤ 50) (hby : (dg y.natAbs).length ≤ 50) :
  Ret Tryz.prog 136 [.agg #[.bool (ng x), va], .agg #[.bool (ng y), vb]] w fun v w' => v = .int .i64 (cmpI x y) ∧ Chg 0 0 w w' := by
 have hva0 := hva.fit
 have hvb0 := hvb.fit
 refine sx_enter Tryz.func136 rfl Tryz.ntmps136 (nbl rfl) ?_
 refine sx_seq fun K1 k1 => sx_region ?_
 refine sx_box [.bool (ng x), va] rfl rfl rfl (fun b2 w3 eb2 sb2 fb2 cb2 => ?_)
 have zw3 := cb2.size
 refine sx_box [.bool (ng y), vb] rfl rfl rfl (fun b4 w5 eb4 sb4 fb4 cb4 => ?_)
 have zw5 := cb4.size
 refine av rfl rfl (wl_nil (q_n (k1 _ _ ?_)))
 refine sx_seq fun K6 k6 => ?_
 refine sx_block ?_
 refine sx_seq fun K7 k7 => sx_region ?_
 have f8 := fb2.ext cb4
 refine sp rfl (px_load rfl (f8.loadA (vs := [.bool (ng x), va]) (look_lit rfl) Tryz.isAgg25 Tryz.sizeOf25)) ?_
 have f9 := hva0.ext cb2
 have f10 := f9.ext cb4
 refine sx_call rfl rfl Tryz.call134 (c_sIntOk f10 (by omega)) (fun v11 w11 p11 => ?_)
 obtain ⟨rfl, c11⟩ := p11
 have zw11 := c11.size
 refine sp rfl (px_notP rfl) ?_
 refine mv rfl rfl ?_
 have h89 : ¬ (¬ (IOk (ng x) (dg x.natAbs))) := by first | exact fun h => h (IOk_ng (by omega)) | exact fun h => h (IOk_ng (by assumption))
 refine sx_tmpPF (t := 9) rfl h89 ?_
 refine sx_guardT rfl rfl rfl ?_
 have f12 := fb4.ext c11
 refine sp rfl (px_load rfl (f12.loadA (vs := [.bool (ng y), vb]) (look_lit rfl) Tryz.isAgg25 Tryz.sizeOf25)) ?_
 refine sx_guardT rfl rfl rfl ?_
 have f13 := hvb0.ext cb2
 have f14 := f13.ext cb4
 have f15 := f14.ext c11
 refine sx_call rfl rfl Tryz.call134 (c_sIntOk f15 (by omega)) (fun v16 w16 p16 => ?_)
 obtain ⟨rfl, c16⟩ := p16
 have zw16 := c16.size
 refine sx_guardT rfl rfl rfl ?_
 refine sp rfl (px_notP rfl) ?_
 refine sp rfl (px_pick rfl rfl) ?_
 refine av rfl rfl (wl_nil (q_n (k7 _ _ ?_)))
 have h89x1 : ¬ (¬ (IOk (ng y) (dg y.natAbs))) := by first | exact fun h => h (IOk_ng (by omega)) | exact fun h => h (IOk_ng (by assumption))
 refine sx_condPF rfl h89x1 ?_
 refine sx_seq fun K17 k17 => sx_region ?_
 refine sp rfl (px_field rfl xfld25x0) ?_
 have f19 := (f8.ext c11).ext c16
 refine sp rfl (px_load rfl (f19.load1 rfl Tryz.isAgg4)) ?_
 refine mv rfl rfl ?_
 refine sx_tmpB (t := 17) rfl (fun h91 => ?_) (fun h91 => ?_)
 ·
  refine sx_guardT rfl rfl rfl ?_
  refine sp rfl (px_field rfl xfld25x0) ?_
  refine sx_guardT rfl rfl rfl ?_
  have f20 := f12.ext c16
  refine sp rfl (px_load rfl (f20.load1 rfl Tryz.isAgg4)) ?_
  refine sx_guardT rfl rfl rfl ?_
  refine sp rfl (px_not rfl) ?_
  refine sp rfl (px_pick rfl rfl) ?_
  refine av rfl rfl (wl_nil (q_n (k17 _ _ ?_)))
  refine sx_sub (Sub.c 2 rfl (.c 3 rfl (.c 4 rfl (.c 14 rfl .nil)))) ?_
  refine sx_condB rfl (fun h91x1 => ?_) (fun h91x1 => ?_)
  ·
   refine sx_seq fun K21 k21 => sx_region ?_
   refine av rfl rfl (wl_nil (q_n (k21 _ _ ?_)))
   refine sx_retc ?_
   refine q_br (q_r (sx_ret1 Tryz.results136 rfl ?_))
   exact ⟨iEq (cmpI_lt (by simp_all [ng] <;> omega)), (((cb2.t cb4).t c11).t c16)⟩
  refine sx_seq fun K22 k22 => sx_region ?_
  refine sp rfl (px_field rfl xfld25x0) ?_
  refine sp rfl (px_load rfl (f19.load1 rfl Tryz.isAgg4)) ?_
  refine sp rfl (px_not rfl) ?_
  refine mv rfl rfl ?_
  refine sx_tmpB (t := 26) rfl (fun h93 => ?_) (fun h93 => ?_)
  ·
   refine sx_guardT rfl rfl rfl ?_
   refine sp rfl (px_field rfl xfld25x0) ?_
   refine sx_guardT rfl rfl rfl ?_
   refine sp rfl (px_load rfl (f20.load1 rfl Tryz.isAgg4)) ?_
   refine sp rfl (px_pick rfl rfl) ?_
   refine av rfl rfl (wl_nil (q_n (k22 _ _ ?_)))
   refine sx_condB rfl (fun h93x1 => ?_) (fun h93x1 => ?_)
   ·
    refine sx_seq fun K23 k23 => sx_region ?_
    refine av rfl rfl (wl_nil (q_n (k23 _ _ ?_)))
    refine sx_retc ?_
    refine q_br (q_r (sx_ret1 Tryz.results136 rfl ?_))
    exact ⟨iEq (cmpI_gt (by simp_all [ng] <;> omega)), (((cb2.t cb4).t c11).t c16)⟩
   refine sx_seq fun K24 k24 => sx_region ?_
   refine sp rfl (px_field rfl xfld25x0) ?_
   refine sp rfl (px_load rfl (f19.load1 rfl Tryz.isAgg4)) ?_
   refine av rfl rfl (wl_nil (q_n (k24 _ _ ?_)))
   refine sx_sub (Sub.c 2 rfl (.c 3 rfl (.c 4 rfl (.c 30 rfl .nil)))) ?_
   refine sx_condB rfl (fun h95 => ?_) (fun h95 => ?_)
   ·
    refine sx_seq fun K25 k25 => sx_region ?_
    refine sp rfl (px_field rfl xfld25x1) ?_
    refine sp rfl (px_load rfl (f20.load1 rfl Tryz.isAgg23)) ?_
    refine sp rfl (px_field rfl xfld25x1) ?_
    refine sp rfl (px_load rfl (f19.load1 rfl Tryz.isAgg23)) ?_
    have f26 := f15.ext c16
    have f28 := (f10.ext c11).ext c16
    refine sx_call rfl rfl Tryz.call142 (c_l02Cmp f26 f28 (by omega)) (fun v29 w29 p29 => ?_)
    obtain ⟨rfl, c29⟩ := p29
    have zw29 := c29.size
    refine av rfl rfl (wl_nil (q_n (k25 _ _ ?_)))
    refine sx_retc ?_
    refine q_br (q_r (sx_ret1 Tryz.results136 rfl ?_))
    exact ⟨iEq (cmpI_mm (by simp_all [ng] <;> omega) (by simp_all [ng] <;> omega)), ((((cb2.t cb4).t c11).t c16).t c29)⟩
   refine sx_skip ?_
   refine q_bn (q_n (k6 _ _ ?_))
   refine sx_seq fun K30 k30 => sx_region ?_
   refine sp rfl (px_field rfl xfld25x1) ?_
   refine sp rfl (px_load rfl (f19.load1 rfl Tryz.isAgg23)) ?_
   refine sp rfl (px_field rfl xfld25x1) ?_
   refine sp rfl (px_load rfl (f20.load1 rfl Tryz.isAgg23)) ?_
   have f32 := (f10.ext c11).ext c16
   have f33 := f15.ext c16
   refine sx_call rfl rfl Tryz.call142 (c_l02Cmp f32 f33 (by omega)) (fun v34 w34 p34 => ?_)
   obtain ⟨rfl, c34⟩ := p34
   have zw34 := c34.size
   refine av rfl rfl (wl_nil (q_n (k30 _ _ ?_)))
   refine sx_retc ?_
   refine sx_ret1 Tryz.results136 rfl ?_
   exact ⟨iEq (cmpI_nn (by simp_all [ng] <;> omega) (by simp_all [ng] <;> omega)), ((((cb2.t cb4).t c11).t c16).t c34)⟩
  refine sx_guardF rfl rfl rfl rfl rfl rfl ?_
  refine sx_guardF rfl rfl rfl rfl rfl rfl ?_
  refine sp rfl (px_pick rfl rfl) ?_
  refine av rfl rfl (wl_nil (q_n (k22 _ _ ?_)))
  refine sx_condF rfl ?_
  refine sx_seq fun K35 k35 => sx_region ?_
  refine sp rfl (px_field rfl xfld25x0) ?_
  refine sp rfl (px_load rfl (f19.load1 rfl Tryz.isAgg4)) ?_
  refine av rfl rfl (wl_nil (q_n (k35 _ _ ?_)))
  refine sx_sub (Sub.c 2 rfl (.c 3 rfl (.c 4 rfl (.c 30 rfl .nil)))) ?_
  refine sx_condB rfl (fun h95 => ?_) (fun h95 => ?_)
  ·
   refine sx_seq fun K36 k36 => sx_region ?_
   refine sp rfl (px_field rfl xfld25x1) ?_
   refine sp rfl (px_load rfl (f20.load1 rfl Tryz.isAgg23)) ?_
   refine sp rfl (px_field rfl xfld25x1) ?_
   refine sp rfl (px_load rfl (f19.load1 rfl Tryz.isAgg23)) ?_
   have f37 := f15.ext c16
   have f39 := (f10.ext c11).ext c16
   refine sx_call rfl rfl Tryz.call142 (c_l02Cmp f37 f39 (by omega)) (fun v40 w40 p40 => ?_)
   obtain ⟨rfl, c40⟩ := p40
   have zw40 := c40.size
   refine av rfl rfl (wl_nil (q_n (k36 _ _ ?_)))
   refine sx_retc ?_
   refine q_br (q_r (sx_ret1 Tryz.results136 rfl ?_))
   exact ⟨iEq (cmpI_mm (by simp_all [ng] <;> omega) (by simp_all [ng] <;> omega)), ((((cb2.t cb4).t c11).t c16).t c40)⟩
  refine sx_skip ?_
  refine q_bn (q_n (k6 _ _ ?_))
  refine sx_seq fun K41 k41 => sx_region ?_
  refine sp rfl (px_field rfl xfld25x1) ?_
  refine sp rfl (px_load rfl (f19.load1 rfl Tryz.isAgg23)) ?_
  refine sp rfl (px_field rfl xfld25x1) ?_
  refine sp rfl (px_load rfl (f20.load1 rfl Tryz.isAgg23)) ?_
  have f43 := (f10.ext c11).ext c16
  have f44 := f15.ext c16
  refine sx_call rfl rfl Tryz.call142 (c_l02Cmp f43 f44 (by omega)) (fun v45 w45 p45 => ?_)
  obtain ⟨rfl, c45⟩ := p45
  have zw45 := c45.size
  refine av rfl rfl (wl_nil (q_n (k41 _ _ ?_)))
  refine sx_retc ?_
  refine sx_ret1 Tryz.results136 rfl ?_
  exact ⟨iEq (cmpI_nn (by simp_all [ng] <;> omega) (by simp_all [ng] <;> omega)), ((((cb2.t cb4).t c11).t c16).t c45)⟩
 refine sx_guardF rfl rfl rfl rfl rfl rfl ?_
 refine sx_guardF rfl rfl rfl rfl rfl rfl ?_
 refine sx_guardF rfl rfl rfl rfl rfl rfl ?_
 refine sp rfl (px_pick rfl rfl) ?_
 refine av rfl rfl (wl_nil (q_n (k17 _ _ ?_)))
 refine sx_sub (Sub.c 2 rfl (.c 3 rfl (.c 4 rfl (.c 14 rfl .nil)))) ?_
 refine sx_condF rfl ?_
 refine sx_seq fun K46 k46 => sx_region ?_
 refine sp rfl (px_field rfl xfld25x0) ?_
 refine sp rfl (px_load rfl (f19.load1 rfl Tryz.isAgg4)) ?_
 refine sp rfl (px_not rfl) ?_
 refine mv rfl rfl ?_
 refine sx_tmpB (t := 26) rfl (fun h93 => ?_) (fun h93 => ?_)
 ·
  refine sx_guardT rfl rfl rfl ?_
  refine sp rfl (px_field rfl xfld25x0) ?_
  refine sx_guardT rfl rfl rfl ?_
  have f47 := f12.ext c16
  refine sp rfl (px_load rfl (f47.load1 rfl Tryz.isAgg4)) ?_
  refine sp rfl (px_pick rfl rfl) ?_
  refine av rfl rfl (wl_nil (q_n (k46 _ _ ?_)))
  refine sx_condB rfl (fun h93x1 => ?_) (fun h93x1 => ?_)
  ·
   refine sx_seq fun K48 k48 => sx_region ?_
   refine av rfl rfl (wl_nil (q_n (k48 _ _ ?_)))
   refine sx_retc ?_
   refine q_br (q_r (sx_ret1 Tryz.results136 rfl ?_))
   exact ⟨iEq (cmpI_gt (by simp_all [ng] <;> omega)), (((cb2.t cb4).t c11).t c16)⟩
  refine sx_seq fun K49 k49 => sx_region ?_
  refine sp rfl (px_field rfl xfld25x0) ?_
  refine sp rfl (px_load rfl (f19.load1 rfl Tryz.isAgg4)) ?_
  refine av rfl rfl (wl_nil (q_n (k49 _ _ ?_)))
  refine sx_sub (Sub.c 2 rfl (.c 3 rfl (.c 4 rfl (.c 30 rfl .nil)))) ?_
  refine sx_condB rfl (fun h95 => ?_) (fun h95 => ?_)
  ·
   refine sx_seq fun K50 k50 => sx_region ?_
   refine sp rfl (px_field rfl xfld25x1) ?_
   refine sp rfl (px_load rfl (f47.load1 rfl Tryz.isAgg23)) ?_
   refine sp rfl (px_field rfl xfld25x1) ?_
   refine sp rfl (px_load rfl (f19.load1 rfl Tryz.isAgg23)) ?_
   have f51 := f15.ext c16
   have f53 := (f10.ext c11).ext c16
   refine sx_call rfl rfl Tryz.call142 (c_l02Cmp f51 f53 (by omega)) (fun v54 w54 p54 => ?_)
   obtain ⟨rfl, c54⟩ := p54
   have zw54 := c54.size
   refine av rfl rfl (wl_nil (q_n (k50 _ _ ?_)))
   refine sx_retc ?_
   refine q_br (q_r (sx_ret1 Tryz.results136 rfl ?_))
   exact ⟨iEq (cmpI_mm (by simp_all [ng] <;> omega) (by simp_all [ng] <;> omega)), ((((cb2.t cb4).t c11).t c16).t c54)⟩
  refine sx_skip ?_
  refine q_bn (q_n (k6 _ _ ?_))
  refine sx_seq fun K55 k55 => sx_region ?_
  refine sp rfl (px_field rfl xfld25x1) ?_
  refine sp rfl (px_load rfl (f19.load1 rfl Tryz.isAgg23)) ?_
  refine sp rfl (px_field rfl xfld25x1) ?_
  refine sp rfl (px_load rfl (f47.load1 rfl Tryz.isAgg23)) ?_
  have f57 := (f10.ext c11).ext c16
  have f58 := f15.ext c16
  refine sx_call rfl rfl Tryz.call142 (c_l02Cmp f57 f58 (by omega)) (fun v59 w59 p59 => ?_)
  obtain ⟨rfl, c59⟩ := p59
  have zw59 := c59.size
  refine av rfl rfl (wl_nil (q_n (k55 _ _ ?_)))
  refine sx_retc ?_
  refine sx_ret1 Tryz.results136 rfl ?_
  exact ⟨iEq (cmpI_nn (by simp_all [ng] <;> omega) (by simp_all [ng] <;> omega)), ((((cb2.t cb4).t c11).t c16).t c59)⟩
 refine sx_guardF rfl rfl rfl rfl rfl rfl ?_
 refine sx_guardF rfl rfl rfl rfl rfl rfl ?_
 refine sp rfl (px_pick rfl rfl) ?_
 refine av rfl rfl (wl_nil (q_n (k46 _ _ ?_)))
 refine sx_condF rfl ?_
 refine sx_seq fun K60 k60 => sx_region ?_
 refine sp rfl (px_field rfl xfld25x0) ?_
 refine sp rfl (px_load rfl (f19.load1 rfl Tryz.isAgg4)) ?_
 refine av rfl rfl (wl_nil (q_n (k60 _ _ ?_)))
 refine sx_sub (Sub.c 2 rfl (.c 3 rfl (.c 4 rfl (.c 30 rfl .nil)))) ?_
 refine sx_condB rfl (fun h95 => ?_) (fun h95 => ?_)
 ·
  refine sx_seq fun K61 k61 => sx_region ?_
  refine sp rfl (px_field rfl xfld25x1) ?_
  have f62 := f12.ext c16
  refine sp rfl (px_load rfl (f62.load1 rfl Tryz.isAgg23)) ?_
  refine sp rfl (px_field rfl xfld25x1) ?_
  refine sp rfl (px_load rfl (f19.load1 rfl Tryz.isAgg23)) ?_
  have f63 := f15.ext c16
  have f65 := (f10.ext c11).ext c16
  refine sx_call rfl rfl Tryz.call142 (c_l02Cmp f63 f65 (by omega)) (fun v66 w66 p66 => ?_)
  obtain ⟨rfl, c66⟩ := p66
  have zw66 := c66.size
  refine av rfl rfl (wl_nil (q_n (k61 _ _ ?_)))
  refine sx_retc ?_
  refine q_br (q_r (sx_ret1 Tryz.results136 rfl ?_))
  exact ⟨iEq (cmpI_mm (by simp_all [ng] <;> omega) (by simp_all [ng] <;> omega)), ((((cb2.t cb4).t c11).t c16).t c66)⟩
 refine sx_skip ?_
 refine q_bn (q_n (k6 _ _ ?_))
 refine sx_seq fun K67 k67 => sx_region ?_
 refine sp rfl (px_field rfl xfld25x1) ?_
 refine sp rfl (px_load rfl (f19.load1 rfl Tryz.isAgg23)) ?_
 refine sp rfl (px_field rfl xfld25x1) ?_
 have f68 := f12.ext c16
 refine sp rfl (px_load rfl (f68.load1 rfl Tryz.isAgg23)) ?_
 have f70 := (f10.ext c11).ext c16
 have f71 := f15.ext c16
 refine sx_call rfl rfl Tryz.call142 (c_l02Cmp f70 f71 (by omega)) (fun v72 w72 p72 => ?_)
 obtain ⟨rfl, c72⟩ := p72
 have zw72 := c72.size
 refine av rfl rfl (wl_nil (q_n (k67 _ _ ?_)))
 refine sx_retc ?_
 refine sx_ret1 Tryz.results136 rfl ?_
 exact ⟨iEq (cmpI_nn (by simp_all [ng] <;> omega) (by simp_all [ng] <;> omega)), ((((cb2.t cb4).t c11).t c16).t c72)⟩

theorem c_IntCmpZ {w : World} {va : Value} {lva uva : Nat} {x : Int} {b : Bool} {vb : Value} {lvb uvb : Nat} {ys : List Int} (hva : Sl w lva uva va (dg x.natAbs)) (hvb : Sl w lvb uvb vb (ys)) (hbx : (dg x.natAbs).length ≤ 50) (hb : b = false) (hy : ys = []) :
  Ret Tryz.prog 136 [.agg #[.bool (ng x), va], .agg #[.bool b, vb]] w fun v w' => v = .int .i64 (cmpI x 0) ∧ Chg 0 0 w w' := by
 have h := c_IntCmp (y := 0) (vb := vb) hva (by rw [Int.natAbs_zero, dg_zero]; rw [hy] at hvb; exact hvb) hbx (by rw [Int.natAbs_zero, dg_zero]; simp)
 rw [hb, show false = ng 0 by simp [ng]]; exact h

theorem c_sIntSign {w : World} {va : Value} {lva uva : Nat} {x : Int} (hva : Sl w lva uva va (dg x.natAbs)) (hbx : (dg x.natAbs).length ≤ 50) :
  Ret Tryz.prog 130 [.agg #[.bool (ng x), va]] w fun v w' => v = .int .i64 (cmpI x 0) ∧ Chg 0 0 w w' := by
 have hva0 := hva.fit
 refine sx_enter Tryz.func130 rfl Tryz.ntmps130 (nbl rfl) ?_
 refine sx_seq fun K1 k1 => sx_region ?_
 refine sx_box [.bool (ng x), va] rfl rfl rfl (fun b2 w3 eb2 sb2 fb2 cb2 => ?_)
 have zw3 := cb2.size
 refine av rfl rfl (wl_nil (q_n (k1 _ _ ?_)))
 refine sx_seq fun K4 k4 => sx_region ?_
 refine sp rfl (px_load rfl (fb2.loadA (vs := [.bool (ng x), va]) (look_lit rfl) Tryz.isAgg25 Tryz.sizeOf25)) ?_
 refine sp rfl (px_build rfl (xbld25x  _)) ?_
 have f5 := hva0.ext cb2
 refine sx_call rfl rfl Tryz.call136 (c_IntCmpZ f5 (Sv.nil _ 0 0 1) (by omega) (rfl) (rfl)) (fun v6 w6 p6 => ?_)
 obtain ⟨rfl, c6⟩ := p6
 have zw6 := c6.size
 refine av rfl rfl (wl_nil (q_n (k4 _ _ ?_)))
 refine sx_retc ?_
 refine sx_ret1 Tryz.results130 rfl ?_
 exact ⟨rfl, (cb2.t c6)⟩

theorem c_sRateOk {w : World} {f1 : ByteArray} {t1 : ByteArray} {n1 : Bool} {v1 : Value} {lv1 uv1 : Nat} {z1 : List Int} {p1 : Int} (hv1 : Sl w lv1 uv1 v1 (z1)) (h63 : z1.length ≤ 4611686018427387904) :
  Ret Tryz.prog 112 [.agg #[.string f1, .string t1, .bool n1, v1, .int .i64 p1]] w fun v w' => v = .bool (decide (RateP f1 t1 n1 z1 p1)) ∧ Chg 0 0 w w' := by
 have hv10 := hv1.fit
 refine sx_enter Tryz.func112 rfl Tryz.ntmps112 (nbl rfl) ?_
 refine sx_seq fun K1 k1 => sx_region ?_
 refine sx_box [.string f1, .string t1, .bool n1, v1, .int .i64 p1] rfl rfl rfl (fun b2 w3 eb2 sb2 fb2 cb2 => ?_)
 have zw3 := cb2.size
 refine av rfl rfl (wl_nil (q_n (k1 _ _ ?_)))
 refine sx_seq fun K4 k4 => sx_region ?_
 refine sp rfl (px_field rfl xfld54x0) ?_
 refine sp rfl (px_load rfl (fb2.load1 rfl Tryz.isAgg9)) ?_
 refine sx_call rfl rfl Tryz.call20 (c_sCurKnown) (fun v5 w5 p5 => ?_)
 obtain ⟨rfl, c5⟩ := p5
 have zw5 := c5.size
 refine mv rfl rfl ?_
 refine sx_tmpP (t := 6) rfl (fun h7 => ?_) (fun h7 => ?_)
 ·
  refine sx_guardT rfl rfl rfl ?_
  refine sp rfl (px_field rfl xfld54x1) ?_
  refine sx_guardT rfl rfl rfl ?_
  have f6 := fb2.ext c5
  refine sp rfl (px_load rfl (f6.load1 rfl Tryz.isAgg9)) ?_
  refine sx_guardT rfl rfl rfl ?_
  refine sx_call rfl rfl Tryz.call20 (c_sCurKnown) (fun v7 w7 p7 => ?_)
  obtain ⟨rfl, c7⟩ := p7
  have zw7 := c7.size
  refine sp rfl (px_pick rfl rfl) ?_
  refine mv rfl rfl ?_
  refine sx_tmpP (t := 11) rfl (fun h7x1 => ?_) (fun h7x1 => ?_)
  ·
   refine sx_guardT rfl rfl rfl ?_
   refine sp rfl (px_field rfl xfld54x0) ?_
   refine sx_guardT rfl rfl rfl ?_
   have f8 := f6.ext c7
   refine sp rfl (px_load rfl (f8.load1 rfl Tryz.isAgg9)) ?_
   refine sx_guardT rfl rfl rfl ?_
   refine sp rfl (px_field rfl xfld54x1) ?_
   refine sx_guardT rfl rfl rfl ?_
   refine sp rfl (px_load rfl (f8.load1 rfl Tryz.isAgg9)) ?_
   refine sx_guardT rfl rfl rfl ?_
   refine sp rfl (px_neS rfl rfl) ?_
   refine sp rfl (px_pick rfl rfl) ?_
   refine mv rfl rfl ?_
   refine sx_tmpP (t := 18) rfl (fun h7x2 => ?_) (fun h7x2 => ?_)
   ·
    refine sx_guardT rfl rfl rfl ?_
    refine sp rfl (px_field rfl xfld54x2) ?_
    refine sx_guardT rfl rfl rfl ?_
    refine sp rfl (px_load rfl (f8.loadA (vs := [.bool n1, v1, .int .i64 p1]) (look_lit rfl) Tryz.isAgg27 Tryz.sizeOf27)) ?_
    refine sx_guardT rfl rfl rfl ?_
    have f9 := hv10.ext cb2
    have f11 := (f9.ext c5).ext c7
    refine sx_call rfl rfl Tryz.call129 (c_sDecOk f11 (by omega)) (fun v12 w12 p12 => ?_)
    obtain ⟨rfl, c12⟩ := p12
    have zw12 := c12.size
    refine sp rfl (px_pick rfl rfl) ?_
    refine mv rfl rfl ?_
    refine sx_tmpP (t := 23) rfl (fun h7x3 => ?_) (fun h7x3 => ?_)
    ·
     have hD := h7x3
     obtain ⟨x1, rfl, rfl, hx1⟩ := hD.int
     have hvx := vI_ng x1
     have hsx := sign_gt (x := x1)
     have hcx := cmpI_gt0 (x := x1)
     refine sx_guardT rfl rfl rfl ?_
     refine sp rfl (px_field rfl xfld54x2) ?_
     refine sx_guardT rfl rfl rfl ?_
     refine sp rfl (px_field rfl xfld27x0) ?_
     refine sx_guardT rfl rfl rfl ?_
     have f13 := f8.ext c12
     refine sp rfl (px_load rfl (f13.loadA (vs := [.bool (ng x1), v1]) (look_lit rfl) Tryz.isAgg25 Tryz.sizeOf25)) ?_
     refine sx_guardT rfl rfl rfl ?_
     have f14 := f11.ext c12
     refine sx_call rfl rfl Tryz.call130 (c_sIntSign f14 (by omega)) (fun v15 w15 p15 => ?_)
     obtain ⟨rfl, c15⟩ := p15
     have zw15 := c15.size
     refine sx_guardT rfl rfl rfl ?_
     refine sp rfl (px_gt rfl rfl) ?_
     refine sp rfl (px_pick rfl rfl) ?_
     refine mv rfl rfl ?_
     refine sx_tmpP (t := 30) rfl (fun h7x4 => ?_) (fun h7x4 => ?_)
     ·
      refine sx_guardT rfl rfl rfl ?_
      refine sp rfl (px_field rfl xfld54x2) ?_
      refine sx_guardT rfl rfl rfl ?_
      refine sp rfl (px_field rfl xfld27x0) ?_
      refine sx_guardT rfl rfl rfl ?_
      refine sp rfl (px_field rfl xfld25x1) ?_
      refine sx_guardT rfl rfl rfl ?_
      have f16 := f13.ext c15
      refine sp rfl (px_load rfl (f16.load1 rfl Tryz.isAgg23)) ?_
      refine sx_guardT rfl rfl rfl ?_
      have f17 := f14.ext c15
      refine sp rfl (px_len rfl Tryz.underlying23 f17) ?_
      refine sx_guardT rfl rfl rfl ?_
      refine sp rfl (px_le rfl rfl) ?_
      refine sp rfl (px_pick rfl rfl) ?_
      refine av rfl rfl (wl_nil (q_n (k4 _ _ ?_)))
      refine sx_sub (Sub.c 2 rfl .nil) ?_
      refine sx_retc ?_
      refine sx_ret1 Tryz.results112 rfl ?_
      exact ⟨(by first | exact bTrue (by grind [RateP]) | exact bFalse (by grind [RateP]) | exact bIff (by grind [RateP])), ((((cb2.t c5).t c7).t c12).t c15)⟩
     refine sx_guardF rfl rfl rfl rfl rfl rfl ?_
     refine sx_guardF rfl rfl rfl rfl rfl rfl ?_
     refine sx_guardF rfl rfl rfl rfl rfl rfl ?_
     refine sx_guardF rfl rfl rfl rfl rfl rfl ?_
     refine sx_guardF rfl rfl rfl rfl rfl rfl ?_
     refine sx_guardF rfl rfl rfl rfl rfl rfl ?_
     refine sp rfl (px_pick rfl rfl) ?_
     refine av rfl rfl (wl_nil (q_n (k4 _ _ ?_)))
     refine sx_sub (Sub.c 2 rfl .nil) ?_
     refine sx_retc ?_
     refine sx_ret1 Tryz.results112 rfl ?_
     exact ⟨(by first | exact bTrue (by grind [RateP]) | exact bFalse (by grind [RateP]) | exact bIff (by grind [RateP])), ((((cb2.t c5).t c7).t c12).t c15)⟩
    refine sx_guardF rfl rfl rfl rfl rfl rfl ?_
    refine sx_guardF rfl rfl rfl rfl rfl rfl ?_
    refine sx_guardF rfl rfl rfl rfl rfl rfl ?_
    refine sx_guardF rfl rfl rfl rfl rfl rfl ?_
    refine sx_guardF rfl rfl rfl rfl rfl rfl ?_
    refine sp rfl (px_pick rfl rfl) ?_
    refine mv rfl rfl ?_
    refine sx_guardF rfl rfl rfl rfl rfl rfl ?_
    refine sx_guardF rfl rfl rfl rfl rfl rfl ?_
    refine sx_guardF rfl rfl rfl rfl rfl rfl ?_
    refine sx_guardF rfl rfl rfl rfl rfl rfl ?_
    refine sx_guardF rfl rfl rfl rfl rfl rfl ?_
    refine sx_guardF rfl rfl rfl rfl rfl rfl ?_
    refine sp rfl (px_pick rfl rfl) ?_
    refine av rfl rfl (wl_nil (q_n (k4 _ _ ?_)))
    refine sx_sub (Sub.c 2 rfl .nil) ?_
    refine sx_retc ?_
    refine sx_ret1 Tryz.results112 rfl ?_
    exact ⟨(by first | exact bTrue (by grind [RateP]) | exact bFalse (by grind [RateP]) | exact bIff (by grind [RateP])), (((cb2.t c5).t c7).t c12)⟩
   refine sx_guardF rfl rfl rfl rfl rfl rfl ?_
   refine sx_guardF rfl rfl rfl rfl rfl rfl ?_
   refine sx_guardF rfl rfl rfl rfl rfl rfl ?_
   refine sp rfl (px_pick rfl rfl) ?_
   refine mv rfl rfl ?_
   refine sx_guardF rfl rfl rfl rfl rfl rfl ?_
   refine sx_guardF rfl rfl rfl rfl rfl rfl ?_
   refine sx_guardF rfl rfl rfl rfl rfl rfl ?_
   refine sx_guardF rfl rfl rfl rfl rfl rfl ?_
   refine sx_guardF rfl rfl rfl rfl rfl rfl ?_
   refine sp rfl (px_pick rfl rfl) ?_
   refine mv rfl rfl ?_
   refine sx_guardF rfl rfl rfl rfl rfl rfl ?_
   refine sx_guardF rfl rfl rfl rfl rfl rfl ?_
   refine sx_guardF rfl rfl rfl rfl rfl rfl ?_
   refine sx_guardF rfl rfl rfl rfl rfl rfl ?_
   refine sx_guardF rfl rfl rfl rfl rfl rfl ?_
   refine sx_guardF rfl rfl rfl rfl rfl rfl ?_
   refine sp rfl (px_pick rfl rfl) ?_
   refine av rfl rfl (wl_nil (q_n (k4 _ _ ?_)))
   refine sx_sub (Sub.c 2 rfl .nil) ?_
   refine sx_retc ?_
   refine sx_ret1 Tryz.results112 rfl ?_
   exact ⟨(by first | exact bTrue (by grind [RateP]) | exact bFalse (by grind [RateP]) | exact bIff (by grind [RateP])), ((cb2.t c5).t c7)⟩
  refine sx_guardF rfl rfl rfl rfl rfl rfl ?_
  refine sx_guardF rfl rfl rfl rfl rfl rfl ?_
  refine sx_guardF rfl rfl rfl rfl rfl rfl ?_
  refine sx_guardF rfl rfl rfl rfl rfl rfl ?_
  refine sx_guardF rfl rfl rfl rfl rfl rfl ?_
  refine sp rfl (px_pick rfl rfl) ?_
  refine mv rfl rfl ?_
  refine sx_guardF rfl rfl rfl rfl rfl rfl ?_
  refine sx_guardF rfl rfl rfl rfl rfl rfl ?_
  refine sx_guardF rfl rfl rfl rfl rfl rfl ?_
  refine sp rfl (px_pick rfl rfl) ?_
  refine mv rfl rfl ?_
  refine sx_guardF rfl rfl rfl rfl rfl rfl ?_
  refine sx_guardF rfl rfl rfl rfl rfl rfl ?_
  refine sx_guardF rfl rfl rfl rfl rfl rfl ?_
  refine sx_guardF rfl rfl rfl rfl rfl rfl ?_
  refine sx_guardF rfl rfl rfl rfl rfl rfl ?_
  refine sp rfl (px_pick rfl rfl) ?_
  refine mv rfl rfl ?_
  refine sx_guardF rfl rfl rfl rfl rfl rfl ?_
  refine sx_guardF rfl rfl rfl rfl rfl rfl ?_
  refine sx_guardF rfl rfl rfl rfl rfl rfl ?_
  refine sx_guardF rfl rfl rfl rfl rfl rfl ?_
  refine sx_guardF rfl rfl rfl rfl rfl rfl ?_
  refine sx_guardF rfl rfl rfl rfl rfl rfl ?_
  refine sp rfl (px_pick rfl rfl) ?_
  refine av rfl rfl (wl_nil (q_n (k4 _ _ ?_)))
  refine sx_sub (Sub.c 2 rfl .nil) ?_
  refine sx_retc ?_
  refine sx_ret1 Tryz.results112 rfl ?_
  exact ⟨(by first | exact bTrue (by grind [RateP]) | exact bFalse (by grind [RateP]) | exact bIff (by grind [RateP])), ((cb2.t c5).t c7)⟩
 refine sx_guardF rfl rfl rfl rfl rfl rfl ?_
 refine sx_guardF rfl rfl rfl rfl rfl rfl ?_
 refine sx_guardF rfl rfl rfl rfl rfl rfl ?_
 refine sp rfl (px_pick rfl rfl) ?_
 refine mv rfl rfl ?_
 refine sx_guardF rfl rfl rfl rfl rfl rfl ?_
 refine sx_guardF rfl rfl rfl rfl rfl rfl ?_
 refine sx_guardF rfl rfl rfl rfl rfl rfl ?_
 refine sx_guardF rfl rfl rfl rfl rfl rfl ?_
 refine sx_guardF rfl rfl rfl rfl rfl rfl ?_
 refine sp rfl (px_pick rfl rfl) ?_
 refine mv rfl rfl ?_
 refine sx_guardF rfl rfl rfl rfl rfl rfl ?_
 refine sx_guardF rfl rfl rfl rfl rfl rfl ?_
 refine sx_guardF rfl rfl rfl rfl rfl rfl ?_
 refine sp rfl (px_pick rfl rfl) ?_
 refine mv rfl rfl ?_
 refine sx_guardF rfl rfl rfl rfl rfl rfl ?_
 refine sx_guardF rfl rfl rfl rfl rfl rfl ?_
 refine sx_guardF rfl rfl rfl rfl rfl rfl ?_
 refine sx_guardF rfl rfl rfl rfl rfl rfl ?_
 refine sx_guardF rfl rfl rfl rfl rfl rfl ?_
 refine sp rfl (px_pick rfl rfl) ?_
 refine mv rfl rfl ?_
 refine sx_guardF rfl rfl rfl rfl rfl rfl ?_
 refine sx_guardF rfl rfl rfl rfl rfl rfl ?_
 refine sx_guardF rfl rfl rfl rfl rfl rfl ?_
 refine sx_guardF rfl rfl rfl rfl rfl rfl ?_
 refine sx_guardF rfl rfl rfl rfl rfl rfl ?_
 refine sx_guardF rfl rfl rfl rfl rfl rfl ?_
 refine sp rfl (px_pick rfl rfl) ?_
 refine av rfl rfl (wl_nil (q_n (k4 _ _ ?_)))
 refine sx_sub (Sub.c 2 rfl .nil) ?_
 refine sx_retc ?_
 refine sx_ret1 Tryz.results112 rfl ?_
 exact ⟨(by first | exact bTrue (by grind [RateP]) | exact bFalse (by grind [RateP]) | exact bIff (by grind [RateP])), (cb2.t c5)⟩

theorem c_l10At {w : World} {vt : Value} {lvt uvt : Nat} {ts : List Rt} {vvt : List Value} {a : ByteArray} {b : ByteArray} (hvt : RtS w lvt uvt vt ts vvt) (h63 : ts.length ≤ 4611686018427387904) :
  Ret Tryz.prog 114 [vt, .string a, .string b] w fun v w' => v = .int .i64 (atI ts a b) ∧ Chg 0 0 w w' := by
 have hvt0 := hvt.fit
 refine sx_enter Tryz.func114 rfl Tryz.ntmps114 (nbl rfl) ?_
 refine sx_seq fun K1 k1 => sx_region ?_
 refine av rfl rfl (wl_nil (q_n (k1 _ _ ?_)))
 refine sx_seq fun K2 k2 => ?_
 refine sx_seq fun K3 k3 => sx_region ?_
 refine mv rfl rfl (sp rfl (px_len rfl Tryz.underlying45 hvt0.sv) ?_)
 refine mv rfl rfl (wl_nil (q_n (k3 _ _ ?_)))
 refine sx_block ?_
 refine sx_loop (fun mm aa w' => ∃ (k : Nat), Agr 28 [(1, .string a), (2, .string b), (9, vt), (10, .int .i64 (↑(ts).length)), (11, .int .i64 ↑k)] aa ∧ Chg 0 0 w w' ∧ (mm = ts.length - k) ∧ (k ≤ ts.length) ∧ (∀ i, i < k → ¬ ((ts.getD i rt0).1 = a ∧ (ts.getD i rt0).2.1 = b))) (_) (fun a ha => ⟨0, ha.sub (Sub.c 1 rfl (.c 2 rfl (.c 9 rfl (.c 10 (look_int (t := 10) rfl (by first | omega | simp)) (.c 11 (look_int (t := 11) rfl (by first | omega | simp)) .nil))))), Chg.refl _ _ _, rfl, by omega, fun i hi => by omega⟩) ?_
 rintro mm aa wl4 ⟨k, hAwl4, cwl4, hm, hk, hn⟩
 refine (show cw Tryz.prog 28 _ _ _ wl4 from ?_) aa hAwl4
 clear hAwl4
 have zwl4 := cwl4.size
 refine sx_seq fun K5 k5 => sx_region ?_
 refine sp rfl (px_lt rfl rfl) ?_
 refine wl_nil (q_n (k5 _ _ ?_))
 refine sx_seq fun K6 k6 => ?_
 refine sx_condP rfl (fun h11 => ?_) (fun h11 => ?_)
 ·
  refine sx_skip ?_
  refine q_n (k6 _ _ ?_)
  refine sx_seq fun K7 k7 => ?_
  refine sx_block ?_
  refine sx_seq fun K8 k8 => sx_region ?_
  refine mv rfl rfl ?_
  have f9 := hvt0.ext cwl4
  refine sp rfl (px_indexK (j := k) rfl rfl (by omega) Tryz.underlying45 Tryz.sizeOf54 f9.sv (by omega)) ?_
  refine sp rfl (px_load rfl (f9.sv.loadA (rt_look f9.len (by omega)) Tryz.isAgg54 Tryz.sizeOf54)) ?_
  refine sx_alloc [.string (⟨#[]⟩), .string (⟨#[]⟩), .bool false, (.slice none 0 0), .int .i64 0] rfl Tryz.zeroValue54 rfl (fun b10 w11 eb10 sb10 fb10 cb10 => ?_)
  have zw11 := cb10.size
  refine av rfl rfl ?_
  have f13 := (f9.nest k (by omega)).ext cb10
  refine sx_store (vs := [.string ((ts.getD k rt0).1), .string ((ts.getD k rt0).2.1), .bool ((ts.getD k rt0).2.2.1), (vvt.getD k vz), .int .i64 ((ts.getD k rt0).2.2.2.2)]) rfl rfl fb10 rfl Tryz.sizeOf54 (nbl rfl) (one_cons rfl (one_cons rfl (one_cons rfl (one_cons f13.one (o1 rfl))))) (fun w12 sw12 fw12 cw12 => ?_)
  have zw12 := cw12.size
  have gw12 : Blk w12 b10 [.string ((ts.getD k rt0).1), .string ((ts.getD k rt0).2.1), .bool ((ts.getD k rt0).2.2.1), (vvt.getD k vz), .int .i64 ((ts.getD k rt0).2.2.2.2)] 54 := fw12
  refine wl_nil (q_n (k8 _ _ ?_))
  refine sx_seq fun K14 k14 => sx_region ?_
  refine sp rfl (px_field rfl xfld54x0) ?_
  refine sp rfl (px_load rfl (gw12.load1 rfl Tryz.isAgg9)) ?_
  refine mv rfl rfl (sp rfl (px_eqS rfl rfl) ?_)
  refine mv rfl rfl ?_
  refine sx_tmpP (t := 20) rfl (fun h12 => ?_) (fun h12 => ?_)
  ·
   refine sx_guardT rfl rfl rfl ?_
   refine sp rfl (px_field rfl xfld54x1) ?_
   refine sx_guardT rfl rfl rfl ?_
   refine sp rfl (px_load rfl (gw12.load1 rfl Tryz.isAgg9)) ?_
   refine sx_guardT rfl rfl rfl ?_
   refine mv rfl rfl ?_
   refine sx_guardT rfl rfl rfl ?_
   refine sp rfl (px_eqS rfl rfl) ?_
   refine sp rfl (px_pick rfl rfl) ?_
   refine wl_nil (q_n (k14 _ _ ?_))
   refine sx_sub (Sub.c 1 rfl (.c 2 rfl (.c 7 rfl (.c 9 rfl (.c 10 rfl (.c 11 rfl (.c 25 rfl .nil))))))) ?_
   refine sx_condP rfl (fun h12x1 => ?_) (fun h12x1 => ?_)
   ·
    refine sx_seq fun K15 k15 => sx_region ?_
    refine mv rfl rfl (av rfl rfl (wl_nil (q_n (k15 _ _ ?_))))
    refine sx_retc ?_
    refine q_br (q_r (q_r (q_br (q_r (sx_ret1 Tryz.results114 rfl ?_)))))
    have q16 := Chg.step (l := 0) (h := 0) (Chg.zero (l := 0) (h := 0) (cwl4.t cb10)) cw12 (by omega)
    exact ⟨(by rw [atI_some (by omega) hn ⟨h12, h12x1⟩]), q16⟩
   refine sx_skip ?_
   refine q_bn (q_n (k7 _ _ ?_))
   refine sx_region ?_
   refine sp rfl (px_add rfl rfl (by omega)) ?_
   refine mv rfl rfl (wl_nil ?_)
   have q17 := Chg.step (l := 0) (h := 0) (Chg.zero (l := 0) (h := 0) (cwl4.t cb10)) cw12 (by omega)
   exact fun a ha => ⟨_, by omega, (k + 1), ha.sub (Sub.c 1 rfl (.c 2 rfl (.c 9 rfl (.c 10 rfl (.c 11 (look_int (t := 11) rfl (by first | omega | simp)) .nil))))), q17, rfl, by omega, upto_next hn (fun hh => by first | exact h12 hh.1 | exact h12x1 hh.2)⟩
  refine sx_guardF rfl rfl rfl rfl rfl rfl ?_
  refine sx_guardF rfl rfl rfl rfl rfl rfl ?_
  refine sx_guardF rfl rfl rfl rfl rfl rfl ?_
  refine sx_guardF rfl rfl rfl rfl rfl rfl ?_
  refine sp rfl (px_pick rfl rfl) ?_
  refine wl_nil (q_n (k14 _ _ ?_))
  refine sx_sub (Sub.c 1 rfl (.c 2 rfl (.c 7 rfl (.c 9 rfl (.c 10 rfl (.c 11 rfl (.c 25 rfl .nil))))))) ?_
  refine sx_condF rfl ?_
  refine sx_skip ?_
  refine q_bn (q_n (k7 _ _ ?_))
  refine sx_region ?_
  refine sp rfl (px_add rfl rfl (by omega)) ?_
  refine mv rfl rfl (wl_nil ?_)
  have q18 := Chg.step (l := 0) (h := 0) (Chg.zero (l := 0) (h := 0) (cwl4.t cb10)) cw12 (by omega)
  exact fun a ha => ⟨_, by omega, (k + 1), ha.sub (Sub.c 1 rfl (.c 2 rfl (.c 9 rfl (.c 10 rfl (.c 11 (look_int (t := 11) rfl (by first | omega | simp)) .nil))))), q18, rfl, by omega, upto_next hn (fun hh => by first | exact h12 hh.1 | exact h12x1 hh.2)⟩
 refine sx_exit ?_
 refine q_e (q_e (q_bx (q_n (k2 _ _ ?_))))
 refine sx_seq fun K19 k19 => sx_region ?_
 refine av rfl rfl (wl_nil (q_n (k19 _ _ ?_)))
 refine sx_retc ?_
 refine sx_ret1 Tryz.results114 rfl ?_
 exact ⟨(by rw [atI_none (fun i hi => hn i (by omega))]), cwl4⟩

theorem c_sRatesOk {w : World} {pv : ByteArray} {vt : Value} {lvt uvt : Nat} {ts : List Rt} {vvt : List Value} (hvt : RtS w lvt uvt vt ts vvt) (h63 : ts.length ≤ 4611686018427387904) (hz : ∀ i, i < ts.length → (ts.getD i rt0).2.2.2.1.length ≤ 4611686018427387904) :
  Ret Tryz.prog 111 [.agg #[.string pv, vt]] w fun v w' => v = .bool (decide (RsOk pv ts)) ∧ Chg 0 0 w w' := by
 have hvt0 := hvt.fit
 refine sx_enter Tryz.func111 rfl Tryz.ntmps111 (nbl rfl) ?_
 refine sx_seq fun K1 k1 => sx_region ?_
 refine sx_box [.string pv, vt] rfl rfl rfl (fun b2 w3 eb2 sb2 fb2 cb2 => ?_)
 have zw3 := cb2.size
 refine av rfl rfl (wl_nil (q_n (k1 _ _ ?_)))
 refine sx_seq fun K4 k4 => ?_
 refine sx_seq fun K5 k5 => sx_region ?_
 refine sp rfl (px_field rfl xfld47x0) ?_
 refine sp rfl (px_load rfl (fb2.load1 rfl Tryz.isAgg9)) ?_
 refine sx_call rfl rfl Tryz.call20 (c_sCurKnown) (fun v6 w6 p6 => ?_)
 obtain ⟨rfl, c6⟩ := p6
 have zw6 := c6.size
 refine sp rfl (px_notP rfl) ?_
 refine mv rfl rfl ?_
 refine sx_tmpP (t := 9) rfl (fun h21 => ?_) (fun h21 => ?_)
 ·
  refine sx_guardF rfl rfl rfl rfl rfl rfl ?_
  refine sx_guardF rfl rfl rfl rfl rfl rfl ?_
  refine sx_guardF rfl rfl rfl rfl rfl rfl ?_
  refine sx_guardF rfl rfl rfl rfl rfl rfl ?_
  refine sp rfl (px_pick rfl rfl) ?_
  refine wl_nil (q_n (k5 _ _ ?_))
  refine sx_condT rfl ?_
  refine sx_seq fun K7 k7 => sx_region ?_
  refine av rfl rfl (wl_nil (q_n (k7 _ _ ?_)))
  refine sx_retc ?_
  refine q_r (sx_ret1 Tryz.results111 rfl ?_)
  exact ⟨bFalse (fun h => by first | exact absurd h.1 (by assumption) | (have := h.2.1; omega)), (cb2.t c6)⟩
 refine sx_guardT rfl rfl rfl ?_
 refine sp rfl (px_field rfl xfld47x1) ?_
 refine sx_guardT rfl rfl rfl ?_
 have f8 := fb2.ext c6
 refine sp rfl (px_load rfl (f8.load1 rfl Tryz.isAgg45)) ?_
 refine sx_guardT rfl rfl rfl ?_
 have f9 := hvt0.ext cb2
 have f10 := f9.ext c6
 refine sp rfl (px_len rfl Tryz.underlying45 f10.sv) ?_
 refine sx_guardT rfl rfl rfl ?_
 refine sp rfl (px_gt rfl rfl) ?_
 refine sp rfl (px_pick rfl rfl) ?_
 refine wl_nil (q_n (k5 _ _ ?_))
 refine sx_condP rfl (fun h21x1 => ?_) (fun h21x1 => ?_)
 ·
  refine sx_seq fun K11 k11 => sx_region ?_
  refine av rfl rfl (wl_nil (q_n (k11 _ _ ?_)))
  refine sx_retc ?_
  refine q_r (sx_ret1 Tryz.results111 rfl ?_)
  exact ⟨bFalse (fun h => by first | exact absurd h.1 (by assumption) | (have := h.2.1; omega)), (cb2.t c6)⟩
 refine sx_skip ?_
 refine q_n (k4 _ _ ?_)
 refine sx_seq fun K12 k12 => ?_
 refine sx_seq fun K13 k13 => sx_region ?_
 refine sp rfl (px_field rfl xfld47x1) ?_
 refine sp rfl (px_load rfl (f8.load1 rfl Tryz.isAgg45)) ?_
 refine sp rfl (px_len rfl Tryz.underlying45 f10.sv) ?_
 refine mv rfl rfl (wl_nil (q_n (k13 _ _ ?_)))
 refine sx_sub (Sub.c 1 rfl (.c 2 rfl (.c 16 rfl (.c 17 rfl (.c 18 rfl .nil))))) ?_
 refine sx_block ?_
 refine sx_loop (fun mm aa w' => ∃ (k : Nat), Agr 38 [(1, .pointer (some ⟨b2, 0, none⟩)), (16, vt), (17, .int .i64 (↑(ts).length)), (18, .int .i64 ↑k)] aa ∧ Chg b2 (b2 + 1) w6 w' ∧ Blk w' b2 [.string pv, vt] 47 ∧ (mm = ts.length - k) ∧ (k ≤ ts.length) ∧ (AllTo ts k)) (_) (fun a ha => ⟨0, ha.sub (Sub.c 1 rfl (.c 16 rfl (.c 17 (look_int (t := 17) rfl (by first | omega | simp)) (.c 18 (look_int (t := 18) rfl (by first | omega | simp)) .nil)))), Chg.refl _ _ _, f8, rfl, by omega, AllTo_zero ts⟩) ?_
 rintro mm aa wl14 ⟨k, hAwl14, cwl14, hb_b2, hm, hk, hall⟩
 refine (show cw Tryz.prog 38 _ _ _ wl14 from ?_) aa hAwl14
 clear hAwl14
 have zwl14 := cwl14.size
 refine sx_seq fun K15 k15 => sx_region ?_
 refine sp rfl (px_lt rfl rfl) ?_
 refine wl_nil (q_n (k15 _ _ ?_))
 refine sx_seq fun K16 k16 => ?_
 refine sx_condP rfl (fun h24 => ?_) (fun h24 => ?_)
 ·
  refine sx_skip ?_
  refine q_n (k16 _ _ ?_)
  refine sx_seq fun K17 k17 => ?_
  refine sx_block ?_
  refine sx_seq fun K18 k18 => sx_region ?_
  refine mv rfl rfl ?_
  have f19 := f10.chg cwl14 (by omega)
  refine sp rfl (px_indexK (j := k) rfl rfl (by omega) Tryz.underlying45 Tryz.sizeOf54 f19.sv (by omega)) ?_
  refine sp rfl (px_load rfl (f19.sv.loadA (rt_look f19.len (by omega)) Tryz.isAgg54 Tryz.sizeOf54)) ?_
  refine sx_alloc [.string (⟨#[]⟩), .string (⟨#[]⟩), .bool false, (.slice none 0 0), .int .i64 0] rfl Tryz.zeroValue54 rfl (fun b20 w21 eb20 sb20 fb20 cb20 => ?_)
  have zw21 := cb20.size
  refine av rfl rfl ?_
  have f23 := (f19.nest k (by omega)).ext cb20
  refine sx_store (vs := [.string ((ts.getD k rt0).1), .string ((ts.getD k rt0).2.1), .bool ((ts.getD k rt0).2.2.1), (vvt.getD k vz), .int .i64 ((ts.getD k rt0).2.2.2.2)]) rfl rfl fb20 rfl Tryz.sizeOf54 (nbl rfl) (one_cons rfl (one_cons rfl (one_cons rfl (one_cons f23.one (o1 rfl))))) (fun w22 sw22 fw22 cw22 => ?_)
  have zw22 := cw22.size
  have gw22 : Blk w22 b20 [.string ((ts.getD k rt0).1), .string ((ts.getD k rt0).2.1), .bool ((ts.getD k rt0).2.2.1), (vvt.getD k vz), .int .i64 ((ts.getD k rt0).2.2.2.2)] 54 := fw22
  refine wl_nil (q_n (k18 _ _ ?_))
  refine sx_seq fun K24 k24 => sx_region ?_
  refine sp rfl (px_load rfl (gw22.loadA (vs := [.string ((ts.getD k rt0).1), .string ((ts.getD k rt0).2.1), .bool ((ts.getD k rt0).2.2.1), (vvt.getD k vz), .int .i64 ((ts.getD k rt0).2.2.2.2)]) (look_lit rfl) Tryz.isAgg54 Tryz.sizeOf54)) ?_
  have f25 := f23.chg cw22 (by omega)
  refine sx_call rfl rfl Tryz.call112 (c_sRateOk f25 (hz k (by omega))) (fun v26 w26 p26 => ?_)
  obtain ⟨rfl, c26⟩ := p26
  have zw26 := c26.size
  refine sp rfl (px_notP rfl) ?_
  refine mv rfl rfl ?_
  refine sx_tmpP (t := 26) rfl (fun h25 => ?_) (fun h25 => ?_)
  ·
   refine sx_guardF rfl rfl rfl rfl rfl rfl ?_
   refine sx_guardF rfl rfl rfl rfl rfl rfl ?_
   refine sx_guardF rfl rfl rfl rfl rfl rfl ?_
   refine sx_guardF rfl rfl rfl rfl rfl rfl ?_
   refine sx_guardF rfl rfl rfl rfl rfl rfl ?_
   refine sx_guardF rfl rfl rfl rfl rfl rfl ?_
   refine sx_guardF rfl rfl rfl rfl rfl rfl ?_
   refine sx_guardF rfl rfl rfl rfl rfl rfl ?_
   refine sx_guardF rfl rfl rfl rfl rfl rfl ?_
   refine sp rfl (px_pick rfl rfl) ?_
   refine wl_nil (q_n (k24 _ _ ?_))
   refine sx_sub (Sub.c 1 rfl (.c 16 rfl (.c 17 rfl (.c 18 rfl (.c 36 rfl .nil))))) ?_
   refine sx_condT rfl ?_
   refine sx_seq fun K27 k27 => sx_region ?_
   refine av rfl rfl (wl_nil (q_n (k27 _ _ ?_)))
   refine sx_retc ?_
   refine q_br (q_r (q_r (q_br (q_r (sx_ret1 Tryz.results111 rfl ?_)))))
   have q28 := Chg.step (l := 0) (h := 0) (Chg.zero (l := 0) (h := 0) (cb2.t c6)) cwl14 (by omega)
   have q29 := Chg.step (l := 0) (h := 0) q28 cb20 (by omega)
   have q30 := Chg.step (l := 0) (h := 0) q29 cw22 (by omega)
   have q31 := Chg.step (l := 0) (h := 0) q30 c26 (by omega)
   exact ⟨(by first | exact bFalse (rsok_no_rate (k := k) (by omega) h25) | exact bFalse (rsok_no_key (k := k) (by omega) (fun hh => h25x1 ((atI_self (by omega)).2 hh)))), q31⟩
  refine sx_guardT rfl rfl rfl ?_
  refine sp rfl (px_field rfl xfld47x1) ?_
  refine sx_guardT rfl rfl rfl ?_
  have f32 := hb_b2.ext cb20
  have f33 := f32.chg cw22 (by omega)
  have f34 := f33.ext c26
  refine sp rfl (px_load rfl (f34.load1 rfl Tryz.isAgg45)) ?_
  refine sx_guardT rfl rfl rfl ?_
  refine sp rfl (px_field rfl xfld54x0) ?_
  refine sx_guardT rfl rfl rfl ?_
  have f35 := gw22.ext c26
  refine sp rfl (px_load rfl (f35.load1 rfl Tryz.isAgg9)) ?_
  refine sx_guardT rfl rfl rfl ?_
  refine sp rfl (px_field rfl xfld54x1) ?_
  refine sx_guardT rfl rfl rfl ?_
  refine sp rfl (px_load rfl (f35.load1 rfl Tryz.isAgg9)) ?_
  refine sx_guardT rfl rfl rfl ?_
  have f36 := f19.ext cb20
  have f37 := f36.chg cw22 (by omega)
  have f38 := f37.ext c26
  refine sx_call rfl rfl Tryz.call114 (c_l10At f38 (by omega)) (fun v39 w39 p39 => ?_)
  obtain ⟨rfl, c39⟩ := p39
  have zw39 := c39.size
  refine sx_guardT rfl rfl rfl ?_
  refine mv rfl rfl ?_
  refine sx_guardT rfl rfl rfl ?_
  refine sp rfl (px_ne rfl rfl) ?_
  refine sp rfl (px_pick rfl rfl) ?_
  refine wl_nil (q_n (k24 _ _ ?_))
  refine sx_sub (Sub.c 1 rfl (.c 16 rfl (.c 17 rfl (.c 18 rfl (.c 36 rfl .nil))))) ?_
  refine sx_condP rfl (fun h25x1 => ?_) (fun h25x1 => ?_)
  ·
   refine sx_seq fun K40 k40 => sx_region ?_
   refine av rfl rfl (wl_nil (q_n (k40 _ _ ?_)))
   refine sx_retc ?_
   refine q_br (q_r (q_r (q_br (q_r (sx_ret1 Tryz.results111 rfl ?_)))))
   have q41 := Chg.step (l := 0) (h := 0) (Chg.zero (l := 0) (h := 0) (cb2.t c6)) cwl14 (by omega)
   have q42 := Chg.step (l := 0) (h := 0) q41 cb20 (by omega)
   have q43 := Chg.step (l := 0) (h := 0) q42 cw22 (by omega)
   have q44 := Chg.step (l := 0) (h := 0) q43 (c26.t c39) (by omega)
   exact ⟨(by first | exact bFalse (rsok_no_rate (k := k) (by omega) h25) | exact bFalse (rsok_no_key (k := k) (by omega) (fun hh => h25x1 ((atI_self (by omega)).2 hh)))), q44⟩
  refine sx_skip ?_
  refine q_bn (q_n (k17 _ _ ?_))
  refine sx_region ?_
  refine sp rfl (px_add rfl rfl (by omega)) ?_
  refine mv rfl rfl (wl_nil ?_)
  have q45 := Chg.step (l := b2) (h := (b2 + 1)) cwl14 cb20 (by omega)
  have q46 := Chg.step (l := b2) (h := (b2 + 1)) q45 cw22 (by omega)
  have q47 := Chg.step (l := b2) (h := (b2 + 1)) q46 (c26.t c39) (by omega)
  have f48 := f34.ext c39
  exact fun a ha => ⟨_, by omega, (k + 1), ha.sub (Sub.c 1 rfl (.c 16 rfl (.c 17 rfl (.c 18 (look_int (t := 18) rfl (by first | omega | simp)) .nil)))), q47, f48, rfl, by omega, AllTo_succ hall (Decidable.not_not.1 h25) ((atI_self (by omega)).1 (Decidable.not_not.1 h25x1))⟩
 refine sx_exit ?_
 refine q_e (q_e (q_bx (q_n (k12 _ _ ?_))))
 refine sx_seq fun K49 k49 => sx_region ?_
 refine av rfl rfl (wl_nil (q_n (k49 _ _ ?_)))
 refine sx_retc ?_
 refine sx_ret1 Tryz.results111 rfl ?_
 have ek : k = ts.length := by omega
 subst ek
 have q50 := Chg.step (l := 0) (h := 0) (Chg.zero (l := 0) (h := 0) (cb2.t c6)) cwl14 (by omega)
 exact ⟨bTrue ⟨Decidable.not_not.1 h21, by omega, hall⟩, q50⟩

theorem c_l10Rate {w : World} {f1 : ByteArray} {t1 : ByteArray} {n1 : Bool} {v1 : Value} {lv1 uv1 : Nat} {z1 : List Int} {p1 : Int} (hv1 : Sl w lv1 uv1 v1 (z1)) (hI : IOk n1 z1) :
  Ret Tryz.prog 115 [.agg #[.string f1, .string t1, .bool n1, v1, .int .i64 p1]] w fun v w' => ∃ s, v = .agg #[.string (f1), .string (t1), .bool (n1), s, .int .i64 (p1)] ∧ OwnI w' w.heap.size w'.heap.size s intT (z1) ∧ Chg 0 0 w w' := by
 have hv10 := hv1.fit
 refine sx_enter Tryz.func115 rfl Tryz.ntmps115 (nbl rfl) ?_
 refine sx_seq fun K1 k1 => sx_region ?_
 refine sx_box [.string f1, .string t1, .bool n1, v1, .int .i64 p1] rfl rfl rfl (fun b2 w3 eb2 sb2 fb2 cb2 => ?_)
 have zw3 := cb2.size
 refine sx_alloc [.string (⟨#[]⟩), .string (⟨#[]⟩), .bool false, (.slice none 0 0), .int .i64 0] rfl Tryz.zeroValue54 rfl (fun b4 w5 eb4 sb4 fb4 cb4 => ?_)
 have zw5 := cb4.size
 refine wl_nil (q_n (k1 _ _ ?_))
 refine sx_seq fun K6 k6 => ?_
 have f7 := fb2.ext cb4
 have f8 := hv10.ext cb2
 have f9 := f8.ext cb4
 refine dx_region (fun w' => Chg b4 (b4 + 1) w5 w') (by kernel_rfl) (Chg.zero (Chg.drew _)) ?_
 have d10 := Chg.drew w5
 have s10 : Chg b4 (b4 + 1) w5 (World.drew w5) := Chg.zero (Chg.drew _)
 have y10 : (World.drew w5).heap.size = w5.heap.size := rfl
 generalize World.drew w5 = w10 at *
 have zw10 := d10.size
 refine dt 0 rfl rfl rfl rfl s10 (fun _ hS => px_field rfl xfld54x0) ?_
 refine dt 1 rfl rfl rfl rfl s10 (fun _ hS => px_load rfl ((f7.chg hS (by omega)).load1 rfl Tryz.isAgg9)) ?_
 refine dt 2 rfl rfl rfl rfl s10 (fun _ hS => px_field rfl xfld54x1) ?_
 refine dt 3 rfl rfl rfl rfl s10 (fun _ hS => px_load rfl ((f7.chg hS (by omega)).load1 rfl Tryz.isAgg9)) ?_
 refine dt 4 rfl rfl rfl rfl s10 (fun _ hS => px_field rfl xfld54x2) ?_
 refine dt 5 rfl rfl rfl rfl s10 (fun _ hS => px_field rfl xfld27x0) ?_
 refine dt 6 rfl rfl rfl rfl s10 (fun _ hS => px_field rfl xfld25x0) ?_
 refine dt 7 rfl rfl rfl rfl s10 (fun _ hS => px_load rfl ((f7.chg hS (by omega)).load1 rfl Tryz.isAgg4)) ?_
 refine dt 8 rfl rfl rfl rfl s10 (fun _ hS => px_field rfl xfld54x2) ?_
 refine dt 9 rfl rfl rfl rfl s10 (fun _ hS => px_field rfl xfld27x0) ?_
 refine dt 10 rfl rfl rfl rfl s10 (fun _ hS => px_field rfl xfld25x1) ?_
 refine dt 11 rfl rfl rfl rfl s10 (fun _ hS => px_load rfl ((f7.chg hS (by omega)).load1 rfl Tryz.isAgg23)) ?_
 refine dt 13 rfl rfl rfl rfl s10 (fun _ hS => px_field rfl xfld54x2) ?_
 refine dt 14 rfl rfl rfl rfl s10 (fun _ hS => px_field rfl xfld27x1) ?_
 refine dt 15 rfl rfl rfl rfl s10 (fun _ hS => px_load rfl ((f7.chg hS (by omega)).load1 rfl Tryz.isAgg3)) ?_
 refine dx_eff 12 rfl (by kernel_rfl) ?_
 have f11 := f9.ext d10
 refine sx_call rfl rfl Tryz.call97 (c_l04MakeOk f11 (by assumption)) (fun v12 w12 p12 => ?_)
 obtain ⟨s12, rfl, os_12, c12⟩ := p12
 have zw12 := c12.size
 have s13 : Chg b4 (b4 + 1) w5 w12 := (Chg.zero (l := b4) (h := (b4 + 1)) (d10.t c12))
 refine wl_nil ?_
 refine dx_next s13 ?_
 refine dt 16 rfl rfl rfl rfl s13 (fun _ hS => px_build rfl (xbld27x0x1 rfl _)) ?_
 refine dt 17 rfl rfl rfl rfl s13 (fun _ hS => px_build rfl (xbld54x0x1x2 rfl rfl _)) ?_
 refine dx_eff 18 rfl (by kernel_rfl) ?_
 have f16 := (fb4.ext d10).ext c12
 refine sx_store (vs := [.string f1, .string t1, .bool n1, s12, .int .i64 p1]) rfl rfl f16 rfl Tryz.sizeOf54 (nbl rfl) (one_cons rfl (one_cons rfl (one_cons rfl (one_cons os_12.one (o1 rfl))))) (fun w14 sw14 fw14 cw14 => ?_)
 have zw14 := cw14.size
 have gw14 : Blk w14 b4 [.string f1, .string t1, .bool n1, s12, .int .i64 p1] 54 := fw14
 have q18 := Chg.step (l := b4) (h := (b4 + 1)) (Chg.zero (l := b4) (h := (b4 + 1)) (d10.t c12)) cw14 (by omega)
 have s17 : Chg b4 (b4 + 1) w5 w14 := q18
 refine wl_nil ?_
 refine dx_next s17 ?_
 refine dx_done (by kernel_rfl) ?_
 refine q_n (k6 _ _ ?_)
 refine sx_sub (Sub.c 2 rfl .nil) ?_
 refine sx_retc ?_
 refine sx_ret1 Tryz.results115 ⟨_, rfl, gw14.loadA (vs := [.string f1, .string t1, .bool n1, s12, .int .i64 p1]) (look_lit rfl) Tryz.isAgg54 Tryz.sizeOf54⟩ ?_
 have q19 := Chg.step (l := 0) (h := 0) (Chg.zero (l := 0) (h := 0) (((cb2.t cb4).t d10).t c12)) cw14 (by omega)
 have f20 := os_12.chg cw14 (by omega)
 exact ⟨_, rfl, (Own.mono f20 (by omega) (by omega)), q19⟩

theorem c_l10Copy {w : World} {pv : ByteArray} {vt : Value} {lvt uvt : Nat} {ts : List Rt} {vvt : List Value} (hvt : RtS w lvt uvt vt ts vvt) (h63 : ts.length ≤ 1000000) (hI : ∀ i, i < ts.length → IOk (ts.getD i rt0).2.2.1 (ts.getD i rt0).2.2.2.1) :
  Ret Tryz.prog 113 [.agg #[.string pv, vt]] w fun v w' => ∃ s us, v = .agg #[.string (pv), s] ∧ RtG w' (w.heap.size) (w'.heap.size) s 54 intT (ts) us ∧ Chg 0 0 w w' := by
 have hvt0 := hvt.fit
 refine sx_enter Tryz.func113 rfl Tryz.ntmps113 (nbl rfl) ?_
 refine sx_seq fun K1 k1 => sx_region ?_
 refine sx_box [.string pv, vt] rfl rfl rfl (fun b2 w3 eb2 sb2 fb2 cb2 => ?_)
 have zw3 := cb2.size
 refine sx_alloc [.string (⟨#[]⟩), (.slice none 0 0)] rfl Tryz.zeroValue47 rfl (fun b4 w5 eb4 sb4 fb4 cb4 => ?_)
 have zw5 := cb4.size
 refine wl_nil (q_n (k1 _ _ ?_))
 refine sx_seq fun K6 k6 => sx_region ?_
 refine sp rfl (px_field rfl xfld47x0) ?_
 have f7 := fb2.ext cb4
 refine sp rfl (px_load rfl (f7.load1 rfl Tryz.isAgg9)) ?_
 refine sp rfl (px_build rfl (xbld47x0 rfl _)) ?_
 refine sx_alloc [.string (⟨#[]⟩), (.slice none 0 0)] rfl Tryz.zeroValue47 rfl (fun b8 w9 eb8 sb8 fb8 cb8 => ?_)
 have zw9 := cb8.size
 refine sx_store (vs := [.string pv, (.slice none 0 0)]) rfl rfl fb8 rfl Tryz.sizeOf47 (nbl rfl) (o2 rfl rfl) (fun w10 sw10 fw10 cw10 => ?_)
 have zw10 := cw10.size
 have gw10 : Blk w10 b8 [.string pv, (.slice none 0 0)] 47 := fw10
 refine wl_nil (q_n (k6 _ _ ?_))
 refine sx_seq fun K11 k11 => ?_
 refine sx_seq fun K12 k12 => sx_region ?_
 refine sp rfl (px_field rfl xfld47x1) ?_
 have f13 := f7.ext cb8
 have f14 := f13.chg cw10 (by omega)
 refine sp rfl (px_load rfl (f14.load1 rfl Tryz.isAgg45)) ?_
 have f15 := hvt0.ext cb2
 have f16 := f15.ext cb4
 have f17 := f16.ext cb8
 have f18 := f17.chg cw10 (by omega)
 refine sp rfl (px_len rfl Tryz.underlying45 f18.sv) ?_
 refine mv rfl rfl (wl_nil (q_n (k12 _ _ ?_)))
 refine sx_block ?_
 have f20 := fb4.ext cb8
 have f21 := f20.chg cw10 (by omega)
 have q22 := Chg.step (l := 0) (h := 0) (Chg.zero (l := 0) (h := 0) ((cb2.t cb4).t cb8)) cw10 (by omega)
 refine sx_loop (fun mm aa w' => ∃ (k : Nat) (s : Value) (us : List Value), Agr 25 [(2, .pointer (some ⟨b4, 0, none⟩)), (3, .pointer (some ⟨b8, 0, none⟩)), (10, vt), (11, .int .i64 (↑(ts).length)), (12, .int .i64 ↑k)] aa ∧ Chg 0 0 w w' ∧ Blk w' b4 [.string (⟨#[]⟩), (.slice none 0 0)] 47 ∧ Blk w' b8 [.string pv, s] 47 ∧ RtG w' w10.heap.size w'.heap.size s 54 intT (ts.take k) us ∧ (mm = ts.length - k) ∧ (k ≤ ts.length)) (_) (fun a ha => ⟨0, (.slice none 0 0), [], ha.sub (Sub.c 2 rfl (.c 3 rfl (.c 10 rfl (.c 11 (look_int (t := 11) rfl (by first | omega | simp)) (.c 12 (look_int (t := 12) rfl (by first | omega | simp)) .nil))))), q22, f21, gw10, ((RtG.nil w10 w10.heap.size w10.heap.size 54 intT (by omega))), rfl, by omega⟩) ?_
 rintro mm aa wl19 ⟨k, s, us, hAwl19, cwl19, hb_b4, hb_b8, hs_s, hm, hk⟩
 refine (show cw Tryz.prog 25 _ _ _ wl19 from ?_) aa hAwl19
 clear hAwl19
 have zwl19 := cwl19.size
 have lt23 := hb_b4.lt
 have lt24 := hb_b8.lt
 have hIk := fun (h : k < ts.length) => hI k h
 have hlk : (ts.take k).length = k := by rw [List.length_take]; omega
 refine sx_seq fun K25 k25 => sx_region ?_
 refine sp rfl (px_lt rfl rfl) ?_
 refine wl_nil (q_n (k25 _ _ ?_))
 refine sx_seq fun K26 k26 => ?_
 refine sx_condP rfl (fun h38 => ?_) (fun h38 => ?_)
 ·
  refine sx_skip ?_
  refine q_n (k26 _ _ ?_)
  refine sx_seq fun K27 k27 => ?_
  refine sx_block ?_
  refine sx_seq fun K28 k28 => sx_region ?_
  have f29 := hvt0.ext cwl19
  refine sp rfl (px_indexK (j := k) rfl rfl (by omega) Tryz.underlying45 Tryz.sizeOf54 f29.sv (by omega)) ?_
  refine sp rfl (px_load rfl (f29.sv.loadA (rt_look f29.len (by omega)) Tryz.isAgg54 Tryz.sizeOf54)) ?_
  refine sx_alloc [.string (⟨#[]⟩), .string (⟨#[]⟩), .bool false, (.slice none 0 0), .int .i64 0] rfl Tryz.zeroValue54 rfl (fun b30 w31 eb30 sb30 fb30 cb30 => ?_)
  have zw31 := cb30.size
  have f33 := (f29.nest k (by omega)).ext cb30
  refine sx_store (vs := [.string ((ts.getD k rt0).1), .string ((ts.getD k rt0).2.1), .bool ((ts.getD k rt0).2.2.1), (vvt.getD k vz), .int .i64 ((ts.getD k rt0).2.2.2.2)]) rfl rfl fb30 rfl Tryz.sizeOf54 (nbl rfl) (one_cons rfl (one_cons rfl (one_cons rfl (one_cons f33.one (o1 rfl))))) (fun w32 sw32 fw32 cw32 => ?_)
  have zw32 := cw32.size
  have gw32 : Blk w32 b30 [.string ((ts.getD k rt0).1), .string ((ts.getD k rt0).2.1), .bool ((ts.getD k rt0).2.2.1), (vvt.getD k vz), .int .i64 ((ts.getD k rt0).2.2.2.2)] 54 := fw32
  refine wl_nil (q_n (k28 _ _ ?_))
  have f34 := hs_s.ext cb30
  have f35 := f34.chg cw32 (by omega)
  have f36 := hb_b4.ext cb30
  have f37 := f36.chg cw32 (by omega)
  have f38 := f29.ext cb30
  have f39 := f38.chg cw32 (by omega)
  have f40 := f33.chg cw32 (by omega)
  refine dx_region (fun w' => Chg b8 (wl19.heap.size) w32 w') (by kernel_rfl) (Chg.zero (Chg.drew _)) ?_
  have d41 := Chg.drew w32
  have s41 : Chg b8 (wl19.heap.size) w32 (World.drew w32) := Chg.zero (Chg.drew _)
  have y41 : (World.drew w32).heap.size = w32.heap.size := rfl
  generalize World.drew w32 = w41 at *
  have zw41 := d41.size
  refine dt 0 rfl rfl rfl rfl s41 (fun _ hS => px_field rfl xfld47x1) ?_
  refine dt 2 rfl rfl rfl rfl s41 (fun _ hS => px_load rfl ((gw32.chg hS (by omega)).loadA (vs := [.string ((ts.getD k rt0).1), .string ((ts.getD k rt0).2.1), .bool ((ts.getD k rt0).2.2.1), (vvt.getD k vz), .int .i64 ((ts.getD k rt0).2.2.2.2)]) (look_lit rfl) Tryz.isAgg54 Tryz.sizeOf54)) ?_
  refine dx_eff2 1 3 rfl rfl (by kernel_rfl) ?_ ?_
  ·
   have f42 := hb_b8.ext cb30
   have f43 := f42.chg cw32 (by omega)
   have f44 := f43.ext d41
   refine sp rfl (px_load rfl (f44.load1 rfl Tryz.isAgg45)) ?_
   have s45 : Chg b8 (wl19.heap.size) w32 w41 := (Chg.zero (l := b8) (h := (wl19.heap.size)) (d41))
   refine wl_nil ?_
   refine dx_next s45 ?_
   refine dx_eff 3 rfl (by kernel_rfl) ?_
   have f46 := f40.ext d41
   refine sx_call rfl rfl Tryz.call115 (c_l10Rate f46 (hIk (by omega))) (fun v47 w47 p47 => ?_)
   obtain ⟨s47, rfl, os_47, c47⟩ := p47
   have zw47 := c47.size
   have s48 : Chg b8 (wl19.heap.size) w32 w47 := (Chg.zero (l := b8) (h := (wl19.heap.size)) (d41.t c47))
   refine wl_nil ?_
   refine dx_next s48 ?_
   refine dx_eff 4 rfl (by kernel_rfl) ?_
   refine sx_lit1A5 rfl xelt45 rfl (fun s49 ws49 ss49 fs49 cs49 => ?_)
   have zws49 := cs49.size
   have s50 : Chg b8 (wl19.heap.size) w32 ws49 := (Chg.zero (l := b8) (h := (wl19.heap.size)) ((d41.t c47).t cs49))
   refine wl_nil ?_
   refine dx_next s50 ?_
   refine dx_eff 5 rfl (by kernel_rfl) ?_
   have f54 := ((f35.ext d41).ext c47).ext cs49
   have f55 := os_47.ext cs49
   refine sx_appendRt (xb := b8) (r := (((ts.getD k rt0).1), ((ts.getD k rt0).2.1), ((ts.getD k rt0).2.2.1), ((ts.getD k rt0).2.2.2.1), ((ts.getD k rt0).2.2.2.2))) rfl xelt45 rfl rfl f54 fs49.sv f55 (by omega) (by omega) (by omega) (by unfold maxLen; omega) (fun a51 w51 fw51 cw51 => ?_)
   have zw51 := cw51.size
   have q57 := Chg.step (l := b8) (h := (wl19.heap.size)) (Chg.zero (l := b8) (h := (wl19.heap.size)) ((d41.t c47).t cs49)) cw51 (by omega)
   have s56 : Chg b8 (wl19.heap.size) w32 w51 := q57
   refine wl_nil ?_
   refine dx_next s56 ?_
   refine dt 6 rfl rfl rfl rfl s56 (fun _ hS => px_field rfl xfld47x1) ?_
   refine dx_eff 7 rfl (by kernel_rfl) ?_
   have f60 := (f44.ext c47).ext cs49
   have f61 := f60.chg cw51 (by omega)
   refine sx_store (vs := [a51]) rfl rfl f61 (cells_one (fw51).toS.one) Tryz.sizeOf45 (nbl rfl) (one_cons (fw51).toS.one one_nil) (fun w58 sw58 fw58 cw58 => ?_)
   have zw58 := cw58.size
   have gw58 : Blk w58 b8 [.string pv, a51] 47 := fw58
   have q63 := Chg.step (l := b8) (h := (wl19.heap.size)) (Chg.zero (l := b8) (h := (wl19.heap.size)) ((d41.t c47).t cs49)) cw51 (by omega)
   have q64 := Chg.step (l := b8) (h := (wl19.heap.size)) q63 cw58 (by omega)
   have s62 : Chg b8 (wl19.heap.size) w32 w58 := q64
   refine wl_nil ?_
   refine dx_next s62 ?_
   refine dx_done (by kernel_rfl) ?_
   refine q_bn (q_n (k27 _ _ ?_))
   refine sx_sub (Sub.c 2 rfl (.c 3 rfl (.c 10 rfl (.c 11 rfl (.c 12 rfl .nil))))) ?_
   refine sx_region ?_
   refine sp rfl (px_add rfl rfl (by omega)) ?_
   refine mv rfl rfl (wl_nil ?_)
   have q65 := Chg.step (l := 0) (h := 0) (Chg.zero (l := 0) (h := 0) (cwl19.t cb30)) cw32 (by omega)
   have q66 := Chg.step (l := 0) (h := 0) q65 ((d41.t c47).t cs49) (by omega)
   have q67 := Chg.step (l := 0) (h := 0) q66 cw51 (by omega)
   have q68 := Chg.step (l := 0) (h := 0) q67 cw58 (by omega)
   have f71 := ((f37.ext d41).ext c47).ext cs49
   have f72 := f71.chg cw51 (by omega)
   have f73 := f72.chg cw58 (by omega)
   have f74 := fw51.chgX cw58
   exact fun a ha => ⟨_, by omega, (k + 1), a51, (us ++ [s47]), ha.sub (Sub.c 2 rfl (.c 3 rfl (.c 10 rfl (.c 11 rfl (.c 12 (look_int (t := 12) rfl (by first | omega | simp)) .nil))))), q68, f73, gw58, (by rw [take_snoc (by omega)]; exact (f74).mono (by omega) (by omega)), rfl, by omega⟩
  have f75 := f40.ext d41
  refine sx_call rfl rfl Tryz.call115 (c_l10Rate f75 (hIk (by omega))) (fun v76 w76 p76 => ?_)
  obtain ⟨s76, rfl, os_76, c76⟩ := p76
  have zw76 := c76.size
  have s77 : Chg b8 (wl19.heap.size) w32 w76 := (Chg.zero (l := b8) (h := (wl19.heap.size)) (d41.t c76))
  refine wl_nil ?_
  refine dx_next s77 ?_
  refine dx_eff2 1 4 rfl rfl (by kernel_rfl) ?_ ?_
  ·
   have f78 := hb_b8.ext cb30
   have f79 := f78.chg cw32 (by omega)
   have f81 := (f79.ext d41).ext c76
   refine sp rfl (px_load rfl (f81.load1 rfl Tryz.isAgg45)) ?_
   have s82 : Chg b8 (wl19.heap.size) w32 w76 := (Chg.zero (l := b8) (h := (wl19.heap.size)) (d41.t c76))
   refine wl_nil ?_
   refine dx_next s82 ?_
   refine dx_eff 4 rfl (by kernel_rfl) ?_
   refine sx_lit1A5 rfl xelt45 rfl (fun s83 ws83 ss83 fs83 cs83 => ?_)
   have zws83 := cs83.size
   have s84 : Chg b8 (wl19.heap.size) w32 ws83 := (Chg.zero (l := b8) (h := (wl19.heap.size)) ((d41.t c76).t cs83))
   refine wl_nil ?_
   refine dx_next s84 ?_
   refine dx_eff 5 rfl (by kernel_rfl) ?_
   have f88 := ((f35.ext d41).ext c76).ext cs83
   have f89 := os_76.ext cs83
   refine sx_appendRt (xb := b8) (r := (((ts.getD k rt0).1), ((ts.getD k rt0).2.1), ((ts.getD k rt0).2.2.1), ((ts.getD k rt0).2.2.2.1), ((ts.getD k rt0).2.2.2.2))) rfl xelt45 rfl rfl f88 fs83.sv f89 (by omega) (by omega) (by omega) (by unfold maxLen; omega) (fun a85 w85 fw85 cw85 => ?_)
   have zw85 := cw85.size
   have q91 := Chg.step (l := b8) (h := (wl19.heap.size)) (Chg.zero (l := b8) (h := (wl19.heap.size)) ((d41.t c76).t cs83)) cw85 (by omega)
   have s90 : Chg b8 (wl19.heap.size) w32 w85 := q91
   refine wl_nil ?_
   refine dx_next s90 ?_
   refine dt 6 rfl rfl rfl rfl s90 (fun _ hS => px_field rfl xfld47x1) ?_
   refine dx_eff 7 rfl (by kernel_rfl) ?_
   have f93 := f81.ext cs83
   have f94 := f93.chg cw85 (by omega)
   refine sx_store (vs := [a85]) rfl rfl f94 (cells_one (fw85).toS.one) Tryz.sizeOf45 (nbl rfl) (one_cons (fw85).toS.one one_nil) (fun w92 sw92 fw92 cw92 => ?_)
   have zw92 := cw92.size
   have gw92 : Blk w92 b8 [.string pv, a85] 47 := fw92
   have q96 := Chg.step (l := b8) (h := (wl19.heap.size)) (Chg.zero (l := b8) (h := (wl19.heap.size)) ((d41.t c76).t cs83)) cw85 (by omega)
   have q97 := Chg.step (l := b8) (h := (wl19.heap.size)) q96 cw92 (by omega)
   have s95 : Chg b8 (wl19.heap.size) w32 w92 := q97
   refine wl_nil ?_
   refine dx_next s95 ?_
   refine dx_done (by kernel_rfl) ?_
   refine q_bn (q_n (k27 _ _ ?_))
   refine sx_sub (Sub.c 2 rfl (.c 3 rfl (.c 10 rfl (.c 11 rfl (.c 12 rfl .nil))))) ?_
   refine sx_region ?_
   refine sp rfl (px_add rfl rfl (by omega)) ?_
   refine mv rfl rfl (wl_nil ?_)
   have q98 := Chg.step (l := 0) (h := 0) (Chg.zero (l := 0) (h := 0) (cwl19.t cb30)) cw32 (by omega)
   have q99 := Chg.step (l := 0) (h := 0) q98 ((d41.t c76).t cs83) (by omega)
   have q100 := Chg.step (l := 0) (h := 0) q99 cw85 (by omega)
   have q101 := Chg.step (l := 0) (h := 0) q100 cw92 (by omega)
   have f104 := ((f37.ext d41).ext c76).ext cs83
   have f105 := f104.chg cw85 (by omega)
   have f106 := f105.chg cw92 (by omega)
   have f107 := fw85.chgX cw92
   exact fun a ha => ⟨_, by omega, (k + 1), a85, (us ++ [s76]), ha.sub (Sub.c 2 rfl (.c 3 rfl (.c 10 rfl (.c 11 rfl (.c 12 (look_int (t := 12) rfl (by first | omega | simp)) .nil))))), q101, f106, gw92, (by rw [take_snoc (by omega)]; exact (f107).mono (by omega) (by omega)), rfl, by omega⟩
  refine sx_lit1A5 rfl xelt45 rfl (fun s108 ws108 ss108 fs108 cs108 => ?_)
  have zws108 := cs108.size
  have s109 : Chg b8 (wl19.heap.size) w32 ws108 := (Chg.zero (l := b8) (h := (wl19.heap.size)) ((d41.t c76).t cs108))
  refine wl_nil ?_
  refine dx_next s109 ?_
  refine dx_eff 1 rfl (by kernel_rfl) ?_
  have f110 := hb_b8.ext cb30
  have f111 := f110.chg cw32 (by omega)
  have f114 := ((f111.ext d41).ext c76).ext cs108
  refine sp rfl (px_load rfl (f114.load1 rfl Tryz.isAgg45)) ?_
  have s115 : Chg b8 (wl19.heap.size) w32 ws108 := (Chg.zero (l := b8) (h := (wl19.heap.size)) ((d41.t c76).t cs108))
  refine wl_nil ?_
  refine dx_next s115 ?_
  refine dx_eff 5 rfl (by kernel_rfl) ?_
  have f119 := ((f35.ext d41).ext c76).ext cs108
  have f120 := os_76.ext cs108
  refine sx_appendRt (xb := b8) (r := (((ts.getD k rt0).1), ((ts.getD k rt0).2.1), ((ts.getD k rt0).2.2.1), ((ts.getD k rt0).2.2.2.1), ((ts.getD k rt0).2.2.2.2))) rfl xelt45 rfl rfl f119 fs108.sv f120 (by omega) (by omega) (by omega) (by unfold maxLen; omega) (fun a116 w116 fw116 cw116 => ?_)
  have zw116 := cw116.size
  have q122 := Chg.step (l := b8) (h := (wl19.heap.size)) (Chg.zero (l := b8) (h := (wl19.heap.size)) ((d41.t c76).t cs108)) cw116 (by omega)
  have s121 : Chg b8 (wl19.heap.size) w32 w116 := q122
  refine wl_nil ?_
  refine dx_next s121 ?_
  refine dt 6 rfl rfl rfl rfl s121 (fun _ hS => px_field rfl xfld47x1) ?_
  refine dx_eff 7 rfl (by kernel_rfl) ?_
  have f124 := f114.chg cw116 (by omega)
  refine sx_store (vs := [a116]) rfl rfl f124 (cells_one (fw116).toS.one) Tryz.sizeOf45 (nbl rfl) (one_cons (fw116).toS.one one_nil) (fun w123 sw123 fw123 cw123 => ?_)
  have zw123 := cw123.size
  have gw123 : Blk w123 b8 [.string pv, a116] 47 := fw123
  have q126 := Chg.step (l := b8) (h := (wl19.heap.size)) (Chg.zero (l := b8) (h := (wl19.heap.size)) ((d41.t c76).t cs108)) cw116 (by omega)
  have q127 := Chg.step (l := b8) (h := (wl19.heap.size)) q126 cw123 (by omega)
  have s125 : Chg b8 (wl19.heap.size) w32 w123 := q127
  refine wl_nil ?_
  refine dx_next s125 ?_
  refine dx_done (by kernel_rfl) ?_
  refine q_bn (q_n (k27 _ _ ?_))
  refine sx_sub (Sub.c 2 rfl (.c 3 rfl (.c 10 rfl (.c 11 rfl (.c 12 rfl .nil))))) ?_
  refine sx_region ?_
  refine sp rfl (px_add rfl rfl (by omega)) ?_
  refine mv rfl rfl (wl_nil ?_)
  have q128 := Chg.step (l := 0) (h := 0) (Chg.zero (l := 0) (h := 0) (cwl19.t cb30)) cw32 (by omega)
  have q129 := Chg.step (l := 0) (h := 0) q128 ((d41.t c76).t cs108) (by omega)
  have q130 := Chg.step (l := 0) (h := 0) q129 cw116 (by omega)
  have q131 := Chg.step (l := 0) (h := 0) q130 cw123 (by omega)
  have f134 := ((f37.ext d41).ext c76).ext cs108
  have f135 := f134.chg cw116 (by omega)
  have f136 := f135.chg cw123 (by omega)
  have f137 := fw116.chgX cw123
  exact fun a ha => ⟨_, by omega, (k + 1), a116, (us ++ [s76]), ha.sub (Sub.c 2 rfl (.c 3 rfl (.c 10 rfl (.c 11 rfl (.c 12 (look_int (t := 12) rfl (by first | omega | simp)) .nil))))), q131, f136, gw123, (by rw [take_snoc (by omega)]; exact (f137).mono (by omega) (by omega)), rfl, by omega⟩
 refine sx_exit ?_
 refine q_e (q_e (q_bx (q_n (k11 _ _ ?_))))
 refine sx_seq fun K138 k138 => sx_region ?_
 refine sp rfl (px_load rfl (hb_b8.loadA (vs := [.string pv, s]) (look_lit rfl) Tryz.isAgg47 Tryz.sizeOf47)) ?_
 refine sx_store (vs := [.string pv, s]) rfl rfl hb_b4 rfl Tryz.sizeOf47 (nbl rfl) (one_cons rfl (one_cons (hs_s).toS.one one_nil)) (fun w139 sw139 fw139 cw139 => ?_)
 have zw139 := cw139.size
 have gw139 : Blk w139 b4 [.string pv, s] 47 := fw139
 refine wl_nil (q_n (k138 _ _ ?_))
 refine sx_retc ?_
 refine sx_ret1 Tryz.results113 ⟨_, rfl, gw139.loadA (vs := [.string pv, s]) (look_lit rfl) Tryz.isAgg47 Tryz.sizeOf47⟩ ?_
 have ek : k = ts.length := by omega
 subst ek
 have f140 := hs_s.chg cw139 (by omega)
 have hO := f140
 rw [List.take_length] at hO
 have q141 := Chg.step (l := 0) (h := 0) (Chg.zero (l := 0) (h := 0) cwl19) cw139 (by omega)
 exact ⟨_, _, rfl, hO.mono (by omega) (by omega), q141⟩

theorem c_sRatePut {w : World} {pv : ByteArray} {vt : Value} {lvt uvt : Nat} {ts : List Rt} {vvt : List Value} {f1 : ByteArray} {t1 : ByteArray} {n1 : Bool} {v1 : Value} {lv1 uv1 : Nat} {z1 : List Int} {p1 : Int} (hvt : RtS w lvt uvt vt ts vvt) (hv1 : Sl w lv1 uv1 v1 (z1)) (h63 : ts.length ≤ 4611686018427387904) (hz : ∀ i, i < ts.length → (ts.getD i rt0).2.2.2.1.length ≤ 4611686018427387904) (hz1 : z1.length ≤ 4611686018427387904) :
  Ret Tryz.prog 87 [.agg #[.string pv, vt], .agg #[.string f1, .string t1, .bool n1, v1, .int .i64 p1]] w fun v w' => ∃ s us, v = .tuple #[.agg #[.string ((rPut pv ts (f1, t1, n1, z1, p1)).1), s], .bool ((rPut pv ts (f1, t1, n1, z1, p1)).2.2)] ∧ RtG w' (w.heap.size) (w'.heap.size) s 54 intT ((rPut pv ts (f1, t1, n1, z1, p1)).2.1) us ∧ Chg 0 0 w w' := by
 have hvt0 := hvt.fit
 have hv10 := hv1.fit
 refine sx_enter Tryz.func87 rfl Tryz.ntmps87 (nbl rfl) ?_
 refine sx_seq fun K1 k1 => sx_region ?_
 refine sx_box [.string pv, vt] rfl rfl rfl (fun b2 w3 eb2 sb2 fb2 cb2 => ?_)
 have zw3 := cb2.size
 refine sx_box [.string f1, .string t1, .bool n1, v1, .int .i64 p1] rfl rfl rfl (fun b4 w5 eb4 sb4 fb4 cb4 => ?_)
 have zw5 := cb4.size
 refine sx_alloc [.string (⟨#[]⟩), (.slice none 0 0)] rfl Tryz.zeroValue47 rfl (fun b6 w7 eb6 sb6 fb6 cb6 => ?_)
 have zw7 := cb6.size
 refine av rfl rfl (wl_nil (q_n (k1 _ _ ?_)))
 refine sx_seq fun K8 k8 => ?_
 refine sx_seq fun K9 k9 => sx_region ?_
 have f10 := fb2.ext cb4
 have f11 := f10.ext cb6
 refine sp rfl (px_load rfl (f11.loadA (vs := [.string pv, vt]) (look_lit rfl) Tryz.isAgg47 Tryz.sizeOf47)) ?_
 have f12 := hvt0.ext cb2
 have f13 := f12.ext cb4
 have f14 := f13.ext cb6
 refine sx_call rfl rfl Tryz.call111 (c_sRatesOk f14 (by first | omega | (rw [← hput]; have := putR_len (ts := ts) (r := (f1, t1, n1, z1, p1)); omega)) (by first | assumption | (rw [← hput]; exact putR_hz hz hz1))) (fun v15 w15 p15 => ?_)
 obtain ⟨rfl, c15⟩ := p15
 have zw15 := c15.size
 refine sp rfl (px_notP rfl) ?_
 refine mv rfl rfl ?_
 refine sx_tmpP (t := 11) rfl (fun h46 => ?_) (fun h46 => ?_)
 ·
  refine sx_guardF rfl rfl rfl rfl rfl rfl ?_
  refine sx_guardF rfl rfl rfl rfl rfl rfl ?_
  refine sx_guardF rfl rfl rfl rfl rfl rfl ?_
  refine sp rfl (px_pick rfl rfl) ?_
  refine wl_nil (q_n (k9 _ _ ?_))
  refine sx_condT rfl ?_
  refine sx_seq fun K16 k16 => sx_region ?_
  refine sp rfl (px_build rfl (xbld47x  _)) ?_
  have f18 := fb6.ext c15
  refine sx_store (vs := [.string (⟨#[]⟩), (.slice none 0 0)]) rfl rfl f18 rfl Tryz.sizeOf47 (nbl rfl) (o2 rfl rfl) (fun w17 sw17 fw17 cw17 => ?_)
  have zw17 := cw17.size
  have gw17 : Blk w17 b6 [.string (⟨#[]⟩), (.slice none 0 0)] 47 := fw17
  refine av rfl rfl (wl_nil (q_n (k16 _ _ ?_)))
  refine sx_sub (Sub.c 2 rfl (.c 3 rfl (.c 4 rfl (.c 5 rfl .nil)))) ?_
  refine sx_retc ?_
  refine q_r (sx_ret2 Tryz.results87 ⟨_, rfl, gw17.loadA (vs := [.string (⟨#[]⟩), (.slice none 0 0)]) (look_lit rfl) Tryz.isAgg47 Tryz.sizeOf47⟩ rfl ?_)
  rw [rPut_no (fun h => by first | exact h46 h.1 | exact h46x1 h.2)]
  have q19 := Chg.step (l := 0) (h := 0) (Chg.zero (l := 0) (h := 0) (((cb2.t cb4).t cb6).t c15)) cw17 (by omega)
  exact ⟨_, [], rfl, RtG.nil _ _ _ _ _ (by omega), q19⟩
 refine sx_guardT rfl rfl rfl ?_
 have f20 := fb4.ext cb6
 have f21 := f20.ext c15
 refine sp rfl (px_load rfl (f21.loadA (vs := [.string f1, .string t1, .bool n1, v1, .int .i64 p1]) (look_lit rfl) Tryz.isAgg54 Tryz.sizeOf54)) ?_
 refine sx_guardT rfl rfl rfl ?_
 have f22 := hv10.ext cb2
 have f23 := f22.ext cb4
 have f24 := f23.ext cb6
 have f25 := f24.ext c15
 refine sx_call rfl rfl Tryz.call112 (c_sRateOk f25 (by omega)) (fun v26 w26 p26 => ?_)
 obtain ⟨rfl, c26⟩ := p26
 have zw26 := c26.size
 refine sx_guardT rfl rfl rfl ?_
 refine sp rfl (px_notP rfl) ?_
 refine sp rfl (px_pick rfl rfl) ?_
 refine wl_nil (q_n (k9 _ _ ?_))
 refine sx_condP rfl (fun h46x1 => ?_) (fun h46x1 => ?_)
 ·
  refine sx_seq fun K27 k27 => sx_region ?_
  refine sp rfl (px_build rfl (xbld47x  _)) ?_
  have f30 := (fb6.ext c15).ext c26
  refine sx_store (vs := [.string (⟨#[]⟩), (.slice none 0 0)]) rfl rfl f30 rfl Tryz.sizeOf47 (nbl rfl) (o2 rfl rfl) (fun w28 sw28 fw28 cw28 => ?_)
  have zw28 := cw28.size
  have gw28 : Blk w28 b6 [.string (⟨#[]⟩), (.slice none 0 0)] 47 := fw28
  refine av rfl rfl (wl_nil (q_n (k27 _ _ ?_)))
  refine sx_sub (Sub.c 2 rfl (.c 3 rfl (.c 4 rfl (.c 5 rfl .nil)))) ?_
  refine sx_retc ?_
  refine q_r (sx_ret2 Tryz.results87 ⟨_, rfl, gw28.loadA (vs := [.string (⟨#[]⟩), (.slice none 0 0)]) (look_lit rfl) Tryz.isAgg47 Tryz.sizeOf47⟩ rfl ?_)
  rw [rPut_no (fun h => by first | exact h46 h.1 | exact h46x1 h.2)]
  have q31 := Chg.step (l := 0) (h := 0) (Chg.zero (l := 0) (h := 0) ((((cb2.t cb4).t cb6).t c15).t c26)) cw28 (by omega)
  exact ⟨_, [], rfl, RtG.nil _ _ _ _ _ (by omega), q31⟩
 have hT := Decidable.not_not.1 h46
 have hP := Decidable.not_not.1 h46x1
 have hl12 := hT.2.1
 have hI : ∀ i, i < ts.length → IOk (ts.getD i rt0).2.2.1 (ts.getD i rt0).2.2.2.1 := fun i hi => (hT.2.2.1 i hi).2.2.2.1.1
 have hI1 : IOk n1 z1 := hP.2.2.2.1.1
 have hrg := atI_range (ts := ts) (a := f1) (b := t1)
 refine sx_skip ?_
 refine q_n (k8 _ _ ?_)
 refine sx_seq fun K32 k32 => sx_region ?_
 have f34 := (f11.ext c15).ext c26
 refine sp rfl (px_load rfl (f34.loadA (vs := [.string pv, vt]) (look_lit rfl) Tryz.isAgg47 Tryz.sizeOf47)) ?_
 have f36 := (f14.ext c15).ext c26
 refine sx_call rfl rfl Tryz.call113 (c_l10Copy f36 (by omega) (by assumption)) (fun v37 w37 p37 => ?_)
 obtain ⟨s37, us37, rfl, os_37, c37⟩ := p37
 have zw37 := c37.size
 refine sx_alloc [.string (⟨#[]⟩), (.slice none 0 0)] rfl Tryz.zeroValue47 rfl (fun b38 w39 eb38 sb38 fb38 cb38 => ?_)
 have zw39 := cb38.size
 have f41 := os_37.ext cb38
 refine sx_store (vs := [.string pv, s37]) rfl rfl fb38 rfl Tryz.sizeOf47 (nbl rfl) (one_cons rfl (one_cons (f41).toS.one one_nil)) (fun w40 sw40 fw40 cw40 => ?_)
 have zw40 := cw40.size
 have gw40 : Blk w40 b38 [.string pv, s37] 47 := fw40
 refine wl_nil (q_n (k32 _ _ ?_))
 refine sx_sub (Sub.c 2 rfl (.c 3 rfl (.c 4 rfl (.c 5 rfl (.c 6 rfl .nil))))) ?_
 refine sx_seq fun K42 k42 => sx_region ?_
 refine sp rfl (px_field rfl xfld47x1) ?_
 have f44 := (f34.ext c37).ext cb38
 have f45 := f44.chg cw40 (by omega)
 refine sp rfl (px_load rfl (f45.load1 rfl Tryz.isAgg45)) ?_
 refine sp rfl (px_field rfl xfld54x0) ?_
 have f48 := ((f21.ext c26).ext c37).ext cb38
 have f49 := f48.chg cw40 (by omega)
 refine sp rfl (px_load rfl (f49.load1 rfl Tryz.isAgg9)) ?_
 refine sp rfl (px_field rfl xfld54x1) ?_
 refine sp rfl (px_load rfl (f49.load1 rfl Tryz.isAgg9)) ?_
 have f51 := (f36.ext c37).ext cb38
 have f52 := f51.chg cw40 (by omega)
 refine sx_call rfl rfl Tryz.call114 (c_l10At f52 (by omega)) (fun v53 w53 p53 => ?_)
 obtain ⟨rfl, c53⟩ := p53
 have zw53 := c53.size
 refine av rfl rfl (wl_nil (q_n (k42 _ _ ?_)))
 refine sx_seq fun K54 k54 => ?_
 refine sx_seq fun K55 k55 => sx_region ?_
 refine mv rfl rfl (sp rfl (px_ge rfl rfl) ?_)
 refine wl_nil (q_n (k55 _ _ ?_))
 refine sx_sub (Sub.c 3 rfl (.c 4 rfl (.c 5 rfl (.c 6 rfl (.c 7 rfl (.c 27 rfl .nil)))))) ?_
 refine sx_condP rfl (fun h51 => ?_) (fun h51 => ?_)
 ·
  have hput : putR ts (f1, t1, n1, z1, p1) = ts.set (atI ts f1 t1).toNat (f1, t1, n1, z1, p1) := by unfold putR; rw [if_pos (show 0 ≤ atI ts f1 t1 from h51)]
  have f56 := f45.ext c53
  have f57 := f49.ext c53
  have f61 := (((fb6.ext c15).ext c26).ext c37).ext cb38
  have f62 := f61.chg cw40 (by omega)
  have f63 := f62.ext c53
  have f64 := gw40.ext c53
  have f65 := f52.ext c53
  have f68 := ((f25.ext c26).ext c37).ext cb38
  have f69 := f68.chg cw40 (by omega)
  have f71 := f41.chg cw40 (by omega)
  have f72 := f71.ext c53
  refine dx_region (fun w' => Chg w26.heap.size (w37.heap.size) w53 w') (by kernel_rfl) (Chg.zero (Chg.drew _)) ?_
  have d73 := Chg.drew w53
  have s73 : Chg w26.heap.size (w37.heap.size) w53 (World.drew w53) := Chg.zero (Chg.drew _)
  have y73 : (World.drew w53).heap.size = w53.heap.size := rfl
  generalize World.drew w53 = w73 at *
  have zw73 := d73.size
  refine dt 0 rfl rfl rfl rfl s73 (fun _ hS => px_field rfl xfld47x1) ?_
  refine dt 1 rfl rfl rfl rfl s73 (fun _ hS => px_load rfl ((f64.chg hS (by omega)).load1 rfl Tryz.isAgg45)) ?_
  refine dt 2 rfl rfl rfl rfl s73 (fun _ hS => px_move rfl) ?_
  refine dt 3 rfl rfl rfl rfl s73 (fun _ hS => px_load rfl ((f57.chg hS (by omega)).loadA (vs := [.string f1, .string t1, .bool n1, v1, .int .i64 p1]) (look_lit rfl) Tryz.isAgg54 Tryz.sizeOf54)) ?_
  refine dx_eff 4 rfl (by kernel_rfl) ?_
  have f74 := (f69.ext c53).ext d73
  refine sx_call rfl rfl Tryz.call115 (c_l10Rate f74 (by assumption)) (fun v75 w75 p75 => ?_)
  obtain ⟨s75, rfl, os_75, c75⟩ := p75
  have zw75 := c75.size
  have s76 : Chg w26.heap.size (w37.heap.size) w53 w75 := (Chg.zero (l := w26.heap.size) (h := (w37.heap.size)) (d73.t c75))
  refine wl_nil ?_
  refine dx_next s76 ?_
  refine dt 5 rfl rfl rfl rfl s76 (fun _ hS => px_indexKw (j := (atI ts f1 t1).toNat) rfl rfl (by omega) Tryz.underlying45 Tryz.sizeOf54 (f72).toS.sv (by omega)) ?_
  refine dx_eff 6 rfl (by kernel_rfl) ?_
  have f79 := (f72.ext d73).ext c75
  refine sx_storeRt (r := (f1, t1, n1, z1, p1)) (q := s75) (k := ((atI ts f1 t1).toNat)) rfl rfl f79 rfl (by omega) os_75 (by omega) Tryz.sizeOf54 (fun w77 sw77 fw77 cw77 => ?_)
  have zw77 := cw77.size
  have q81 := Chg.step (l := w26.heap.size) (h := (w37.heap.size)) (Chg.zero (l := w26.heap.size) (h := (w37.heap.size)) (d73.t c75)) cw77 (by omega)
  have s80 : Chg w26.heap.size (w37.heap.size) w53 w77 := q81
  refine wl_nil ?_
  refine dx_next s80 ?_
  refine dx_done (by kernel_rfl) ?_
  refine q_n (k54 _ _ ?_)
  refine sx_seq fun K82 k82 => ?_
  refine sx_seq fun K83 k83 => sx_region ?_
  have f86 := ((f64.ext d73).ext c75).chg cw77 (by omega)
  refine sp rfl (px_load rfl (f86.loadA (vs := [.string pv, s37]) (look_lit rfl) Tryz.isAgg47 Tryz.sizeOf47)) ?_
  refine sx_call rfl rfl Tryz.call111 (c_sRatesOk (fw77).toS (by first | omega | (rw [← hput]; have := putR_len (ts := ts) (r := (f1, t1, n1, z1, p1)); omega)) (by first | assumption | (rw [← hput]; exact putR_hz hz hz1))) (fun v87 w87 p87 => ?_)
  obtain ⟨rfl, c87⟩ := p87
  have zw87 := c87.size
  refine sp rfl (px_notP rfl) ?_
  refine wl_nil (q_n (k83 _ _ ?_))
  refine sx_sub (Sub.c 4 rfl (.c 5 rfl (.c 6 rfl (.c 43 rfl .nil)))) ?_
  refine sx_condP rfl (fun h56 => ?_) (fun h56 => ?_)
  ·
   refine sx_seq fun K88 k88 => sx_region ?_
   refine sp rfl (px_build rfl (xbld47x  _)) ?_
   have f92 := ((f63.ext d73).ext c75).chg cw77 (by omega)
   have f93 := f92.ext c87
   refine sx_store (vs := [.string (⟨#[]⟩), (.slice none 0 0)]) rfl rfl f93 rfl Tryz.sizeOf47 (nbl rfl) (o2 rfl rfl) (fun w89 sw89 fw89 cw89 => ?_)
   have zw89 := cw89.size
   have gw89 : Blk w89 b6 [.string (⟨#[]⟩), (.slice none 0 0)] 47 := fw89
   refine av rfl rfl (wl_nil (q_n (k88 _ _ ?_)))
   refine sx_retc ?_
   refine q_r (sx_ret2 Tryz.results87 ⟨_, rfl, gw89.loadA (vs := [.string (⟨#[]⟩), (.slice none 0 0)]) (look_lit rfl) Tryz.isAgg47 Tryz.sizeOf47⟩ rfl ?_)
   rw [rPut_bad (fun h => h56 (by rw [← hput]; exact h))]
   have q94 := Chg.step (l := 0) (h := 0) (Chg.zero (l := 0) (h := 0) ((((((cb2.t cb4).t cb6).t c15).t c26).t c37).t cb38)) cw40 (by omega)
   have q95 := Chg.step (l := 0) (h := 0) q94 ((c53.t d73).t c75) (by omega)
   have q96 := Chg.step (l := 0) (h := 0) q95 cw77 (by omega)
   have q97 := Chg.step (l := 0) (h := 0) q96 c87 (by omega)
   have q98 := Chg.step (l := 0) (h := 0) q97 cw89 (by omega)
   exact ⟨_, [], rfl, RtG.nil _ _ _ _ _ (by omega), q98⟩
  refine sx_skip ?_
  refine q_n (k82 _ _ ?_)
  refine sx_seq fun K99 k99 => sx_region ?_
  have f100 := f86.ext c87
  refine sp rfl (px_load rfl (f100.loadA (vs := [.string pv, s37]) (look_lit rfl) Tryz.isAgg47 Tryz.sizeOf47)) ?_
  have f104 := ((f63.ext d73).ext c75).chg cw77 (by omega)
  have f105 := f104.ext c87
  have f106 := fw77.ext c87
  refine sx_store (vs := [.string pv, s37]) rfl rfl f105 rfl Tryz.sizeOf47 (nbl rfl) (one_cons rfl (one_cons (f106).toS.one one_nil)) (fun w101 sw101 fw101 cw101 => ?_)
  have zw101 := cw101.size
  have gw101 : Blk w101 b6 [.string pv, s37] 47 := fw101
  refine av rfl rfl (wl_nil (q_n (k99 _ _ ?_)))
  refine sx_retc ?_
  refine sx_ret2 Tryz.results87 ⟨_, rfl, gw101.loadA (vs := [.string pv, s37]) (look_lit rfl) Tryz.isAgg47 Tryz.sizeOf47⟩ rfl ?_
  have f107 := f106.chg cw101 (by omega)
  have hG := f107
  rw [← hput] at hG
  rw [rPut_ok hT hP (by rw [hput]; exact Decidable.not_not.1 h56)]
  have q108 := Chg.step (l := 0) (h := 0) (Chg.zero (l := 0) (h := 0) ((((((cb2.t cb4).t cb6).t c15).t c26).t c37).t cb38)) cw40 (by omega)
  have q109 := Chg.step (l := 0) (h := 0) q108 ((c53.t d73).t c75) (by omega)
  have q110 := Chg.step (l := 0) (h := 0) q109 cw77 (by omega)
  have q111 := Chg.step (l := 0) (h := 0) q110 c87 (by omega)
  have q112 := Chg.step (l := 0) (h := 0) q111 cw101 (by omega)
  exact ⟨_, _, rfl, hG.mono (by omega) (by omega), q112⟩
 have hput : putR ts (f1, t1, n1, z1, p1) = ts ++ [(f1, t1, n1, z1, p1)] := by unfold putR; rw [if_neg (show ¬ 0 ≤ atI ts f1 t1 from h51)]
 refine sx_cut k54 (fun fr w' => ∃ (gs113x0 : Value) (gv113x0 : List Value) (gu113x0 : Nat), fr = [(4, .pointer (some ⟨b6, 0, none⟩)), (5, .bool false), (6, .pointer (some ⟨b38, 0, none⟩))] ∧ Chg w26.heap.size (b38 + 1) w53 w' ∧ (RtG w' w26.heap.size gu113x0 gs113x0 54 intT (ts ++ [(f1, t1, n1, z1, p1)]) gv113x0) ∧ (Blk w' b38 [.string pv, gs113x0] 47) ∧ (gu113x0 ≤ w'.heap.size)) (fun kc113 => ?_) ?_
 ·
  have f114 := f41.chg cw40 (by omega)
  have f115 := f114.ext c53
  have f116 := f45.ext c53
  have f117 := f49.ext c53
  have f121 := (((fb6.ext c15).ext c26).ext c37).ext cb38
  have f122 := f121.chg cw40 (by omega)
  have f123 := f122.ext c53
  have f124 := f52.ext c53
  have f127 := ((f25.ext c26).ext c37).ext cb38
  have f128 := f127.chg cw40 (by omega)
  have f129 := f128.ext c53
  refine dx_region (fun w' => Chg w26.heap.size (b38 + 1) w53 w') (by kernel_rfl) (Chg.zero (Chg.drew _)) ?_
  have d130 := Chg.drew w53
  have s130 : Chg w26.heap.size (b38 + 1) w53 (World.drew w53) := Chg.zero (Chg.drew _)
  have y130 : (World.drew w53).heap.size = w53.heap.size := rfl
  generalize World.drew w53 = w130 at *
  have zw130 := d130.size
  refine dt 0 rfl rfl rfl rfl s130 (fun _ hS => px_field rfl xfld47x1) ?_
  refine dt 2 rfl rfl rfl rfl s130 (fun _ hS => px_load rfl ((f117.chg hS (by omega)).loadA (vs := [.string f1, .string t1, .bool n1, v1, .int .i64 p1]) (look_lit rfl) Tryz.isAgg54 Tryz.sizeOf54)) ?_
  refine dx_eff2 1 3 rfl rfl (by kernel_rfl) ?_ ?_
  ·
   have f132 := (gw40.ext c53).ext d130
   refine sp rfl (px_load rfl (f132.load1 rfl Tryz.isAgg45)) ?_
   have s133 : Chg w26.heap.size (b38 + 1) w53 w130 := (Chg.zero (l := w26.heap.size) (h := (b38 + 1)) (d130))
   refine wl_nil ?_
   refine dx_next s133 ?_
   refine dx_eff 3 rfl (by kernel_rfl) ?_
   have f134 := f129.ext d130
   refine sx_call rfl rfl Tryz.call115 (c_l10Rate f134 (by assumption)) (fun v135 w135 p135 => ?_)
   obtain ⟨s135, rfl, os_135, c135⟩ := p135
   have zw135 := c135.size
   have s136 : Chg w26.heap.size (b38 + 1) w53 w135 := (Chg.zero (l := w26.heap.size) (h := (b38 + 1)) (d130.t c135))
   refine wl_nil ?_
   refine dx_next s136 ?_
   refine dx_eff 4 rfl (by kernel_rfl) ?_
   refine sx_lit1A5 rfl xelt45 rfl (fun s137 ws137 ss137 fs137 cs137 => ?_)
   have zws137 := cs137.size
   have s138 : Chg w26.heap.size (b38 + 1) w53 ws137 := (Chg.zero (l := w26.heap.size) (h := (b38 + 1)) ((d130.t c135).t cs137))
   refine wl_nil ?_
   refine dx_next s138 ?_
   refine dx_eff 5 rfl (by kernel_rfl) ?_
   have f142 := ((f115.ext d130).ext c135).ext cs137
   have f143 := os_135.ext cs137
   refine sx_appendRt (xb := b38) (r := (f1, t1, n1, z1, p1)) rfl xelt45 rfl rfl f142 fs137.sv f143 (by omega) (by omega) (by omega) (by unfold maxLen; omega) (fun a139 w139 fw139 cw139 => ?_)
   have zw139 := cw139.size
   have q145 := Chg.step (l := w26.heap.size) (h := (b38 + 1)) (Chg.zero (l := w26.heap.size) (h := (b38 + 1)) ((d130.t c135).t cs137)) cw139 (by omega)
   have s144 : Chg w26.heap.size (b38 + 1) w53 w139 := q145
   refine wl_nil ?_
   refine dx_next s144 ?_
   refine dt 6 rfl rfl rfl rfl s144 (fun _ hS => px_field rfl xfld47x1) ?_
   refine dx_eff 7 rfl (by kernel_rfl) ?_
   have f148 := (f132.ext c135).ext cs137
   have f149 := f148.chg cw139 (by omega)
   refine sx_store (vs := [a139]) rfl rfl f149 (cells_one (fw139).toS.one) Tryz.sizeOf45 (nbl rfl) (one_cons (fw139).toS.one one_nil) (fun w146 sw146 fw146 cw146 => ?_)
   have zw146 := cw146.size
   have gw146 : Blk w146 b38 [.string pv, a139] 47 := fw146
   have q151 := Chg.step (l := w26.heap.size) (h := (b38 + 1)) (Chg.zero (l := w26.heap.size) (h := (b38 + 1)) ((d130.t c135).t cs137)) cw139 (by omega)
   have q152 := Chg.step (l := w26.heap.size) (h := (b38 + 1)) q151 cw146 (by omega)
   have s150 : Chg w26.heap.size (b38 + 1) w53 w146 := q152
   refine wl_nil ?_
   refine dx_next s150 ?_
   refine dx_done (by kernel_rfl) ?_
   have f153 := fw139.chgX cw146
   have q154 := Chg.step (l := w26.heap.size) (h := (b38 + 1)) (Chg.zero (l := w26.heap.size) (h := (b38 + 1)) ((d130.t c135).t cs137)) cw139 (by omega)
   have q155 := Chg.step (l := w26.heap.size) (h := (b38 + 1)) q154 cw146 (by omega)
   exact q_n (kw_sub (Sub.c 4 rfl (.c 5 rfl (.c 6 rfl .nil))) (kc113 _ _ ⟨a139, us37 ++ [s135], w139.heap.size, rfl, q155, (f153.mono (Nat.le_refl _) (Nat.le_refl _)), gw146, by omega⟩))
  have f156 := f129.ext d130
  refine sx_call rfl rfl Tryz.call115 (c_l10Rate f156 (by assumption)) (fun v157 w157 p157 => ?_)
  obtain ⟨s157, rfl, os_157, c157⟩ := p157
  have zw157 := c157.size
  have s158 : Chg w26.heap.size (b38 + 1) w53 w157 := (Chg.zero (l := w26.heap.size) (h := (b38 + 1)) (d130.t c157))
  refine wl_nil ?_
  refine dx_next s158 ?_
  refine dx_eff2 1 4 rfl rfl (by kernel_rfl) ?_ ?_
  ·
   have f161 := ((gw40.ext c53).ext d130).ext c157
   refine sp rfl (px_load rfl (f161.load1 rfl Tryz.isAgg45)) ?_
   have s162 : Chg w26.heap.size (b38 + 1) w53 w157 := (Chg.zero (l := w26.heap.size) (h := (b38 + 1)) (d130.t c157))
   refine wl_nil ?_
   refine dx_next s162 ?_
   refine dx_eff 4 rfl (by kernel_rfl) ?_
   refine sx_lit1A5 rfl xelt45 rfl (fun s163 ws163 ss163 fs163 cs163 => ?_)
   have zws163 := cs163.size
   have s164 : Chg w26.heap.size (b38 + 1) w53 ws163 := (Chg.zero (l := w26.heap.size) (h := (b38 + 1)) ((d130.t c157).t cs163))
   refine wl_nil ?_
   refine dx_next s164 ?_
   refine dx_eff 5 rfl (by kernel_rfl) ?_
   have f168 := ((f115.ext d130).ext c157).ext cs163
   have f169 := os_157.ext cs163
   refine sx_appendRt (xb := b38) (r := (f1, t1, n1, z1, p1)) rfl xelt45 rfl rfl f168 fs163.sv f169 (by omega) (by omega) (by omega) (by unfold maxLen; omega) (fun a165 w165 fw165 cw165 => ?_)
   have zw165 := cw165.size
   have q171 := Chg.step (l := w26.heap.size) (h := (b38 + 1)) (Chg.zero (l := w26.heap.size) (h := (b38 + 1)) ((d130.t c157).t cs163)) cw165 (by omega)
   have s170 : Chg w26.heap.size (b38 + 1) w53 w165 := q171
   refine wl_nil ?_
   refine dx_next s170 ?_
   refine dt 6 rfl rfl rfl rfl s170 (fun _ hS => px_field rfl xfld47x1) ?_
   refine dx_eff 7 rfl (by kernel_rfl) ?_
   have f173 := f161.ext cs163
   have f174 := f173.chg cw165 (by omega)
   refine sx_store (vs := [a165]) rfl rfl f174 (cells_one (fw165).toS.one) Tryz.sizeOf45 (nbl rfl) (one_cons (fw165).toS.one one_nil) (fun w172 sw172 fw172 cw172 => ?_)
   have zw172 := cw172.size
   have gw172 : Blk w172 b38 [.string pv, a165] 47 := fw172
   have q176 := Chg.step (l := w26.heap.size) (h := (b38 + 1)) (Chg.zero (l := w26.heap.size) (h := (b38 + 1)) ((d130.t c157).t cs163)) cw165 (by omega)
   have q177 := Chg.step (l := w26.heap.size) (h := (b38 + 1)) q176 cw172 (by omega)
   have s175 : Chg w26.heap.size (b38 + 1) w53 w172 := q177
   refine wl_nil ?_
   refine dx_next s175 ?_
   refine dx_done (by kernel_rfl) ?_
   have f178 := fw165.chgX cw172
   have q179 := Chg.step (l := w26.heap.size) (h := (b38 + 1)) (Chg.zero (l := w26.heap.size) (h := (b38 + 1)) ((d130.t c157).t cs163)) cw165 (by omega)
   have q180 := Chg.step (l := w26.heap.size) (h := (b38 + 1)) q179 cw172 (by omega)
   exact q_n (kw_sub (Sub.c 4 rfl (.c 5 rfl (.c 6 rfl .nil))) (kc113 _ _ ⟨a165, us37 ++ [s157], w165.heap.size, rfl, q180, (f178.mono (Nat.le_refl _) (Nat.le_refl _)), gw172, by omega⟩))
  refine sx_lit1A5 rfl xelt45 rfl (fun s181 ws181 ss181 fs181 cs181 => ?_)
  have zws181 := cs181.size
  have s182 : Chg w26.heap.size (b38 + 1) w53 ws181 := (Chg.zero (l := w26.heap.size) (h := (b38 + 1)) ((d130.t c157).t cs181))
  refine wl_nil ?_
  refine dx_next s182 ?_
  refine dx_eff 1 rfl (by kernel_rfl) ?_
  have f186 := (((gw40.ext c53).ext d130).ext c157).ext cs181
  refine sp rfl (px_load rfl (f186.load1 rfl Tryz.isAgg45)) ?_
  have s187 : Chg w26.heap.size (b38 + 1) w53 ws181 := (Chg.zero (l := w26.heap.size) (h := (b38 + 1)) ((d130.t c157).t cs181))
  refine wl_nil ?_
  refine dx_next s187 ?_
  refine dx_eff 5 rfl (by kernel_rfl) ?_
  have f191 := ((f115.ext d130).ext c157).ext cs181
  have f192 := os_157.ext cs181
  refine sx_appendRt (xb := b38) (r := (f1, t1, n1, z1, p1)) rfl xelt45 rfl rfl f191 fs181.sv f192 (by omega) (by omega) (by omega) (by unfold maxLen; omega) (fun a188 w188 fw188 cw188 => ?_)
  have zw188 := cw188.size
  have q194 := Chg.step (l := w26.heap.size) (h := (b38 + 1)) (Chg.zero (l := w26.heap.size) (h := (b38 + 1)) ((d130.t c157).t cs181)) cw188 (by omega)
  have s193 : Chg w26.heap.size (b38 + 1) w53 w188 := q194
  refine wl_nil ?_
  refine dx_next s193 ?_
  refine dt 6 rfl rfl rfl rfl s193 (fun _ hS => px_field rfl xfld47x1) ?_
  refine dx_eff 7 rfl (by kernel_rfl) ?_
  have f196 := f186.chg cw188 (by omega)
  refine sx_store (vs := [a188]) rfl rfl f196 (cells_one (fw188).toS.one) Tryz.sizeOf45 (nbl rfl) (one_cons (fw188).toS.one one_nil) (fun w195 sw195 fw195 cw195 => ?_)
  have zw195 := cw195.size
  have gw195 : Blk w195 b38 [.string pv, a188] 47 := fw195
  have q198 := Chg.step (l := w26.heap.size) (h := (b38 + 1)) (Chg.zero (l := w26.heap.size) (h := (b38 + 1)) ((d130.t c157).t cs181)) cw188 (by omega)
  have q199 := Chg.step (l := w26.heap.size) (h := (b38 + 1)) q198 cw195 (by omega)
  have s197 : Chg w26.heap.size (b38 + 1) w53 w195 := q199
  refine wl_nil ?_
  refine dx_next s197 ?_
  refine dx_done (by kernel_rfl) ?_
  have f200 := fw188.chgX cw195
  have q201 := Chg.step (l := w26.heap.size) (h := (b38 + 1)) (Chg.zero (l := w26.heap.size) (h := (b38 + 1)) ((d130.t c157).t cs181)) cw188 (by omega)
  have q202 := Chg.step (l := w26.heap.size) (h := (b38 + 1)) q201 cw195 (by omega)
  exact q_n (kw_sub (Sub.c 4 rfl (.c 5 rfl (.c 6 rfl .nil))) (kc113 _ _ ⟨a188, us37 ++ [s157], w188.heap.size, rfl, q202, (f200.mono (Nat.le_refl _) (Nat.le_refl _)), gw195, by omega⟩))
 rintro fr w'113 ⟨gs113x0, gv113x0, gu113x0, rfl, cw'113, xgs113x0, xb38, ygs113x0⟩
 have zw'113 := cw'113.size
 refine sx_seq fun K203 k203 => ?_
 refine sx_seq fun K204 k204 => sx_region ?_
 refine sp rfl (px_load rfl (xb38.loadA (vs := [.string pv, gs113x0]) (look_lit rfl) Tryz.isAgg47 Tryz.sizeOf47)) ?_
 refine sx_call rfl rfl Tryz.call111 (c_sRatesOk (xgs113x0).toS (by first | omega | (rw [← hput]; have := putR_len (ts := ts) (r := (f1, t1, n1, z1, p1)); omega)) (by first | assumption | (rw [← hput]; exact putR_hz hz hz1))) (fun v205 w205 p205 => ?_)
 obtain ⟨rfl, c205⟩ := p205
 have zw205 := c205.size
 refine sp rfl (px_notP rfl) ?_
 refine wl_nil (q_n (k204 _ _ ?_))
 refine sx_condP rfl (fun h56 => ?_) (fun h56 => ?_)
 ·
  refine sx_seq fun K206 k206 => sx_region ?_
  refine sp rfl (px_build rfl (xbld47x  _)) ?_
  have f211 := (((fb6.ext c15).ext c26).ext c37).ext cb38
  have f212 := f211.chg cw40 (by omega)
  have f214 := (f212.ext c53).chg cw'113 (by omega)
  have f215 := f214.ext c205
  refine sx_store (vs := [.string (⟨#[]⟩), (.slice none 0 0)]) rfl rfl f215 rfl Tryz.sizeOf47 (nbl rfl) (o2 rfl rfl) (fun w207 sw207 fw207 cw207 => ?_)
  have zw207 := cw207.size
  have gw207 : Blk w207 b6 [.string (⟨#[]⟩), (.slice none 0 0)] 47 := fw207
  refine av rfl rfl (wl_nil (q_n (k206 _ _ ?_)))
  refine sx_retc ?_
  refine q_r (sx_ret2 Tryz.results87 ⟨_, rfl, gw207.loadA (vs := [.string (⟨#[]⟩), (.slice none 0 0)]) (look_lit rfl) Tryz.isAgg47 Tryz.sizeOf47⟩ rfl ?_)
  rw [rPut_bad (fun h => h56 (by rw [← hput]; exact h))]
  have q216 := Chg.step (l := 0) (h := 0) (Chg.zero (l := 0) (h := 0) ((((((cb2.t cb4).t cb6).t c15).t c26).t c37).t cb38)) cw40 (by omega)
  have q217 := Chg.step (l := 0) (h := 0) q216 c53 (by omega)
  have q218 := Chg.step (l := 0) (h := 0) q217 cw'113 (by omega)
  have q219 := Chg.step (l := 0) (h := 0) q218 c205 (by omega)
  have q220 := Chg.step (l := 0) (h := 0) q219 cw207 (by omega)
  exact ⟨_, [], rfl, RtG.nil _ _ _ _ _ (by omega), q220⟩
 refine sx_skip ?_
 refine q_n (k203 _ _ ?_)
 refine sx_seq fun K221 k221 => sx_region ?_
 have f222 := xb38.ext c205
 refine sp rfl (px_load rfl (f222.loadA (vs := [.string pv, gs113x0]) (look_lit rfl) Tryz.isAgg47 Tryz.sizeOf47)) ?_
 have f227 := (((fb6.ext c15).ext c26).ext c37).ext cb38
 have f228 := f227.chg cw40 (by omega)
 have f230 := (f228.ext c53).chg cw'113 (by omega)
 have f231 := f230.ext c205
 have f232 := xgs113x0.ext c205
 refine sx_store (vs := [.string pv, gs113x0]) rfl rfl f231 rfl Tryz.sizeOf47 (nbl rfl) (one_cons rfl (one_cons (f232).toS.one one_nil)) (fun w223 sw223 fw223 cw223 => ?_)
 have zw223 := cw223.size
 have gw223 : Blk w223 b6 [.string pv, gs113x0] 47 := fw223
 refine av rfl rfl (wl_nil (q_n (k221 _ _ ?_)))
 refine sx_retc ?_
 refine sx_ret2 Tryz.results87 ⟨_, rfl, gw223.loadA (vs := [.string pv, gs113x0]) (look_lit rfl) Tryz.isAgg47 Tryz.sizeOf47⟩ rfl ?_
 have f233 := f232.chg cw223 (by omega)
 have hG := f233
 rw [← hput] at hG
 rw [rPut_ok hT hP (by rw [hput]; exact Decidable.not_not.1 h56)]
 have q234 := Chg.step (l := 0) (h := 0) (Chg.zero (l := 0) (h := 0) ((((((cb2.t cb4).t cb6).t c15).t c26).t c37).t cb38)) cw40 (by omega)
 have q235 := Chg.step (l := 0) (h := 0) q234 c53 (by omega)
 have q236 := Chg.step (l := 0) (h := 0) q235 cw'113 (by omega)
 have q237 := Chg.step (l := 0) (h := 0) q236 c205 (by omega)
 have q238 := Chg.step (l := 0) (h := 0) q237 cw223 (by omega)
 exact ⟨_, _, rfl, hG.mono (by omega) (by omega), q238⟩

theorem c_sRatePutT {w : World} {pv : ByteArray} {vt : Value} {lvt uvt : Nat} {ts : List Rt} {vvt : List Value} {f1 : ByteArray} {t1 : ByteArray} {n1 : Bool} {v1 : Value} {lv1 uv1 : Nat} {z1 : List Int} {p1 : Int} (hvt : RtS w lvt uvt vt ts vvt) (hv1 : Sl w lv1 uv1 v1 (z1)) (h63 : ts.length ≤ 4611686018427387904) (hz : ∀ i, i < ts.length → (ts.getD i rt0).2.2.2.1.length ≤ 4611686018427387904) (hz1 : z1.length ≤ 4611686018427387904) (hT : RsOk pv ts) (hsm : ∀ i, i < (ts).length → SmR ((ts).getD i rt0)) (hsr : SmR (f1, t1, n1, z1, p1)) :
  Ret Tryz.prog 87 [.agg #[.string pv, vt], .agg #[.string f1, .string t1, .bool n1, v1, .int .i64 p1]] w fun v w' => ∃ s qv ts2 us ok, v = .tuple #[.agg #[.string (qv), s], .bool (ok)] ∧ RtG w' (w.heap.size) (w'.heap.size) s 54 intT (ts2) us ∧ (ok = true → pv = qv ∧ RsOk pv ts2 ∧ ∀ i, i < (ts2).length → SmR ((ts2).getD i rt0)) ∧ ((ts2).length ≤ (ts).length + 1) ∧ Chg 0 0 w w' := by
 refine Calls.mono (c_sRatePut (n1 := n1) (p1 := p1) (f1 := f1) (t1 := t1) (pv := pv) hvt hv1 h63 hz hz1) fun e w' ⟨v, he, s, us, h1, h2, hc⟩ => ⟨v, he, s, _, _, us, _, h1, h2, fun hk => rput_true hT hsm hsr hk, (by unfold rPut; split <;> first | exact putR_len | exact Nat.zero_le _), hc⟩

end Go.Proofs.YtoeclobdbblohaaGreatDoor
