/- Contracts of functions of the program: what each call returns, and that it changes nothing that was. Conditions: as each says. -/
import Derived.Test.YtgmoahoocakpmaaTy
import Derived.Test.YtgmoahoocakpmaaNatK
import Derived.Test.YtgmoahoocakpmaaSxW
import Derived.Test.YtgmoahoocakpmaaNatS
import Derived.Test.YtgmoahoocakpmaaSxP
import Derived.Test.YtgmoahoocakpmaaRm
import Derived.Test.YtgmoahoocakpmaaL0
set_option linter.unusedVariables false
set_option linter.unusedSimpArgs false
namespace Go.Proofs.Ytgmoahoocakpmaa
open Go Go.RowKit
set_option maxRecDepth 100000
theorem c_l01New {w : World} {vb : Value} {lvb uvb : Nat} {bs : List Int} (hvb : SlB w lvb uvb vb (bs)) (hb8 : ∀ j, j < bs.length → 0 ≤ bs.getD j 0 ∧ bs.getD j 0 ≤ 255) (hbl : bs.length ≤ 1048576) :
  Ret Try.prog 24 [vb] w fun v w' => ∃ c h2, v = .pointer (some ⟨c, 0, none⟩) ∧ Blk w' c [vb, .int .i64 (0), .int .i64 (h2)] 75 ∧ (0 ≤ h2 ∧ h2 ≤ 1073741823) ∧ (w.heap.size ≤ c ∧ c < w'.heap.size) ∧ Chg 0 0 w w' := by
 refine sx_enter Try.func24 rfl Try.ntmps24 (nbl rfl) ?_
 refine sx_seq fun K1 k1 => sx_region ?_
 refine av rfl rfl (wl_nil (q_n (k1 _ _ ?_)))
 refine sx_seq fun K2 k2 => sx_region ?_
 refine mv rfl rfl (sp rfl (px_len rfl Try.underlying22 hvb) ?_)
 refine sp rfl (px_add rfl rfl (by omega)) ?_
 refine av rfl rfl (wl_nil (q_n (k2 _ _ ?_)))
 refine sx_seq fun K3 k3 => ?_
 refine sx_seq fun K4 k4 => sx_region ?_
 refine av rfl rfl (wl_nil (q_n (k4 _ _ ?_)))
 refine sx_block ?_
 refine sx_loop (fun mm aa w' => ∃ (k : Nat) (h : Int), Agr 32 [(0, vb), (3, .int .i64 h), (4, .int .i64 ↑k)] aa ∧ Chg 0 0 w w' ∧ (mm = bs.length - k) ∧ (k ≤ bs.length) ∧ (0 ≤ h ∧ h ≤ 1073741823)) (_) (fun a ha => ⟨0, (1616 + (bs.length : Int)), ha.sub (Sub.c 0 rfl (.c 3 (look_int (t := 3) rfl (by first | omega | simp)) (.c 4 (look_int (t := 4) rfl (by first | omega | simp)) .nil))), Chg.refl _ _ _, rfl, by omega, by omega⟩) ?_
 rintro mm aa wl5 ⟨k, h, hAwl5, cwl5, hm, hk, hh⟩
 refine (show cw Try.prog 32 _ _ _ wl5 from ?_) aa hAwl5
 clear hAwl5
 have zwl5 := cwl5.size
 have hv8 := hb8 k
 refine sx_seq fun K6 k6 => ?_
 refine sx_seq fun K7 k7 => sx_region ?_
 refine mv rfl rfl (mv rfl rfl ?_)
 have f8 := hvb.ext cwl5
 refine sp rfl (px_len rfl Try.underlying22 f8) ?_
 refine sp rfl (px_lt rfl rfl) ?_
 refine mv rfl rfl ?_
 refine sx_tmpP (t := 12) rfl (fun h135 => ?_) (fun h135 => ?_)
 ·
  refine sx_guardT rfl rfl rfl ?_
  refine mv rfl rfl ?_
  refine sx_guardT rfl rfl rfl ?_
  refine sp rfl (px_lt rfl rfl) ?_
  refine sp rfl (px_pick rfl rfl) ?_
  refine wl_nil (q_n (k7 _ _ ?_))
  refine sx_condP rfl (fun h135x1 => ?_) (fun h135x1 => ?_)
  ·
   refine sx_skip ?_
   refine q_n (k6 _ _ ?_)
   refine sx_seq fun K9 k9 => ?_
   refine sx_block ?_
   refine sx_region ?_
   refine mv rfl rfl (sp rfl (px_mul rfl rfl (by omega)) ?_)
   refine mv rfl rfl (mv rfl rfl (sp rfl (px_index1 (j := k) rfl rfl (by omega) Try.underlying22 Try.sizeOf5 f8 (by omega)) ?_))
   refine sp rfl (px_load rfl (f8.load1 (at_u8 (by omega)) Try.isAgg5)) ?_
   refine sp rfl (px_conv8 Try.underlying5 Try.underlying3 rfl (hb8 _ (by omega))) ?_
   refine sp rfl (px_add rfl rfl (by omega)) ?_
   refine sp rfl (px_add rfl rfl (by omega)) ?_
   have hm10 := andI_mask (((h * 41) + ((bs).getD k 0)) + 7) (m := 1073741823) (by decide) (by decide)
   refine sp rfl (px_andW rfl rfl) ?_
   refine av rfl rfl (wl_nil ?_)
   refine q_bn (q_n (k9 _ _ ?_))
   refine sx_sub (Sub.c 0 rfl (.c 3 rfl (.c 4 rfl .nil))) ?_
   refine sx_region ?_
   refine mv rfl rfl (sp rfl (px_add rfl rfl (by omega)) ?_)
   refine av rfl rfl (wl_nil ?_)
   exact fun a ha => ⟨_, by omega, (k + 1), (andI (((h * 41) + ((bs).getD k 0)) + 7) 1073741823), ha.sub (Sub.c 0 rfl (.c 3 (look_int (t := 3) rfl (by first | omega | simp)) (.c 4 (look_int (t := 4) rfl (by first | omega | simp)) .nil))), cwl5, rfl, by omega, by omega⟩
  refine sx_exit ?_
  refine q_e (q_e (q_bx (q_n (k3 _ _ ?_))))
  refine sx_seq fun K11 k11 => sx_region ?_
  refine mv rfl rfl (mv rfl rfl (sp rfl (px_build rfl (xbld75x0x2 f8.one rfl _)) ?_))
  refine sx_box [vb, .int .i64 0, .int .i64 h] rfl rfl rfl (fun b12 w13 eb12 sb12 fb12 cb12 => ?_)
  have zw13 := cb12.size
  refine av rfl rfl (wl_nil (q_n (k11 _ _ ?_)))
  refine sx_sub (Sub.c 2 rfl .nil) ?_
  refine sx_retc ?_
  refine sx_ret1 Try.results24 rfl ?_
  exact ⟨_, _, rfl, fb12, by omega, by omega, (cwl5.t cb12)⟩
 refine sx_guardF rfl rfl rfl rfl rfl rfl ?_
 refine sx_guardF rfl rfl rfl rfl rfl rfl ?_
 refine sp rfl (px_pick rfl rfl) ?_
 refine wl_nil (q_n (k7 _ _ ?_))
 refine sx_condF rfl ?_
 refine sx_exit ?_
 refine q_e (q_e (q_bx (q_n (k3 _ _ ?_))))
 refine sx_seq fun K14 k14 => sx_region ?_
 refine mv rfl rfl (mv rfl rfl (sp rfl (px_build rfl (xbld75x0x2 f8.one rfl _)) ?_))
 refine sx_box [vb, .int .i64 0, .int .i64 h] rfl rfl rfl (fun b15 w16 eb15 sb15 fb15 cb15 => ?_)
 have zw16 := cb15.size
 refine av rfl rfl (wl_nil (q_n (k14 _ _ ?_)))
 refine sx_sub (Sub.c 2 rfl .nil) ?_
 refine sx_retc ?_
 refine sx_ret1 Try.results24 rfl ?_
 exact ⟨_, _, rfl, fb15, by omega, by omega, (cwl5.t cb15)⟩

theorem c_l01Byte {w : World} {c : Nat} {vb : Value} {lvb uvb : Nat} {bs : List Int} {i : Int} {h : Int} (hc : Blk w c [vb, .int .i64 i, .int .i64 h] 75) (hvb : SlB w lvb uvb vb (bs)) (hb8 : ∀ j, j < bs.length → 0 ≤ bs.getD j 0 ∧ bs.getD j 0 ≤ 255) (hbl : bs.length ≤ 1048576) (hi : 0 ≤ i ∧ i ≤ bs.length) (hdis : uvb ≤ c) :
  Ret Try.prog 57 [.pointer (some ⟨c, 0, none⟩)] w fun v w' => ∃ x i2 h2, v = .int .i64 (x) ∧ Blk w' c [vb, .int .i64 (i2), .int .i64 (h2)] 75 ∧ (0 ≤ x ∧ x ≤ 255) ∧ (0 ≤ i2 ∧ i2 ≤ (bs).length) ∧ Chg c (c + 1) w w' := by
 have clt := hc.lt
 refine sx_enter Try.func57 rfl Try.ntmps57 (nbl rfl) ?_
 refine sx_seq fun K1 k1 => sx_region ?_
 refine av rfl rfl (wl_nil (q_n (k1 _ _ ?_)))
 refine sx_seq fun K2 k2 => sx_region ?_
 refine mv rfl rfl (mv rfl rfl (sp rfl (px_nil rfl) ?_))
 refine sp rfl (px_field rfl xfld75x2) ?_
 refine sp rfl (px_load rfl (hc.load1 rfl Try.isAgg3)) ?_
 refine sp rfl (px_mulW rfl rfl) ?_
 refine sp rfl (px_addW rfl rfl) ?_
 refine sp rfl (px_nil rfl) ?_
 refine sp rfl (px_field rfl xfld75x2) ?_
 refine sx_store (vs := [.int .i64 (i64w ((i64w (h * 6364136223846793005)) + 1442695040888963407))]) rfl rfl hc rfl Try.sizeOf3 (nbl rfl) (o1 rfl) (fun w3 sw3 fw3 cw3 => ?_)
 have zw3 := cw3.size
 have gw3 : Blk w3 c [vb, .int .i64 i, .int .i64 (i64w ((i64w (h * 6364136223846793005)) + 1442695040888963407))] 75 := fw3
 refine wl_nil (q_n (k2 _ _ ?_))
 refine sx_seq fun K4 k4 => ?_
 have f5 := hvb.chg cw3 (by omega)
 refine dx_region (fun w' => Chg 0 0 w3 w') (by kernel_rfl) (Chg.zero (Chg.drew _)) ?_
 have d6 := Chg.drew w3
 have s6 : Chg 0 0 w3 (World.drew w3) := Chg.zero (Chg.drew _)
 have y6 : (World.drew w3).heap.size = w3.heap.size := rfl
 generalize World.drew w3 = w6 at *
 have zw6 := d6.size
 refine dt 0 rfl rfl rfl rfl s6 (fun _ hS => px_move rfl) ?_
 refine dt 1 rfl rfl rfl rfl s6 (fun _ hS => px_nil rfl) ?_
 refine dt 2 rfl rfl rfl rfl s6 (fun _ hS => px_field rfl xfld75x2) ?_
 refine dt 3 rfl rfl rfl rfl s6 (fun _ hS => px_load rfl ((gw3.chg hS (by omega)).load1 rfl Try.isAgg3)) ?_
 refine dt 4 rfl rfl rfl rfl s6 (fun _ hS => px_shrW rfl rfl (by decide)) ?_
 refine dt 5 rfl rfl rfl rfl s6 (fun _ hS => px_move rfl) ?_
 refine dt 6 rfl rfl rfl rfl s6 (fun _ hS => px_nil rfl) ?_
 refine dt 7 rfl rfl rfl rfl s6 (fun _ hS => px_field rfl xfld75x2) ?_
 refine dt 8 rfl rfl rfl rfl s6 (fun _ hS => px_load rfl ((gw3.chg hS (by omega)).load1 rfl Try.isAgg3)) ?_
 refine dt 9 rfl rfl rfl rfl s6 (fun _ hS => px_shrW rfl rfl (by decide)) ?_
 refine dt 10 rfl rfl rfl rfl s6 (fun _ hS => px_xorW rfl rfl) ?_
 have hm7 := andI_mask (xorI ((i64w ((i64w (h * 6364136223846793005)) + 1442695040888963407)).fdiv (2 ^ min (33 : Int).toNat 64)) ((i64w ((i64w (h * 6364136223846793005)) + 1442695040888963407)).fdiv (2 ^ min (45 : Int).toNat 64))) (m := 255) (by decide) (by decide)
 refine dt 11 rfl rfl rfl rfl s6 (fun _ hS => px_andW rfl rfl) ?_
 refine dt 12 rfl rfl rfl rfl s6 (fun _ hS => px_assign rfl) ?_
 refine dx_done (by kernel_rfl) ?_
 refine q_n (k4 _ _ ?_)
 refine sx_sub (Sub.c 0 rfl (.c 2 rfl (.c 3 rfl .nil))) ?_
 refine sx_seq fun K8 k8 => ?_
 refine sx_seq fun K9 k9 => ?_
 have f10 := gw3.ext d6
 have f11 := f5.ext d6
 refine dx_region (fun w' => Chg 0 0 w6 w') (by kernel_rfl) (Chg.zero (Chg.drew _)) ?_
 have d12 := Chg.drew w6
 have s12 : Chg 0 0 w6 (World.drew w6) := Chg.zero (Chg.drew _)
 have y12 : (World.drew w6).heap.size = w6.heap.size := rfl
 generalize World.drew w6 = w12 at *
 have zw12 := d12.size
 refine dt 0 rfl rfl rfl rfl s12 (fun _ hS => px_move rfl) ?_
 refine dt 1 rfl rfl rfl rfl s12 (fun _ hS => px_nil rfl) ?_
 refine dt 2 rfl rfl rfl rfl s12 (fun _ hS => px_field rfl xfld75x1) ?_
 refine dt 3 rfl rfl rfl rfl s12 (fun _ hS => px_load rfl ((f10.chg hS (by omega)).load1 rfl Try.isAgg3)) ?_
 refine dt 4 rfl rfl rfl rfl s12 (fun _ hS => px_move rfl) ?_
 refine dt 5 rfl rfl rfl rfl s12 (fun _ hS => px_nil rfl) ?_
 refine dt 6 rfl rfl rfl rfl s12 (fun _ hS => px_field rfl xfld75x0) ?_
 refine dt 7 rfl rfl rfl rfl s12 (fun _ hS => px_load rfl ((f10.chg hS (by omega)).load1 rfl Try.isAgg22)) ?_
 refine dt 8 rfl rfl rfl rfl s12 (fun _ hS => px_len rfl Try.underlying22 ((f11).chg hS (by omega))) ?_
 refine dt 9 rfl rfl rfl rfl s12 (fun _ hS => px_lt rfl rfl) ?_
 refine dx_done (by kernel_rfl) ?_
 refine q_n (k9 _ _ ?_)
 refine sx_condP rfl (fun h144 => ?_) (fun h144 => ?_)
 ·
  refine sx_seq fun K13 k13 => ?_
  have f14 := f10.ext d12
  have f15 := f11.ext d12
  refine dx_region (fun w' => Chg 0 0 w12 w') (by kernel_rfl) (Chg.zero (Chg.drew _)) ?_
  have d16 := Chg.drew w12
  have s16 : Chg 0 0 w12 (World.drew w12) := Chg.zero (Chg.drew _)
  have y16 : (World.drew w12).heap.size = w12.heap.size := rfl
  generalize World.drew w12 = w16 at *
  have zw16 := d16.size
  refine dt 0 rfl rfl rfl rfl s16 (fun _ hS => px_move rfl) ?_
  refine dt 1 rfl rfl rfl rfl s16 (fun _ hS => px_move rfl) ?_
  refine dt 2 rfl rfl rfl rfl s16 (fun _ hS => px_nil rfl) ?_
  refine dt 3 rfl rfl rfl rfl s16 (fun _ hS => px_field rfl xfld75x0) ?_
  refine dt 4 rfl rfl rfl rfl s16 (fun _ hS => px_load rfl ((f14.chg hS (by omega)).load1 rfl Try.isAgg22)) ?_
  refine dt 5 rfl rfl rfl rfl s16 (fun _ hS => px_move rfl) ?_
  refine dt 6 rfl rfl rfl rfl s16 (fun _ hS => px_nil rfl) ?_
  refine dt 7 rfl rfl rfl rfl s16 (fun _ hS => px_field rfl xfld75x1) ?_
  refine dt 8 rfl rfl rfl rfl s16 (fun _ hS => px_load rfl ((f14.chg hS (by omega)).load1 rfl Try.isAgg3)) ?_
  refine dt 9 rfl rfl rfl rfl s16 (fun _ hS => px_index1 (j := i.toNat) rfl rfl (by omega) Try.underlying22 Try.sizeOf5 ((f15).chg hS (by omega)) (by omega)) ?_
  refine dt 10 rfl rfl rfl rfl s16 (fun _ hS => px_load rfl (((f15).chg hS (by omega)).load1 (at_u8 (by omega)) Try.isAgg5)) ?_
  refine dt 11 rfl rfl rfl rfl s16 (fun _ hS => px_conv8 Try.underlying5 Try.underlying3 rfl (hb8 _ (by omega))) ?_
  refine dt 12 rfl rfl rfl rfl s16 (fun _ hS => px_addW rfl rfl) ?_
  have hm17 := andI_mask (i64w ((andI (xorI ((i64w ((i64w (h * 6364136223846793005)) + 1442695040888963407)).fdiv (2 ^ min (33 : Int).toNat 64)) ((i64w ((i64w (h * 6364136223846793005)) + 1442695040888963407)).fdiv (2 ^ min (45 : Int).toNat 64))) 255) + ((bs).getD i.toNat 0))) (m := 255) (by decide) (by decide)
  refine dt 13 rfl rfl rfl rfl s16 (fun _ hS => px_andW rfl rfl) ?_
  refine dt 14 rfl rfl rfl rfl s16 (fun _ hS => px_assign rfl) ?_
  refine dx_done (by kernel_rfl) ?_
  refine q_n (k13 _ _ ?_)
  refine sx_sub (Sub.c 0 rfl (.c 2 rfl (.c 3 rfl .nil))) ?_
  refine sx_region ?_
  refine mv rfl rfl (mv rfl rfl (sp rfl (px_nil rfl) ?_))
  refine sp rfl (px_field rfl xfld75x1) ?_
  have f18 := f14.ext d16
  refine sp rfl (px_load rfl (f18.load1 rfl Try.isAgg3)) ?_
  refine sp rfl (px_add rfl rfl (by omega)) ?_
  refine sp rfl (px_nil rfl) ?_
  refine sp rfl (px_field rfl xfld75x1) ?_
  refine sx_store (vs := [.int .i64 (i + 1)]) rfl rfl f18 rfl Try.sizeOf3 (nbl rfl) (o1 rfl) (fun w19 sw19 fw19 cw19 => ?_)
  have zw19 := cw19.size
  have gw19 : Blk w19 c [vb, .int .i64 (i + 1), .int .i64 (i64w ((i64w (h * 6364136223846793005)) + 1442695040888963407))] 75 := fw19
  refine wl_nil (q_n (k8 _ _ ?_))
  refine sx_seq fun K20 k20 => sx_region ?_
  refine mv rfl rfl (av rfl rfl (wl_nil (q_n (k20 _ _ ?_))))
  refine sx_retc ?_
  refine sx_ret1 Try.results57 rfl ?_
  have q21 := Chg.step (l := c) (h := (c + 1)) cw3 ((d6.t d12).t d16) (by omega)
  have q22 := Chg.step (l := c) (h := (c + 1)) q21 cw19 (by omega)
  exact ⟨_, _, _, rfl, gw19, by omega, by omega, q22⟩
 refine sx_skip ?_
 refine q_n (k8 _ _ ?_)
 refine sx_seq fun K23 k23 => sx_region ?_
 refine mv rfl rfl (av rfl rfl (wl_nil (q_n (k23 _ _ ?_))))
 refine sx_retc ?_
 refine sx_ret1 Try.results57 rfl ?_
 have f24 := f10.ext d12
 have q25 := Chg.step (l := c) (h := (c + 1)) cw3 (d6.t d12) (by omega)
 exact ⟨_, _, _, rfl, f24, by omega, by omega, q25⟩

theorem c_l01Below {w : World} {c : Nat} {vb : Value} {lvb uvb : Nat} {bs : List Int} {i : Int} {h : Int} {n : Int} (hc : Blk w c [vb, .int .i64 i, .int .i64 h] 75) (hvb : SlB w lvb uvb vb (bs)) (hb8 : ∀ j, j < bs.length → 0 ≤ bs.getD j 0 ∧ bs.getD j 0 ≤ 255) (hbl : bs.length ≤ 1048576) (hi : 0 ≤ i ∧ i ≤ bs.length) (hdis : uvb ≤ c) (hn : 1 ≤ n ∧ n ≤ 1000000000) :
  Ret Try.prog 28 [.pointer (some ⟨c, 0, none⟩), .int .i64 n] w fun v w' => ∃ x i2 h2, v = .int .i64 (x) ∧ Blk w' c [vb, .int .i64 (i2), .int .i64 (h2)] 75 ∧ (0 ≤ x ∧ x < n) ∧ (0 ≤ i2 ∧ i2 ≤ (bs).length) ∧ Chg c (c + 1) w w' := by
 have clt := hc.lt
 refine sx_enter Try.func28 rfl Try.ntmps28 (nbl rfl) ?_
 refine sx_seq fun K1 k1 => sx_region ?_
 refine av rfl rfl (wl_nil (q_n (k1 _ _ ?_)))
 refine sx_seq fun K2 k2 => ?_
 refine sx_seq fun K3 k3 => sx_region ?_
 refine mv rfl rfl (sp rfl (px_le rfl rfl) ?_)
 refine wl_nil (q_n (k3 _ _ ?_))
 have h153 : ¬ ((n : Int) ≤ 0) := by omega
 refine sx_condPF rfl h153 ?_
 refine sx_skip ?_
 refine q_n (k2 _ _ ?_)
 refine sx_seq fun K4 k4 => ?_
 refine sx_seq fun K5 k5 => sx_region ?_
 refine mv rfl rfl (sp rfl (px_le rfl rfl) ?_)
 refine wl_nil (q_n (k5 _ _ ?_))
 refine sx_condP rfl (fun h156 => ?_) (fun h156 => ?_)
 ·
  refine sx_seq fun K6 k6 => sx_region ?_
  refine mv rfl rfl (sx_call rfl rfl Try.call57 (c_l01Byte hc hvb (by assumption) (by omega) (by omega) (by omega)) (fun v7 w7 p7 => ?_))
  obtain ⟨x7, i27, h27, rfl, xc_7, hx7, hi27, c7⟩ := p7
  have zw7 := c7.size
  refine mv rfl rfl (sp rfl (px_rem rfl rfl (by omega) (by omega)) ?_)
  refine av rfl rfl (wl_nil (q_n (k6 _ _ ?_)))
  refine sx_retc ?_
  refine q_r (sx_ret1 Try.results28 rfl ?_)
  have hmp := Int.emod_nonneg x7 (show n ≠ 0 by omega)
  have hml := Int.emod_lt_of_pos x7 (show 0 < n by omega)
  exact ⟨_, _, _, rfl, xc_7, by omega, by omega, c7⟩
 refine sx_skip ?_
 refine q_n (k4 _ _ ?_)
 refine sx_seq fun K8 k8 => sx_region ?_
 refine mv rfl rfl (sx_call rfl rfl Try.call57 (c_l01Byte hc hvb (by assumption) (by omega) (by omega) (by omega)) (fun v9 w9 p9 => ?_))
 obtain ⟨x9, i29, h29, rfl, xc_9, hx9, hi29, c9⟩ := p9
 have zw9 := c9.size
 refine av rfl rfl (wl_nil (q_n (k8 _ _ ?_)))
 refine sx_seq fun K10 k10 => sx_region ?_
 refine mv rfl rfl ?_
 have f11 := hvb.chg c9 (by omega)
 refine sx_call rfl rfl Try.call57 (c_l01Byte xc_9 f11 (by assumption) (by omega) (by omega) (by omega)) (fun v12 w12 p12 => ?_)
 obtain ⟨x12, i212, h212, rfl, xc_12, hx12, hi212, c12⟩ := p12
 have zw12 := c12.size
 refine av rfl rfl (wl_nil (q_n (k10 _ _ ?_)))
 refine sx_seq fun K13 k13 => sx_region ?_
 refine mv rfl rfl ?_
 have f14 := f11.chg c12 (by omega)
 refine sx_call rfl rfl Try.call57 (c_l01Byte xc_12 f14 (by assumption) (by omega) (by omega) (by omega)) (fun v15 w15 p15 => ?_)
 obtain ⟨x15, i215, h215, rfl, xc_15, hx15, hi215, c15⟩ := p15
 have zw15 := c15.size
 refine av rfl rfl (wl_nil (q_n (k13 _ _ ?_)))
 refine sx_sub (Sub.c 0 rfl (.c 1 rfl (.c 4 rfl (.c 5 rfl (.c 6 rfl (.c 7 rfl .nil)))))) ?_
 refine sx_seq fun K16 k16 => sx_region ?_
 refine mv rfl rfl ?_
 have f17 := f14.chg c15 (by omega)
 refine sx_call rfl rfl Try.call57 (c_l01Byte xc_15 f17 (by assumption) (by omega) (by omega) (by omega)) (fun v18 w18 p18 => ?_)
 obtain ⟨x18, i218, h218, rfl, xc_18, hx18, hi218, c18⟩ := p18
 have zw18 := c18.size
 refine av rfl rfl (wl_nil (q_n (k16 _ _ ?_)))
 refine sx_seq fun K19 k19 => sx_region ?_
 refine mv rfl rfl (sp rfl (px_mul rfl rfl (by omega)) ?_)
 refine mv rfl rfl (sp rfl (px_mul rfl rfl (by omega)) ?_)
 refine sp rfl (px_add rfl rfl (by omega)) ?_
 refine mv rfl rfl (sp rfl (px_mul rfl rfl (by omega)) ?_)
 refine sp rfl (px_add rfl rfl (by omega)) ?_
 refine mv rfl rfl (sp rfl (px_add rfl rfl (by omega)) ?_)
 refine mv rfl rfl (sp rfl (px_rem rfl rfl (by omega) (by omega)) ?_)
 refine av rfl rfl (wl_nil (q_n (k19 _ _ ?_)))
 refine sx_sub (Sub.c 4 rfl .nil) ?_
 refine sx_retc ?_
 refine sx_ret1 Try.results28 rfl ?_
 have hmp := Int.emod_nonneg ((((x9 * 16777216) + (x12 * 65536)) + (x15 * 256)) + x18) (show n ≠ 0 by omega)
 have hml := Int.emod_lt_of_pos ((((x9 * 16777216) + (x12 * 65536)) + (x15 * 256)) + x18) (show 0 < n by omega)
 have q20 := Chg.step (l := c) (h := (c + 1)) c9 c12 (by omega)
 have q21 := Chg.step (l := c) (h := (c + 1)) q20 c15 (by omega)
 have q22 := Chg.step (l := c) (h := (c + 1)) q21 c18 (by omega)
 exact ⟨_, _, _, rfl, xc_18, by omega, by omega, q22⟩

theorem c_l01Once {w : World} {c : Nat} {vb : Value} {lvb uvb : Nat} {bs : List Int} {i : Int} {h : Int} {n : Int} (hc : Blk w c [vb, .int .i64 i, .int .i64 h] 75) (hvb : SlB w lvb uvb vb (bs)) (hb8 : ∀ j, j < bs.length → 0 ≤ bs.getD j 0 ∧ bs.getD j 0 ≤ 255) (hbl : bs.length ≤ 1048576) (hi : 0 ≤ i ∧ i ≤ bs.length) (hdis : uvb ≤ c) (hn : 1 ≤ n ∧ n ≤ 1000000000) :
  Ret Try.prog 25 [.pointer (some ⟨c, 0, none⟩), .int .i64 n] w fun v w' => ∃ x i2 h2, v = .bool (decide ((x : Int) = 0)) ∧ Blk w' c [vb, .int .i64 (i2), .int .i64 (h2)] 75 ∧ (0 ≤ x ∧ x < n) ∧ (0 ≤ i2 ∧ i2 ≤ (bs).length) ∧ Chg c (c + 1) w w' := by
 have clt := hc.lt
 refine sx_enter Try.func25 rfl Try.ntmps25 (nbl rfl) ?_
 refine sx_seq fun K1 k1 => sx_region ?_
 refine av rfl rfl (wl_nil (q_n (k1 _ _ ?_)))
 refine sx_seq fun K2 k2 => sx_region ?_
 refine mv rfl rfl (mv rfl rfl (sx_call rfl rfl Try.call28 (c_l01Below hc hvb (by assumption) (by omega) (by omega) (by omega) (by omega)) (fun v3 w3 p3 => ?_)))
 obtain ⟨x3, i23, h23, rfl, xc_3, hx3, hi23, c3⟩ := p3
 have zw3 := c3.size
 refine sp rfl (px_eq rfl rfl) ?_
 refine av rfl rfl (wl_nil (q_n (k2 _ _ ?_)))
 refine sx_retc ?_
 refine sx_ret1 Try.results25 rfl ?_
 exact ⟨_, _, _, rfl, xc_3, by omega, by omega, c3⟩

theorem c_l01Pick {w : World} {c : Nat} {vb : Value} {lvb uvb : Nat} {bs : List Int} {i : Int} {h : Int} {vl : Value} {lvl uvl : Nat} {zs : List Int} (hc : Blk w c [vb, .int .i64 i, .int .i64 h] 75) (hvb : SlB w lvb uvb vb (bs)) (hvl : Sl w lvl uvl vl (zs)) (hb8 : ∀ j, j < bs.length → 0 ≤ bs.getD j 0 ∧ bs.getD j 0 ≤ 255) (hbl : bs.length ≤ 1048576) (hi : 0 ≤ i ∧ i ≤ bs.length) (hdis : uvb ≤ c) (hz : 1 ≤ zs.length ∧ zs.length ≤ 1000) (hd2 : uvl ≤ c ∨ c < lvl) :
  Ret Try.prog 29 [.pointer (some ⟨c, 0, none⟩), vl] w fun v w' => ∃ x i2 h2, v = .int .i64 (x) ∧ Blk w' c [vb, .int .i64 (i2), .int .i64 (h2)] 75 ∧ (x ∈ zs) ∧ (0 ≤ i2 ∧ i2 ≤ (bs).length) ∧ Chg c (c + 1) w w' := by
 have clt := hc.lt
 refine sx_enter Try.func29 rfl Try.ntmps29 (nbl rfl) ?_
 refine sx_seq fun K1 k1 => sx_region ?_
 refine av rfl rfl (wl_nil (q_n (k1 _ _ ?_)))
 refine sx_seq fun K2 k2 => sx_region ?_
 refine mv rfl rfl (mv rfl rfl (mv rfl rfl (sp rfl (px_len rfl Try.underlying23 hvl) ?_)))
 refine sx_call rfl rfl Try.call28 (c_l01Below hc hvb (by assumption) (by omega) (by omega) (by omega) (by omega)) (fun v3 w3 p3 => ?_)
 obtain ⟨x3, i23, h23, rfl, xc_3, hx3, hi23, c3⟩ := p3
 have zw3 := c3.size
 have f4 := hvl.chg c3 (by omega)
 refine sp rfl (px_index1 (j := x3.toNat) rfl rfl (by omega) Try.underlying23 Try.sizeOf3 f4 (by omega)) ?_
 refine sp rfl (px_load rfl (f4.load1 (at_int (by omega)) Try.isAgg3)) ?_
 refine av rfl rfl (wl_nil (q_n (k2 _ _ ?_)))
 refine sx_retc ?_
 refine sx_ret1 Try.results29 rfl ?_
 exact ⟨_, _, _, rfl, xc_3, mem_getD (by omega), by omega, c3⟩

theorem c_l02Nat {w : World} {c : Nat} {vb : Value} {lvb uvb : Nat} {bs : List Int} {i : Int} {h : Int} {most : Int} (hc : Blk w c [vb, .int .i64 i, .int .i64 h] 75) (hvb : SlB w lvb uvb vb (bs)) (hb8 : ∀ j, j < bs.length → 0 ≤ bs.getD j 0 ∧ bs.getD j 0 ≤ 255) (hbl : bs.length ≤ 1048576) (hi : 0 ≤ i ∧ i ≤ bs.length) (hdis : uvb ≤ c) (hn : 0 ≤ most ∧ most ≤ 100) :
  Ret Try.prog 59 [.pointer (some ⟨c, 0, none⟩), .int .i64 most] w fun v w' => ∃ s m i2 h2, v = s ∧ OwnI w' w.heap.size w'.heap.size s intT (dg m) ∧ Blk w' c [vb, .int .i64 (i2), .int .i64 (h2)] 75 ∧ (((dg m).length : Int) ≤ most) ∧ (0 ≤ i2 ∧ i2 ≤ (bs).length) ∧ Chg c (c + 1) w w' := by
 have clt := hc.lt
 have clt := hc.lt
 refine sx_enter Try.func59 rfl Try.ntmps59 (nbl rfl) ?_
 refine sx_seq fun K1 k1 => sx_region ?_
 refine av rfl rfl (wl_nil (q_n (k1 _ _ ?_)))
 refine sx_seq fun K2 k2 => sx_region ?_
 refine sx_lit0 rfl xelt23 (fun s3 ws3 ss3 fs3 cs3 => ?_)
 have zws3 := cs3.size
 refine av rfl rfl (wl_nil (q_n (k2 _ _ ?_)))
 refine sx_seq fun K4 k4 => ?_
 refine sx_seq fun K5 k5 => sx_region ?_
 refine mv rfl rfl (mv rfl rfl (sp rfl (px_add rfl rfl (by omega)) ?_))
 have f6 := hc.ext cs3
 have f7 := hvb.ext cs3
 refine sx_call rfl rfl Try.call28 (c_l01Below f6 f7 (by assumption) (by omega) (by omega) (by omega) (by omega)) (fun v8 w8 p8 => ?_)
 obtain ⟨x8, i28, h28, rfl, xc_8, hx8, hi28, c8⟩ := p8
 have zw8 := c8.size
 refine av rfl rfl (wl_nil (q_n (k5 _ _ ?_)))
 refine sx_block ?_
 have f10 := fs3.chg c8 (by omega)
 have q11 := Chg.step (l := c) (h := (c + 1)) (Chg.zero (l := c) (h := (c + 1)) cs3) c8 (by omega)
 refine sx_loop (fun mm aa w' => ∃ (s : Value) (os : List Int) (n2 : Int) (i2 : Int) (h2 : Int), Agr 28 [(0, .pointer (some ⟨c, 0, none⟩)), (5, s), (6, .int .i64 n2)] aa ∧ Chg c (c + 1) w w' ∧ Blk w' c [vb, .int .i64 i2, .int .i64 h2] 75 ∧ Own w' w.heap.size w'.heap.size s intT os.length 1 (os.map (Value.int .i64)) ∧ (mm = n2.toNat) ∧ (Lm os) ∧ ((os.length : Int) + n2 ≤ most ∧ 0 ≤ n2) ∧ (0 ≤ i2 ∧ i2 ≤ bs.length)) (_) (fun a ha => ⟨s3, [], x8, i28, h28, ha.sub (Sub.c 0 rfl (.c 5 rfl (.c 6 (look_int (t := 6) rfl (by first | omega | simp)) .nil))), q11, xc_8, (f10.mono (by omega) (by omega)), rfl, Lm.nil, by simp only [List.length_nil]; omega, by omega⟩) ?_
 rintro mm aa wl9 ⟨s, os, n2, i2, h2, hAwl9, cwl9, hb_c, hs_s, hm, hlm, hln, hi2⟩
 refine (show cw Try.prog 28 _ _ _ wl9 from ?_) aa hAwl9
 clear hAwl9
 have zwl9 := cwl9.size
 refine sx_seq fun K12 k12 => ?_
 refine sx_seq fun K13 k13 => sx_region ?_
 refine mv rfl rfl (sp rfl (px_gt rfl rfl) ?_)
 refine wl_nil (q_n (k13 _ _ ?_))
 refine sx_condP rfl (fun h203 => ?_) (fun h203 => ?_)
 ·
  refine sx_skip ?_
  refine q_n (k12 _ _ ?_)
  refine sx_seq fun K14 k14 => ?_
  refine sx_block ?_
  refine sx_region ?_
  refine mv rfl rfl (mv rfl rfl (mv rfl rfl ?_))
  have f15 := hvb.chg cwl9 (by omega)
  refine sx_call rfl rfl Try.call28 (c_l01Below hb_c f15 (by assumption) (by omega) (by omega) (by omega) (by omega)) (fun v16 w16 p16 => ?_)
  obtain ⟨x16, i216, h216, rfl, xc_16, hx16, hi216, c16⟩ := p16
  have zw16 := c16.size
  refine mv rfl rfl ?_
  have f17 := f15.chg c16 (by omega)
  refine sx_call rfl rfl Try.call28 (c_l01Below xc_16 f17 (by assumption) (by omega) (by omega) (by omega) (by omega)) (fun v18 w18 p18 => ?_)
  obtain ⟨x18, i218, h218, rfl, xc_18, hx18, hi218, c18⟩ := p18
  have zw18 := c18.size
  refine sx_lit7 rfl xelt23 rfl rfl rfl rfl rfl rfl rfl rfl rfl rfl rfl rfl rfl rfl (fun s19 ws19 ss19 fs19 cs19 => ?_)
  have ns19 := Own.norm (f := (Value.int .i64)) (zs := [0, 1, 2, 999999999, 500000000, x16, x18]) fs19
  have zws19 := cs19.size
  have f20 := xc_18.ext cs19
  have f22 := (f17.chg c18 (by omega)).ext cs19
  refine sx_call rfl rfl Try.call29 (c_l01Pick f20 f22 ns19.sv (by assumption) (by omega) (by omega) (by omega) (by first | omega | simp) (by omega)) (fun v23 w23 p23 => ?_)
  obtain ⟨x23, i223, h223, rfl, xc_23, hx23, hi223, c23⟩ := p23
  have zw23 := c23.size
  refine sx_lit1 rfl xelt23 rfl rfl (fun s24 ws24 ss24 fs24 cs24 => ?_)
  have ns24 := Own.norm (f := (Value.int .i64)) (zs := [x23]) fs24
  have zws24 := cs24.size
  have f28 := ((hs_s.chg c16 (by omega)).chg c18 (by omega)).ext cs19
  have f30 := (f28.chg c23 (by omega)).ext cs24
  refine sx_append rfl xelt23 rfl rfl f30 ns24.sv one_int (by omega) (by simp only [List.length_cons, List.length_nil]; omega) (by unfold maxLen; simp only [List.length_cons, List.length_nil]; omega) (fun a25 w25 fw25 cw25 => ?_)
  have nw25 := Own.app (f := (Value.int .i64)) (a := os) (b := [x23]) fw25
  have zw25 := cw25.size
  refine av rfl rfl (wl_nil ?_)
  refine q_bn (q_n (k14 _ _ ?_))
  refine sx_sub (Sub.c 0 rfl (.c 5 rfl (.c 6 rfl .nil))) ?_
  refine sx_region ?_
  refine mv rfl rfl (sp rfl (px_sub rfl rfl (by omega)) ?_)
  refine av rfl rfl (wl_nil ?_)
  have f31 := xc_23.ext cs24
  have f32 := f31.chg cw25 (by omega)
  have q33 := Chg.step (l := c) (h := (c + 1)) cwl9 c16 (by omega)
  have q34 := Chg.step (l := c) (h := (c + 1)) q33 c18 (by omega)
  have q35 := Chg.step (l := c) (h := (c + 1)) q34 cs19 (by omega)
  have q36 := Chg.step (l := c) (h := (c + 1)) q35 c23 (by omega)
  have q37 := Chg.step (l := c) (h := (c + 1)) q36 cs24 (by omega)
  have q38 := Chg.step (l := c) (h := (c + 1)) q37 cw25 (by omega)
  have bx23 : 0 ≤ x23 ∧ x23 < 1000000000 := by have h9 := hx23; simp only [List.mem_cons, List.not_mem_nil, or_false] at h9; omega
  exact fun a ha => ⟨_, by omega, a25, (os ++ ([x23])), (n2 - 1), i223, h223, ha.sub (Sub.c 0 rfl (.c 5 rfl (.c 6 (look_int (t := 6) rfl (by first | omega | simp)) .nil))), q38, f32, (nw25.mono (by omega) (by omega)), rfl, hlm.append (Lm.single (by omega) (by omega)), by simp only [List.length_append, List.length_singleton]; omega, by omega⟩
 refine sx_exit ?_
 refine q_e (q_e (q_bx (q_n (k4 _ _ ?_))))
 refine sx_seq fun K39 k39 => sx_region ?_
 refine mv rfl rfl (sx_call rfl rfl Try.call82 (c_l02Trim hs_s (by assumption) (by first | omega | (simp only [List.length_append, List.length_set, List.length_replicate, List.length_cons, List.length_nil] at *; omega))) (fun v40 w40 p40 => ?_))
 obtain ⟨s40, rfl, os_40, c40⟩ := p40
 have zw40 := c40.size
 refine av rfl rfl (wl_nil (q_n (k39 _ _ ?_)))
 refine sx_retc ?_
 refine sx_ret1 Try.results59 rfl ?_
 have hvt := vl_trim_len hlm
 have f41 := hb_c.ext c40
 have q42 := Chg.step (l := c) (h := (c + 1)) cwl9 c40 (by omega)
 exact ⟨_, _, _, _, rfl, (Own.mono os_40 (by omega) (by omega)), f41, by omega, by omega, q42⟩

theorem c_l04Draw {w : World} {c : Nat} {vb : Value} {lvb uvb : Nat} {bs : List Int} {i : Int} {h : Int} {most : Int} (hc : Blk w c [vb, .int .i64 i, .int .i64 h] 75) (hvb : SlB w lvb uvb vb (bs)) (hb8 : ∀ j, j < bs.length → 0 ≤ bs.getD j 0 ∧ bs.getD j 0 ≤ 255) (hbl : bs.length ≤ 1048576) (hi : 0 ≤ i ∧ i ≤ bs.length) (hdis : uvb ≤ c) (hn : 1 ≤ most ∧ most ≤ 40) :
  Ret Try.prog 58 [.pointer (some ⟨c, 0, none⟩), .int .i64 most] w fun v w' => ∃ s x i2 h2, v = .agg #[.bool (ng x), s] ∧ OwnI w' w.heap.size w'.heap.size s intT (dg (x).natAbs) ∧ Blk w' c [vb, .int .i64 (i2), .int .i64 (h2)] 75 ∧ (((dg (x).natAbs).length : Int) ≤ most) ∧ (0 ≤ i2 ∧ i2 ≤ (bs).length) ∧ Chg c (c + 1) w w' := by
 have clt := hc.lt
 have clt := hc.lt
 refine sx_enter Try.func58 rfl Try.ntmps58 (nbl rfl) ?_
 refine sx_seq fun K1 k1 => sx_region ?_
 refine sx_alloc [.bool false, (.slice none 0 0)] rfl Try.zeroValue25 rfl (fun b2 w3 eb2 sb2 fb2 cb2 => ?_)
 have zw3 := cb2.size
 refine wl_nil (q_n (k1 _ _ ?_))
 refine sx_seq fun K4 k4 => ?_
 refine sx_seq fun K5 k5 => sx_region ?_
 refine mv rfl rfl ?_
 have f6 := hc.ext cb2
 have f7 := hvb.ext cb2
 refine sx_call rfl rfl Try.call25 (c_l01Once f6 f7 (by assumption) (by omega) (by omega) (by omega) (by omega)) (fun v8 w8 p8 => ?_)
 obtain ⟨x8, i28, h28, rfl, xc_8, hx8, hi28, c8⟩ := p8
 have zw8 := c8.size
 refine wl_nil (q_n (k5 _ _ ?_))
 refine sx_condP rfl (fun h144 => ?_) (fun h144 => ?_)
 ·
  refine sx_seq fun K9 k9 => sx_region ?_
  refine mv rfl rfl ?_
  have f10 := f7.chg c8 (by omega)
  refine sx_call rfl rfl Try.call28 (c_l01Below xc_8 f10 (by assumption) (by omega) (by omega) (by omega) (by omega)) (fun v11 w11 p11 => ?_)
  obtain ⟨x11, i211, h211, rfl, xc_11, hx11, hi211, c11⟩ := p11
  have zw11 := c11.size
  refine sp rfl (px_sub rfl rfl (by omega)) ?_
  refine sx_call rfl rfl Try.call27 (c_sIntOf (by omega)) (fun v12 w12 p12 => ?_)
  obtain ⟨s12, rfl, os_12, c12⟩ := p12
  have zw12 := c12.size
  have f16 := ((fb2.chg c8 (by omega)).chg c11 (by omega)).ext c12
  refine sx_store (vs := [.bool (ng (x11 - 1000)), s12]) rfl rfl f16 rfl Try.sizeOf25 (nbl rfl) (one_cons rfl (one_cons os_12.one one_nil)) (fun w13 sw13 fw13 cw13 => ?_)
  have zw13 := cw13.size
  have gw13 : Blk w13 b2 [.bool (ng (x11 - 1000)), s12] 25 := fw13
  refine wl_nil (q_n (k9 _ _ ?_))
  refine sx_retc ?_
  refine q_r (sx_ret1 Try.results58 ⟨_, rfl, gw13.loadA (vs := [.bool (ng (x11 - 1000)), s12]) (look_lit rfl) Try.isAgg25 Try.sizeOf25⟩ ?_)
  have hl1 : (dg ((x11 - 1000)).natAbs).length ≤ 1 := dg_len_le (by simp only [Bs]; omega)
  have f18 := (xc_11.ext c12).chg cw13 (by omega)
  have q19 := Chg.step (l := c) (h := (c + 1)) (Chg.zero (l := c) (h := (c + 1)) cb2) c8 (by omega)
  have q20 := Chg.step (l := c) (h := (c + 1)) q19 c11 (by omega)
  have q21 := Chg.step (l := c) (h := (c + 1)) q20 c12 (by omega)
  have q22 := Chg.step (l := c) (h := (c + 1)) q21 cw13 (by omega)
  have f23 := os_12.chg cw13 (by omega)
  exact ⟨_, _, _, _, rfl, (Own.mono f23 (by omega) (by omega)), f18, by omega, by omega, q22⟩
 refine sx_skip ?_
 refine q_n (k4 _ _ ?_)
 refine sx_seq fun K24 k24 => sx_region ?_
 refine mv rfl rfl ?_
 have f25 := f7.chg c8 (by omega)
 refine sx_call rfl rfl Try.call25 (c_l01Once xc_8 f25 (by assumption) (by omega) (by omega) (by omega) (by omega)) (fun v26 w26 p26 => ?_)
 obtain ⟨x26, i226, h226, rfl, xc_26, hx26, hi226, c26⟩ := p26
 have zw26 := c26.size
 refine mv rfl rfl (mv rfl rfl ?_)
 have f27 := f25.chg c26 (by omega)
 refine sx_call rfl rfl Try.call59 (c_l02Nat xc_26 f27 (by assumption) (by omega) (by omega) (by omega) (by omega)) (fun v28 w28 p28 => ?_)
 obtain ⟨s28, m28, i228, h228, rfl, os_28, xc_28, hx28, hi228, c28⟩ := p28
 have zw28 := c28.size
 refine sx_call rfl rfl Try.call55 (c_l04Make os_28.sv (by omega)) (fun v29 w29 p29 => ?_)
 obtain ⟨s29, rfl, os_29, c29⟩ := p29
 have zw29 := c29.size
 have f34 := (((fb2.chg c8 (by omega)).chg c26 (by omega)).chg c28 (by omega)).ext c29
 refine sx_store (vs := [.bool (ng (capI (decide ((x26 : Int) = 0)) m28)), s29]) rfl rfl f34 rfl Try.sizeOf25 (nbl rfl) (one_cons rfl (one_cons os_29.one one_nil)) (fun w30 sw30 fw30 cw30 => ?_)
 have zw30 := cw30.size
 have gw30 : Blk w30 b2 [.bool (ng (capI (decide ((x26 : Int) = 0)) m28)), s29] 25 := fw30
 refine wl_nil (q_n (k24 _ _ ?_))
 refine sx_retc ?_
 refine sx_ret1 Try.results58 ⟨_, rfl, gw30.loadA (vs := [.bool (ng (capI (decide ((x26 : Int) = 0)) m28)), s29]) (look_lit rfl) Try.isAgg25 Try.sizeOf25⟩ ?_
 have hcs := capI_sgI (n := (decide ((x26 : Int) = 0))) (m := m28) (by omega)
 have hl1 : (dg (capI (decide ((x26 : Int) = 0)) m28).natAbs).length = (dg m28).length := by rw [hcs, sgI_abs]
 have f36 := (xc_28.ext c29).chg cw30 (by omega)
 have q37 := Chg.step (l := c) (h := (c + 1)) (Chg.zero (l := c) (h := (c + 1)) cb2) c8 (by omega)
 have q38 := Chg.step (l := c) (h := (c + 1)) q37 c26 (by omega)
 have q39 := Chg.step (l := c) (h := (c + 1)) q38 c28 (by omega)
 have q40 := Chg.step (l := c) (h := (c + 1)) q39 c29 (by omega)
 have q41 := Chg.step (l := c) (h := (c + 1)) q40 cw30 (by omega)
 have f42 := os_29.chg cw30 (by omega)
 exact ⟨_, _, _, _, rfl, (Own.mono f42 (by omega) (by omega)), f36, by omega, by omega, q41⟩

theorem c_sRatZero {w : World} :
  Ret Try.prog 60 [] w fun v w' => ∃ s, v = .agg #[.bool (false), .slice none 0 0, s] ∧ OwnI w' w.heap.size w'.heap.size s intT ([1]) ∧ Chg 0 0 w w' := by
 refine sx_enter Try.func60 rfl Try.ntmps60 (nbl rfl) ?_
 refine sx_seq fun K1 k1 => sx_region ?_
 refine sx_alloc [.bool false, (.slice none 0 0), (.slice none 0 0)] rfl Try.zeroValue27 rfl (fun b2 w3 eb2 sb2 fb2 cb2 => ?_)
 have zw3 := cb2.size
 refine wl_nil (q_n (k1 _ _ ?_))
 refine sx_seq fun K4 k4 => sx_region ?_
 refine sx_lit1 rfl xelt23 rfl rfl (fun s5 ws5 ss5 fs5 cs5 => ?_)
 have ns5 := Own.norm (f := (Value.int .i64)) (zs := [1]) fs5
 have zws5 := cs5.size
 refine sp rfl (px_build rfl (xbld27x1 ns5.one _)) ?_
 have f7 := fb2.ext cs5
 refine sx_store (vs := [.bool false, (.slice none 0 0), s5]) rfl rfl f7 rfl Try.sizeOf27 (nbl rfl) (one_cons rfl (one_cons rfl (one_cons ns5.one one_nil))) (fun w6 sw6 fw6 cw6 => ?_)
 have zw6 := cw6.size
 have gw6 : Blk w6 b2 [.bool false, (.slice none 0 0), s5] 27 := fw6
 refine wl_nil (q_n (k4 _ _ ?_))
 refine sx_retc ?_
 refine sx_ret1 Try.results60 ⟨_, rfl, gw6.loadA (vs := [.bool false, (.slice none 0 0), s5]) (look_lit rfl) Try.isAgg27 Try.sizeOf27⟩ ?_
 have q8 := Chg.step (l := 0) (h := 0) (Chg.zero (l := 0) (h := 0) (cb2.t cs5)) cw6 (by omega)
 have f9 := ns5.chg cw6 (by omega)
 exact ⟨_, rfl, (Own.mono f9 (by omega) (by omega)), q8⟩

theorem c_l05Draw {w : World} {c : Nat} {vb : Value} {lvb uvb : Nat} {bs : List Int} {i : Int} {h : Int} {most : Int} (hc : Blk w c [vb, .int .i64 i, .int .i64 h] 75) (hvb : SlB w lvb uvb vb (bs)) (hb8 : ∀ j, j < bs.length → 0 ≤ bs.getD j 0 ∧ bs.getD j 0 ≤ 255) (hbl : bs.length ≤ 1048576) (hi : 0 ≤ i ∧ i ≤ bs.length) (hdis : uvb ≤ c) (hn : 1 ≤ most ∧ most ≤ 4) :
  Ret Try.prog 30 [.pointer (some ⟨c, 0, none⟩), .int .i64 most] w fun v w' => ∃ s t ls us lt ut x e i2 h2, v = .agg #[.bool (ng x), s, t] ∧ OwnI w' (ls) (us) s intT (dg (x).natAbs) ∧ OwnI w' (lt) (ut) t intT (dg e) ∧ (w.heap.size ≤ ls ∧ us ≤ w'.heap.size ∧ w.heap.size ≤ lt ∧ ut ≤ w'.heap.size ∧ (us ≤ lt ∨ ut ≤ ls)) ∧ Blk w' c [vb, .int .i64 (i2), .int .i64 (h2)] 75 ∧ (ROk (ng x) (dg (x).natAbs) (dg e)) ∧ ((dg (x).natAbs).length ≤ 5) ∧ ((dg e).length ≤ 5) ∧ (0 ≤ i2 ∧ i2 ≤ (bs).length) ∧ Chg c (c + 1) w w' := by
 have clt := hc.lt
 have clt := hc.lt
 refine sx_enter Try.func30 rfl Try.ntmps30 (nbl rfl) ?_
 refine sx_seq fun K1 k1 => sx_region ?_
 refine sx_alloc [.bool false, (.slice none 0 0), (.slice none 0 0)] rfl Try.zeroValue27 rfl (fun b2 w3 eb2 sb2 fb2 cb2 => ?_)
 have zw3 := cb2.size
 refine wl_nil (q_n (k1 _ _ ?_))
 refine sx_seq fun K4 k4 => sx_region ?_
 refine mv rfl rfl (mv rfl rfl ?_)
 have f5 := hc.ext cb2
 have f6 := hvb.ext cb2
 refine sx_call rfl rfl Try.call58 (c_l04Draw f5 f6 (by assumption) (by omega) (by omega) (by omega) (by omega)) (fun v7 w7 p7 => ?_)
 obtain ⟨s7, x7, i27, h27, rfl, os_7, xc_7, hx7, hi27, c7⟩ := p7
 have zw7 := c7.size
 refine sx_alloc [.bool false, (.slice none 0 0)] rfl Try.zeroValue25 rfl (fun b8 w9 eb8 sb8 fb8 cb8 => ?_)
 have zw9 := cb8.size
 have f11 := os_7.ext cb8
 refine sx_store (vs := [.bool (ng x7), s7]) rfl rfl fb8 rfl Try.sizeOf25 (nbl rfl) (one_cons rfl (one_cons f11.one one_nil)) (fun w10 sw10 fw10 cw10 => ?_)
 have zw10 := cw10.size
 have gw10 : Blk w10 b8 [.bool (ng x7), s7] 25 := fw10
 refine wl_nil (q_n (k4 _ _ ?_))
 refine sx_seq fun K12 k12 => sx_region ?_
 refine mv rfl rfl ?_
 have f13 := xc_7.ext cb8
 have f14 := f13.chg cw10 (by omega)
 have f16 := (f6.chg c7 (by omega)).ext cb8
 have f17 := f16.chg cw10 (by omega)
 refine sx_call rfl rfl Try.call28 (c_l01Below f14 f17 (by assumption) (by omega) (by omega) (by omega) (by omega)) (fun v18 w18 p18 => ?_)
 obtain ⟨x18, i218, h218, rfl, xc_18, hx18, hi218, c18⟩ := p18
 have zw18 := c18.size
 refine sp rfl (px_add rfl rfl (by omega)) ?_
 refine sx_call rfl rfl Try.call56 (c_sNatOf (by omega)) (fun v19 w19 p19 => ?_)
 obtain ⟨s19, rfl, os_19, c19⟩ := p19
 have zw19 := c19.size
 refine sp rfl (px_build rfl (xbld25x1 os_19.one _)) ?_
 refine sx_alloc [.bool false, (.slice none 0 0)] rfl Try.zeroValue25 rfl (fun b20 w21 eb20 sb20 fb20 cb20 => ?_)
 have zw21 := cb20.size
 have f23 := os_19.ext cb20
 refine sx_store (vs := [.bool false, v19]) rfl rfl fb20 rfl Try.sizeOf25 (nbl rfl) (one_cons rfl (one_cons f23.one one_nil)) (fun w22 sw22 fw22 cw22 => ?_)
 have zw22 := cw22.size
 have gw22 : Blk w22 b20 [.bool false, v19] 25 := fw22
 refine wl_nil (q_n (k12 _ _ ?_))
 refine sx_seq fun K24 k24 => ?_
 refine sx_seq fun K25 k25 => sx_region ?_
 refine mv rfl rfl ?_
 have f27 := (xc_18.ext c19).ext cb20
 have f28 := f27.chg cw22 (by omega)
 have f31 := ((f17.chg c18 (by omega)).ext c19).ext cb20
 have f32 := f31.chg cw22 (by omega)
 refine sx_call rfl rfl Try.call25 (c_l01Once f28 f32 (by assumption) (by omega) (by omega) (by omega) (by omega)) (fun v33 w33 p33 => ?_)
 obtain ⟨x33, i233, h233, rfl, xc_33, hx33, hi233, c33⟩ := p33
 have zw33 := c33.size
 refine wl_nil (q_n (k25 _ _ ?_))
 refine sx_sub (Sub.c 0 rfl (.c 1 rfl (.c 4 rfl (.c 5 rfl (.c 6 rfl (.c 18 rfl .nil)))))) ?_
 refine sx_condP rfl (fun h142 => ?_) (fun h142 => ?_)
 ·
  refine sx_region ?_
  refine mv rfl rfl (mv rfl rfl (sp rfl (px_sub rfl rfl (by omega)) ?_))
  have f34 := f32.chg c33 (by omega)
  refine sx_call rfl rfl Try.call59 (c_l02Nat xc_33 f34 (by assumption) (by omega) (by omega) (by omega) (by omega)) (fun v35 w35 p35 => ?_)
  obtain ⟨s35, m35, i235, h235, rfl, os_35, xc_35, hx35, hi235, c35⟩ := p35
  have zw35 := c35.size
  refine mv rfl rfl ?_
  have f36 := f34.chg c35 (by omega)
  refine sx_call rfl rfl Try.call28 (c_l01Below xc_35 f36 (by assumption) (by omega) (by omega) (by omega) (by omega)) (fun v37 w37 p37 => ?_)
  obtain ⟨x37, i237, h237, rfl, xc_37, hx37, hi237, c37⟩ := p37
  have zw37 := c37.size
  refine sp rfl (px_add rfl rfl (by omega)) ?_
  refine sx_lit1 rfl xelt23 rfl rfl (fun s38 ws38 ss38 fs38 cs38 => ?_)
  have ns38 := Own.norm (f := (Value.int .i64)) (zs := [1 + x37]) fs38
  have zws38 := cs38.size
  have f41 := (os_35.chg c37 (by omega)).ext cs38
  refine sx_append rfl xelt23 rfl rfl f41 ns38.sv one_int (by omega) (by simp only [List.length_cons, List.length_nil]; omega) (by unfold maxLen; simp only [List.length_cons, List.length_nil]; omega) (fun a39 w39 fw39 cw39 => ?_)
  have nw39 := Own.app (f := (Value.int .i64)) (a := dg m35) (b := [1 + x37]) fw39
  have zw39 := cw39.size
  refine sp rfl (px_field rfl xfld25x1) ?_
  have f46 := (((gw22.chg c33 (by omega)).chg c35 (by omega)).chg c37 (by omega)).ext cs38
  have f47 := f46.chg cw39 (by omega)
  refine sx_store (vs := [a39]) rfl rfl f47 (cells_one nw39.one) Try.sizeOf23 (nbl rfl) (one_cons nw39.one one_nil) (fun w42 sw42 fw42 cw42 => ?_)
  have zw42 := cw42.size
  have gw42 : Blk w42 b20 [.bool false, a39] 25 := fw42
  refine wl_nil (q_n (k24 _ _ ?_))
  refine sx_sub (Sub.c 4 rfl (.c 5 rfl (.c 6 rfl .nil))) ?_
  refine sx_seq fun K48 k48 => ?_
  have hz5 : 0 < ((dg m35) ++ ([1 + x37])).length ∧ ((dg m35) ++ ([1 + x37])).length ≤ 5 := by simp only [List.length_append, List.length_singleton]; omega
  obtain ⟨X, E, hE, hK, hX5, hE5⟩ := draw_rat (x := x7) (n2 := false) (zs := (dg m35) ++ ([1 + x37])) (k := 5) (by omega) (by omega) ((Lm_dg _).append (Lm.single (by omega) (by omega))) (by simp; omega) hz5
  refine sx_region ?_
  have f51 := ((gw10.chg c18 (by omega)).ext c19).ext cb20
  have f52 := f51.chg cw22 (by omega)
  have f56 := (((f52.chg c33 (by omega)).chg c35 (by omega)).chg c37 (by omega)).ext cs38
  have f57 := f56.chg cw39 (by omega)
  have f58 := f57.chg cw42 (by omega)
  refine sp rfl (px_load rfl (f58.loadA (vs := [.bool (ng x7), s7]) (look_lit rfl) Try.isAgg25 Try.sizeOf25)) ?_
  refine sp rfl (px_load rfl (gw42.loadA (vs := [.bool false, a39]) (look_lit rfl) Try.isAgg25 Try.sizeOf25)) ?_
  have f59 := f11.chg cw10 (by omega)
  have f62 := ((f59.chg c18 (by omega)).ext c19).ext cb20
  have f63 := f62.chg cw22 (by omega)
  have f67 := (((f63.chg c33 (by omega)).chg c35 (by omega)).chg c37 (by omega)).ext cs38
  have f68 := f67.chg cw39 (by omega)
  have f69 := f68.chg cw42 (by omega)
  have f70 := nw39.chg cw42 (by omega)
  refine sx_call rfl rfl Try.call26 (c_sRatMake f69.sv f70.sv (by omega)) (fun v71 w71 p71 => ?_)
  obtain ⟨s71, t71, ls71, us71, lt71, ut71, rfl, os_71, ot_71, hd71, hl71, c71⟩ := p71
  have zw71 := c71.size
  refine mv rfl rfl (sp rfl (px_ex2 rfl rfl) ?_)
  refine sp rfl (px_ex2 rfl rfl) ?_
  refine sx_alloc [.bool false, (.slice none 0 0), (.slice none 0 0)] rfl Try.zeroValue27 rfl (fun b72 w73 eb72 sb72 fb72 cb72 => ?_)
  have zw73 := cb72.size
  have f75 := ot_71.ext cb72
  have f76 := os_71.ext cb72
  refine sx_store (vs := [.bool ((rMake (ng x7) (dg (x7).natAbs) false ((dg m35) ++ ([1 + x37]))).1), s71, t71]) rfl rfl fb72 rfl Try.sizeOf27 (nbl rfl) (one_cons rfl (one_cons f76.one (one_cons f75.one one_nil))) (fun w74 sw74 fw74 cw74 => ?_)
  have zw74 := cw74.size
  have gw74 : Blk w74 b72 [.bool ((rMake (ng x7) (dg (x7).natAbs) false ((dg m35) ++ ([1 + x37]))).1), s71, t71] 27 := fw74
  refine av rfl rfl (wl_nil (q_n (k48 _ _ ?_)))
  refine sx_seq fun K77 k77 => ?_
  refine sx_seq fun K78 k78 => sx_region ?_
  refine mv rfl rfl (sp rfl (px_not rfl) ?_)
  refine wl_nil (q_n (k78 _ _ ?_))
  have h146 : (!((rMake (ng x7) (dg (x7).natAbs) false ((dg m35) ++ ([1 + x37]))).2.2.2)) = false := by rw [hE]; rfl
  refine sx_condBF rfl h146 ?_
  refine sx_skip ?_
  refine q_n (k77 _ _ ?_)
  refine sx_seq fun K79 k79 => sx_region ?_
  refine sp rfl (px_load rfl (gw74.loadA (vs := [.bool ((rMake (ng x7) (dg (x7).natAbs) false ((dg m35) ++ ([1 + x37]))).1), s71, t71]) (look_lit rfl) Try.isAgg27 Try.sizeOf27)) ?_
  have f82 := (fb2.chg c7 (by omega)).ext cb8
  have f83 := f82.chg cw10 (by omega)
  have f86 := ((f83.chg c18 (by omega)).ext c19).ext cb20
  have f87 := f86.chg cw22 (by omega)
  have f91 := (((f87.chg c33 (by omega)).chg c35 (by omega)).chg c37 (by omega)).ext cs38
  have f92 := f91.chg cw39 (by omega)
  have f93 := f92.chg cw42 (by omega)
  have f95 := (f93.ext c71).ext cb72
  have f96 := f95.chg cw74 (by omega)
  have f97 := f75.chg cw74 (by omega)
  have f98 := f76.chg cw74 (by omega)
  refine sx_store (vs := [.bool ((rMake (ng x7) (dg (x7).natAbs) false ((dg m35) ++ ([1 + x37]))).1), s71, t71]) rfl rfl f96 rfl Try.sizeOf27 (nbl rfl) (one_cons rfl (one_cons f98.one (one_cons f97.one one_nil))) (fun w80 sw80 fw80 cw80 => ?_)
  have zw80 := cw80.size
  have gw80 : Blk w80 b2 [.bool ((rMake (ng x7) (dg (x7).natAbs) false ((dg m35) ++ ([1 + x37]))).1), s71, t71] 27 := fw80
  refine wl_nil (q_n (k79 _ _ ?_))
  refine sx_retc ?_
  refine sx_ret1 Try.results30 ⟨_, rfl, gw80.loadA (vs := [.bool ((rMake (ng x7) (dg (x7).natAbs) false ((dg m35) ++ ([1 + x37]))).1), s71, t71]) (look_lit rfl) Try.isAgg27 Try.sizeOf27⟩ ?_
  have f99 := f98.chg cw80 (by omega)
  have f100 := f97.chg cw80 (by omega)
  have hr1 := f99
  have hr2 := f100
  rw [hE] at hr1 hr2
  have f101 := xc_37.ext cs38
  have f102 := f101.chg cw39 (by omega)
  have f103 := f102.chg cw42 (by omega)
  have f105 := (f103.ext c71).ext cb72
  have f106 := f105.chg cw74 (by omega)
  have f107 := f106.chg cw80 (by omega)
  have q108 := Chg.step (l := c) (h := (c + 1)) (Chg.zero (l := c) (h := (c + 1)) cb2) c7 (by omega)
  have q109 := Chg.step (l := c) (h := (c + 1)) q108 cb8 (by omega)
  have q110 := Chg.step (l := c) (h := (c + 1)) q109 cw10 (by omega)
  have q111 := Chg.step (l := c) (h := (c + 1)) q110 c18 (by omega)
  have q112 := Chg.step (l := c) (h := (c + 1)) q111 (c19.t cb20) (by omega)
  have q113 := Chg.step (l := c) (h := (c + 1)) q112 cw22 (by omega)
  have q114 := Chg.step (l := c) (h := (c + 1)) q113 c33 (by omega)
  have q115 := Chg.step (l := c) (h := (c + 1)) q114 c35 (by omega)
  have q116 := Chg.step (l := c) (h := (c + 1)) q115 c37 (by omega)
  have q117 := Chg.step (l := c) (h := (c + 1)) q116 cs38 (by omega)
  have q118 := Chg.step (l := c) (h := (c + 1)) q117 cw39 (by omega)
  have q119 := Chg.step (l := c) (h := (c + 1)) q118 cw42 (by omega)
  have q120 := Chg.step (l := c) (h := (c + 1)) q119 (c71.t cb72) (by omega)
  have q121 := Chg.step (l := c) (h := (c + 1)) q120 cw74 (by omega)
  have q122 := Chg.step (l := c) (h := (c + 1)) q121 cw80 (by omega)
  exact ⟨_, _, _, _, _, _, X, E, _, _, by rw [hE], hr1, hr2, by omega, f107, hK, hX5, hE5, by omega, q122⟩
 refine sx_skip ?_
 refine q_n (k24 _ _ ?_)
 refine sx_seq fun K123 k123 => ?_
 have hz5 : 0 < (dg ((1 + x18)).toNat).length ∧ (dg ((1 + x18)).toNat).length ≤ 5 := ⟨len_pos.2 (by omega), Nat.le_trans (len_u64 (by omega)) (by decide)⟩
 obtain ⟨X, E, hE, hK, hX5, hE5⟩ := draw_rat (x := x7) (n2 := false) (zs := dg ((1 + x18)).toNat) (k := 5) (by omega) (by omega) (Lm_dg _) (dg_last _) hz5
 refine sx_region ?_
 have f126 := ((gw10.chg c18 (by omega)).ext c19).ext cb20
 have f127 := f126.chg cw22 (by omega)
 have f128 := f127.chg c33 (by omega)
 refine sp rfl (px_load rfl (f128.loadA (vs := [.bool (ng x7), s7]) (look_lit rfl) Try.isAgg25 Try.sizeOf25)) ?_
 have f129 := gw22.chg c33 (by omega)
 refine sp rfl (px_load rfl (f129.loadA (vs := [.bool false, v19]) (look_lit rfl) Try.isAgg25 Try.sizeOf25)) ?_
 have f130 := f11.chg cw10 (by omega)
 have f133 := ((f130.chg c18 (by omega)).ext c19).ext cb20
 have f134 := f133.chg cw22 (by omega)
 have f135 := f134.chg c33 (by omega)
 have f136 := f23.chg cw22 (by omega)
 have f137 := f136.chg c33 (by omega)
 refine sx_call rfl rfl Try.call26 (c_sRatMake f135.sv f137.sv (by omega)) (fun v138 w138 p138 => ?_)
 obtain ⟨s138, t138, ls138, us138, lt138, ut138, rfl, os_138, ot_138, hd138, hl138, c138⟩ := p138
 have zw138 := c138.size
 refine mv rfl rfl (sp rfl (px_ex2 rfl rfl) ?_)
 refine sp rfl (px_ex2 rfl rfl) ?_
 refine sx_alloc [.bool false, (.slice none 0 0), (.slice none 0 0)] rfl Try.zeroValue27 rfl (fun b139 w140 eb139 sb139 fb139 cb139 => ?_)
 have zw140 := cb139.size
 have f142 := ot_138.ext cb139
 have f143 := os_138.ext cb139
 refine sx_store (vs := [.bool ((rMake (ng x7) (dg (x7).natAbs) false (dg ((1 + x18)).toNat)).1), s138, t138]) rfl rfl fb139 rfl Try.sizeOf27 (nbl rfl) (one_cons rfl (one_cons f143.one (one_cons f142.one one_nil))) (fun w141 sw141 fw141 cw141 => ?_)
 have zw141 := cw141.size
 have gw141 : Blk w141 b139 [.bool ((rMake (ng x7) (dg (x7).natAbs) false (dg ((1 + x18)).toNat)).1), s138, t138] 27 := fw141
 refine av rfl rfl (wl_nil (q_n (k123 _ _ ?_)))
 refine sx_seq fun K144 k144 => ?_
 refine sx_seq fun K145 k145 => sx_region ?_
 refine mv rfl rfl (sp rfl (px_not rfl) ?_)
 refine wl_nil (q_n (k145 _ _ ?_))
 refine sx_sub (Sub.c 4 rfl (.c 7 rfl (.c 36 rfl .nil))) ?_
 have h146 : (!((rMake (ng x7) (dg (x7).natAbs) false (dg ((1 + x18)).toNat)).2.2.2)) = false := by rw [hE]; rfl
 refine sx_condBF rfl h146 ?_
 refine sx_skip ?_
 refine q_n (k144 _ _ ?_)
 refine sx_seq fun K146 k146 => sx_region ?_
 refine sp rfl (px_load rfl (gw141.loadA (vs := [.bool ((rMake (ng x7) (dg (x7).natAbs) false (dg ((1 + x18)).toNat)).1), s138, t138]) (look_lit rfl) Try.isAgg27 Try.sizeOf27)) ?_
 have f149 := (fb2.chg c7 (by omega)).ext cb8
 have f150 := f149.chg cw10 (by omega)
 have f153 := ((f150.chg c18 (by omega)).ext c19).ext cb20
 have f154 := f153.chg cw22 (by omega)
 have f157 := ((f154.chg c33 (by omega)).ext c138).ext cb139
 have f158 := f157.chg cw141 (by omega)
 have f159 := f142.chg cw141 (by omega)
 have f160 := f143.chg cw141 (by omega)
 refine sx_store (vs := [.bool ((rMake (ng x7) (dg (x7).natAbs) false (dg ((1 + x18)).toNat)).1), s138, t138]) rfl rfl f158 rfl Try.sizeOf27 (nbl rfl) (one_cons rfl (one_cons f160.one (one_cons f159.one one_nil))) (fun w147 sw147 fw147 cw147 => ?_)
 have zw147 := cw147.size
 have gw147 : Blk w147 b2 [.bool ((rMake (ng x7) (dg (x7).natAbs) false (dg ((1 + x18)).toNat)).1), s138, t138] 27 := fw147
 refine wl_nil (q_n (k146 _ _ ?_))
 refine sx_retc ?_
 refine sx_ret1 Try.results30 ⟨_, rfl, gw147.loadA (vs := [.bool ((rMake (ng x7) (dg (x7).natAbs) false (dg ((1 + x18)).toNat)).1), s138, t138]) (look_lit rfl) Try.isAgg27 Try.sizeOf27⟩ ?_
 have f161 := f160.chg cw147 (by omega)
 have f162 := f159.chg cw147 (by omega)
 have hr1 := f161
 have hr2 := f162
 rw [hE] at hr1 hr2
 have f164 := (xc_33.ext c138).ext cb139
 have f165 := f164.chg cw141 (by omega)
 have f166 := f165.chg cw147 (by omega)
 have q167 := Chg.step (l := c) (h := (c + 1)) (Chg.zero (l := c) (h := (c + 1)) cb2) c7 (by omega)
 have q168 := Chg.step (l := c) (h := (c + 1)) q167 cb8 (by omega)
 have q169 := Chg.step (l := c) (h := (c + 1)) q168 cw10 (by omega)
 have q170 := Chg.step (l := c) (h := (c + 1)) q169 c18 (by omega)
 have q171 := Chg.step (l := c) (h := (c + 1)) q170 (c19.t cb20) (by omega)
 have q172 := Chg.step (l := c) (h := (c + 1)) q171 cw22 (by omega)
 have q173 := Chg.step (l := c) (h := (c + 1)) q172 c33 (by omega)
 have q174 := Chg.step (l := c) (h := (c + 1)) q173 (c138.t cb139) (by omega)
 have q175 := Chg.step (l := c) (h := (c + 1)) q174 cw141 (by omega)
 have q176 := Chg.step (l := c) (h := (c + 1)) q175 cw147 (by omega)
 exact ⟨_, _, _, _, _, _, X, E, _, _, by rw [hE], hr1, hr2, by omega, f166, hK, hX5, hE5, by omega, q176⟩

theorem c_MakeNear {w : World} {vb : Value} {lvb uvb : Nat} {bs : List Int} (hvb : SlB w lvb uvb vb (bs)) (hb8 : ∀ j, j < bs.length → 0 ≤ bs.getD j 0 ∧ bs.getD j 0 ≤ 255) (hbl : bs.length ≤ 1048576) :
  Ret Try.prog 5 [vb] w fun v w' => ∃ s t ls us lt ut x e, v = .agg #[.bool (ng x), s, t] ∧ OwnI w' (ls) (us) s intT (dg (x).natAbs) ∧ OwnI w' (lt) (ut) t intT (dg e) ∧ (w.heap.size ≤ ls ∧ us ≤ w'.heap.size ∧ w.heap.size ≤ lt ∧ ut ≤ w'.heap.size ∧ (us ≤ lt ∨ ut ≤ ls)) ∧ (ROk (ng x) (dg (x).natAbs) (dg e)) ∧ ((dg (x).natAbs).length ≤ 5) ∧ ((dg e).length ≤ 5) ∧ Chg 0 0 w w' := by
 have hvb0 := hvb.fit
 refine sx_enter Try.func5 rfl Try.ntmps5 (nbl rfl) ?_
 refine sx_seq fun K1 k1 => sx_region ?_
 refine sx_alloc [.bool false, (.slice none 0 0), (.slice none 0 0)] rfl Try.zeroValue27 rfl (fun b2 w3 eb2 sb2 fb2 cb2 => ?_)
 have zw3 := cb2.size
 refine wl_nil (q_n (k1 _ _ ?_))
 refine sx_seq fun K4 k4 => sx_region ?_
 refine mv rfl rfl ?_
 have f5 := hvb0.ext cb2
 refine sx_call rfl rfl Try.call24 (c_l01New f5 (by assumption) (by omega)) (fun v6 w6 p6 => ?_)
 obtain ⟨c6, h26, rfl, xc_6, hh6, hc6, c6⟩ := p6
 have zw6 := c6.size
 refine av rfl rfl (wl_nil (q_n (k4 _ _ ?_)))
 refine sx_seq fun K7 k7 => ?_
 refine sx_seq fun K8 k8 => sx_region ?_
 refine mv rfl rfl ?_
 have f9 := f5.ext c6
 refine sx_call rfl rfl Try.call25 (c_l01Once xc_6 f9 (by assumption) (by omega) (by omega) (by omega) (by omega)) (fun v10 w10 p10 => ?_)
 obtain ⟨x10, i210, h210, rfl, xc_10, hx10, hi210, c10⟩ := p10
 have zw10 := c10.size
 refine wl_nil (q_n (k8 _ _ ?_))
 refine sx_condP rfl (fun h46 => ?_) (fun h46 => ?_)
 ·
  refine sx_seq fun K11 k11 => sx_region ?_
  refine mv rfl rfl ?_
  have f12 := f9.chg c10 (by omega)
  refine sx_call rfl rfl Try.call28 (c_l01Below xc_10 f12 (by assumption) (by omega) (by omega) (by omega) (by omega)) (fun v13 w13 p13 => ?_)
  obtain ⟨x13, i213, h213, rfl, xc_13, hx13, hi213, c13⟩ := p13
  have zw13 := c13.size
  refine sp rfl (px_sub rfl rfl (by omega)) ?_
  refine sx_call rfl rfl Try.call27 (c_sIntOf (by omega)) (fun v14 w14 p14 => ?_)
  obtain ⟨s14, rfl, os_14, c14⟩ := p14
  have zw14 := c14.size
  refine mv rfl rfl ?_
  refine sx_lit5 rfl xelt23 rfl rfl rfl rfl rfl rfl rfl rfl rfl rfl (fun s15 ws15 ss15 fs15 cs15 => ?_)
  have ns15 := Own.norm (f := (Value.int .i64)) (zs := [2, 2, 4, 3, 1]) fs15
  have zws15 := cs15.size
  have f17 := (xc_13.ext c14).ext cs15
  have f20 := ((f12.chg c13 (by omega)).ext c14).ext cs15
  refine sx_call rfl rfl Try.call29 (c_l01Pick f17 f20 ns15.sv (by assumption) (by omega) (by omega) (by omega) (by first | omega | simp) (by omega)) (fun v21 w21 p21 => ?_)
  obtain ⟨x21, i221, h221, rfl, xc_21, hx21, hi221, c21⟩ := p21
  have zw21 := c21.size
  have bx21 : 1 ≤ x21 ∧ x21 ≤ 4 := by have h9 := hx21; simp only [List.mem_cons, List.not_mem_nil, or_false] at h9; omega
  refine sx_call rfl rfl Try.call27 (c_sIntOf (by omega)) (fun v22 w22 p22 => ?_)
  obtain ⟨s22, rfl, os_22, c22⟩ := p22
  have zw22 := c22.size
  have hz5 : 0 < (dg (x21).natAbs).length ∧ (dg (x21).natAbs).length ≤ 5 := ⟨len_pos.2 (by omega), dg_len_le (by simp only [Bs]; omega)⟩
  have ha5 : (dg (x13 - 20).natAbs).length ≤ 5 := dg_len_le (by simp only [Bs]; omega)
  obtain ⟨X, E, hE, hK, hX5, hE5⟩ := draw_rat (x := x13 - 20) (n2 := ng x21) (zs := dg (x21).natAbs) (k := 5) (by omega) ha5 (Lm_dg _) (dg_last _) hz5
  have f23 := os_14.ext cs15
  have f25 := (f23.chg c21 (by omega)).ext c22
  refine sx_call rfl rfl Try.call26 (c_sRatMake f25.sv os_22.sv (by omega)) (fun v26 w26 p26 => ?_)
  obtain ⟨s26, t26, ls26, us26, lt26, ut26, rfl, os_26, ot_26, hd26, hl26, c26⟩ := p26
  have zw26 := c26.size
  refine mv rfl rfl (sp rfl (px_ex2 rfl rfl) ?_)
  refine sp rfl (px_ex2 rfl rfl) ?_
  refine sx_alloc [.bool false, (.slice none 0 0), (.slice none 0 0)] rfl Try.zeroValue27 rfl (fun b27 w28 eb27 sb27 fb27 cb27 => ?_)
  have zw28 := cb27.size
  have f30 := ot_26.ext cb27
  have f31 := os_26.ext cb27
  refine sx_store (vs := [.bool ((rMake (ng (x13 - 20)) (dg ((x13 - 20)).natAbs) (ng x21) (dg (x21).natAbs)).1), s26, t26]) rfl rfl fb27 rfl Try.sizeOf27 (nbl rfl) (one_cons rfl (one_cons f31.one (one_cons f30.one one_nil))) (fun w29 sw29 fw29 cw29 => ?_)
  have zw29 := cw29.size
  have gw29 : Blk w29 b27 [.bool ((rMake (ng (x13 - 20)) (dg ((x13 - 20)).natAbs) (ng x21) (dg (x21).natAbs)).1), s26, t26] 27 := fw29
  refine av rfl rfl (wl_nil (q_n (k11 _ _ ?_)))
  refine sx_sub (Sub.c 2 rfl (.c 3 rfl (.c 4 rfl .nil))) ?_
  refine sx_seq fun K32 k32 => sx_region ?_
  refine sp rfl (px_load rfl (gw29.loadA (vs := [.bool ((rMake (ng (x13 - 20)) (dg ((x13 - 20)).natAbs) (ng x21) (dg (x21).natAbs)).1), s26, t26]) (look_lit rfl) Try.isAgg27 Try.sizeOf27)) ?_
  have f38 := ((((fb2.ext c6).chg c10 (by omega)).chg c13 (by omega)).ext c14).ext cs15
  have f42 := (((f38.chg c21 (by omega)).ext c22).ext c26).ext cb27
  have f43 := f42.chg cw29 (by omega)
  have f44 := f30.chg cw29 (by omega)
  have f45 := f31.chg cw29 (by omega)
  refine sx_store (vs := [.bool ((rMake (ng (x13 - 20)) (dg ((x13 - 20)).natAbs) (ng x21) (dg (x21).natAbs)).1), s26, t26]) rfl rfl f43 rfl Try.sizeOf27 (nbl rfl) (one_cons rfl (one_cons f45.one (one_cons f44.one one_nil))) (fun w33 sw33 fw33 cw33 => ?_)
  have zw33 := cw33.size
  have gw33 : Blk w33 b2 [.bool ((rMake (ng (x13 - 20)) (dg ((x13 - 20)).natAbs) (ng x21) (dg (x21).natAbs)).1), s26, t26] 27 := fw33
  refine wl_nil (q_n (k32 _ _ ?_))
  refine sx_retc ?_
  refine q_r (sx_ret1 Try.results5 ⟨_, rfl, gw33.loadA (vs := [.bool ((rMake (ng (x13 - 20)) (dg ((x13 - 20)).natAbs) (ng x21) (dg (x21).natAbs)).1), s26, t26]) (look_lit rfl) Try.isAgg27 Try.sizeOf27⟩ ?_)
  have f46 := f45.chg cw33 (by omega)
  have f47 := f44.chg cw33 (by omega)
  have hr1 := f46
  have hr2 := f47
  rw [hE] at hr1 hr2
  have q48 := Chg.step (l := 0) (h := 0) (Chg.zero (l := 0) (h := 0) (cb2.t c6)) c10 (by omega)
  have q49 := Chg.step (l := 0) (h := 0) q48 c13 (by omega)
  have q50 := Chg.step (l := 0) (h := 0) q49 (c14.t cs15) (by omega)
  have q51 := Chg.step (l := 0) (h := 0) q50 c21 (by omega)
  have q52 := Chg.step (l := 0) (h := 0) q51 ((c22.t c26).t cb27) (by omega)
  have q53 := Chg.step (l := 0) (h := 0) q52 cw29 (by omega)
  have q54 := Chg.step (l := 0) (h := 0) q53 cw33 (by omega)
  exact ⟨_, _, _, _, _, _, X, E, by rw [hE], hr1, hr2, by omega, hK, hX5, hE5, q54⟩
 refine sx_skip ?_
 refine q_n (k7 _ _ ?_)
 refine sx_seq fun K55 k55 => sx_region ?_
 refine mv rfl rfl ?_
 have f56 := f9.chg c10 (by omega)
 refine sx_call rfl rfl Try.call30 (c_l05Draw xc_10 f56 (by assumption) (by omega) (by omega) (by omega) (by omega)) (fun v57 w57 p57 => ?_)
 obtain ⟨s57, t57, ls57, us57, lt57, ut57, x57, e57, i257, h257, rfl, os_57, ot_57, hd57, xc_57, hK57, hx557, he557, hi257, c57⟩ := p57
 have zw57 := c57.size
 have f61 := ((fb2.ext c6).chg c10 (by omega)).chg c57 (by omega)
 refine sx_store (vs := [.bool (ng x57), s57, t57]) rfl rfl f61 rfl Try.sizeOf27 (nbl rfl) (one_cons rfl (one_cons os_57.one (one_cons ot_57.one one_nil))) (fun w58 sw58 fw58 cw58 => ?_)
 have zw58 := cw58.size
 have gw58 : Blk w58 b2 [.bool (ng x57), s57, t57] 27 := fw58
 refine wl_nil (q_n (k55 _ _ ?_))
 refine sx_retc ?_
 refine sx_ret1 Try.results5 ⟨_, rfl, gw58.loadA (vs := [.bool (ng x57), s57, t57]) (look_lit rfl) Try.isAgg27 Try.sizeOf27⟩ ?_
 have q62 := Chg.step (l := 0) (h := 0) (Chg.zero (l := 0) (h := 0) (cb2.t c6)) c10 (by omega)
 have q63 := Chg.step (l := 0) (h := 0) q62 c57 (by omega)
 have q64 := Chg.step (l := 0) (h := 0) q63 cw58 (by omega)
 have f65 := os_57.chg cw58 (by omega)
 have f66 := ot_57.chg cw58 (by omega)
 exact ⟨_, _, _, _, _, _, _, _, rfl, f65, f66, by omega, by assumption, by assumption, by assumption, q64⟩

end Go.Proofs.Ytgmoahoocakpmaa
