/- Contracts of functions of the program: what each call returns, and that it changes nothing that was. Conditions: as each says. -/
import Derived.Test.YtjkeefmpjocilaaTy
import Derived.Test.YtjkeefmpjocilaaNatI
import Derived.Test.YtjkeefmpjocilaaSxW
import Derived.Test.YtjkeefmpjocilaaSxQ
import Derived.Test.YtjkeefmpjocilaaSxR
import Derived.Test.YtjkeefmpjocilaaSxP
import Derived.Test.YtjkeefmpjocilaaRm
import Derived.Test.YtjkeefmpjocilaaL0
import Derived.Test.YtjkeefmpjocilaaL1
import Derived.Test.YtjkeefmpjocilaaL2
import Derived.Test.YtjkeefmpjocilaaNatSk
set_option linter.unusedVariables false
set_option linter.unusedSimpArgs false
namespace Go.Proofs.Ytjkeefmpjocilaa
open Go Go.RowKit
set_option maxRecDepth 100000
theorem c_l01New {w : World} {vb : Value} {lvb uvb : Nat} {bs : List Int} (hvb : SlB w lvb uvb vb (bs)) (hb8 : ∀ j, j < bs.length → 0 ≤ bs.getD j 0 ∧ bs.getD j 0 ≤ 255) (hbl : bs.length ≤ 1048576) :
  Ret Try.prog 21 [vb] w fun v w' => ∃ c h2, v = .pointer (some ⟨c, 0, none⟩) ∧ Blk w' c [vb, .int .i64 (0), .int .i64 (h2)] 52 ∧ (0 ≤ h2 ∧ h2 ≤ 1073741823) ∧ (w.heap.size ≤ c ∧ c < w'.heap.size) ∧ Chg 0 0 w w' := by
 refine sx_enter Try.func21 rfl Try.ntmps21 (nbl rfl) ?_
 refine sx_seq fun K1 k1 => sx_region ?_
 refine av rfl rfl (wl_nil (q_n (k1 _ _ ?_)))
 refine sx_seq fun K2 k2 => sx_region ?_
 refine mv rfl rfl (sp rfl (px_len rfl Try.underlying22 hvb) ?_)
 refine sp rfl (px_add rfl rfl (by omega)) ?_
 refine av rfl rfl (wl_nil (q_n (k2 _ _ ?_)))
 refine sx_seq fun K3 k3 => ?_
 refine sx_seq fun K4 k4 => sx_region ?_
 refine av rfl rfl (wl_nil (q_n (k4 _ _ ?_)))
 refine sx_block ?_
 refine sx_loop (fun mm aa w' => ∃ (k : Nat) (h : Int), Agr 32 [(0, vb), (3, .int .i64 h), (4, .int .i64 ↑k)] aa ∧ Chg 0 0 w w' ∧ (mm = bs.length - k) ∧ (k ≤ bs.length) ∧ (0 ≤ h ∧ h ≤ 1073741823)) (_) (fun a ha => ⟨0, (1616 + (bs.length : Int)), ha.sub (Sub.c 0 rfl (.c 3 (look_int (t := 3) rfl (by first | omega | simp)) (.c 4 (look_int (t := 4) rfl (by first | omega | simp)) .nil))), Chg.refl _ _ _, rfl, by omega, by omega⟩) ?_
 rintro mm aa wl5 ⟨k, h, hAwl5, cwl5, hm, hk, hh⟩
 refine (show cw Try.prog 32 _ _ _ wl5 from ?_) aa hAwl5
 clear hAwl5
 have zwl5 := cwl5.size
 have hv8 := hb8 k
 refine sx_seq fun K6 k6 => ?_
 refine sx_seq fun K7 k7 => sx_region ?_
 refine mv rfl rfl (mv rfl rfl ?_)
 have f8 := hvb.ext cwl5
 refine sp rfl (px_len rfl Try.underlying22 f8) ?_
 refine sp rfl (px_lt rfl rfl) ?_
 refine mv rfl rfl ?_
 refine sx_tmpP (t := 12) rfl (fun h135 => ?_) (fun h135 => ?_)
 ·
  refine sx_guardT rfl rfl rfl ?_
  refine mv rfl rfl ?_
  refine sx_guardT rfl rfl rfl ?_
  refine sp rfl (px_lt rfl rfl) ?_
  refine sp rfl (px_pick rfl rfl) ?_
  refine wl_nil (q_n (k7 _ _ ?_))
  refine sx_condP rfl (fun h135x1 => ?_) (fun h135x1 => ?_)
  ·
   refine sx_skip ?_
   refine q_n (k6 _ _ ?_)
   refine sx_seq fun K9 k9 => ?_
   refine sx_block ?_
   refine sx_region ?_
   refine mv rfl rfl (sp rfl (px_mul rfl rfl (by omega)) ?_)
   refine mv rfl rfl (mv rfl rfl (sp rfl (px_index1 (j := k) rfl rfl (by omega) Try.underlying22 Try.sizeOf5 f8 (by omega)) ?_))
   refine sp rfl (px_load rfl (f8.load1 (at_u8 (by omega)) Try.isAgg5)) ?_
   refine sp rfl (px_conv8 Try.underlying5 Try.underlying3 rfl (hb8 _ (by omega))) ?_
   refine sp rfl (px_add rfl rfl (by omega)) ?_
   refine sp rfl (px_add rfl rfl (by omega)) ?_
   have hm10 := andI_mask (((h * 41) + ((bs).getD k 0)) + 7) (m := 1073741823) (by decide) (by decide)
   refine sp rfl (px_andW rfl rfl) ?_
   refine av rfl rfl (wl_nil ?_)
   refine q_bn (q_n (k9 _ _ ?_))
   refine sx_sub (Sub.c 0 rfl (.c 3 rfl (.c 4 rfl .nil))) ?_
   refine sx_region ?_
   refine mv rfl rfl (sp rfl (px_add rfl rfl (by omega)) ?_)
   refine av rfl rfl (wl_nil ?_)
   exact fun a ha => ⟨_, by omega, (k + 1), (andI (((h * 41) + ((bs).getD k 0)) + 7) 1073741823), ha.sub (Sub.c 0 rfl (.c 3 (look_int (t := 3) rfl (by first | omega | simp)) (.c 4 (look_int (t := 4) rfl (by first | omega | simp)) .nil))), cwl5, rfl, by omega, by omega⟩
  refine sx_exit ?_
  refine q_e (q_e (q_bx (q_n (k3 _ _ ?_))))
  refine sx_seq fun K11 k11 => sx_region ?_
  refine mv rfl rfl (mv rfl rfl (sp rfl (px_build rfl (xbld52x0x2 f8.one rfl _)) ?_))
  refine sx_box [vb, .int .i64 0, .int .i64 h] rfl rfl rfl (fun b12 w13 eb12 sb12 fb12 cb12 => ?_)
  have zw13 := cb12.size
  refine av rfl rfl (wl_nil (q_n (k11 _ _ ?_)))
  refine sx_sub (Sub.c 2 rfl .nil) ?_
  refine sx_retc ?_
  refine sx_ret1 Try.results21 rfl ?_
  exact ⟨_, _, rfl, fb12, by omega, by omega, (cwl5.t cb12)⟩
 refine sx_guardF rfl rfl rfl rfl rfl rfl ?_
 refine sx_guardF rfl rfl rfl rfl rfl rfl ?_
 refine sp rfl (px_pick rfl rfl) ?_
 refine wl_nil (q_n (k7 _ _ ?_))
 refine sx_condF rfl ?_
 refine sx_exit ?_
 refine q_e (q_e (q_bx (q_n (k3 _ _ ?_))))
 refine sx_seq fun K14 k14 => sx_region ?_
 refine mv rfl rfl (mv rfl rfl (sp rfl (px_build rfl (xbld52x0x2 f8.one rfl _)) ?_))
 refine sx_box [vb, .int .i64 0, .int .i64 h] rfl rfl rfl (fun b15 w16 eb15 sb15 fb15 cb15 => ?_)
 have zw16 := cb15.size
 refine av rfl rfl (wl_nil (q_n (k14 _ _ ?_)))
 refine sx_sub (Sub.c 2 rfl .nil) ?_
 refine sx_retc ?_
 refine sx_ret1 Try.results21 rfl ?_
 exact ⟨_, _, rfl, fb15, by omega, by omega, (cwl5.t cb15)⟩

theorem c_l01Byte {w : World} {c : Nat} {vb : Value} {lvb uvb : Nat} {bs : List Int} {i : Int} {h : Int} (hc : Blk w c [vb, .int .i64 i, .int .i64 h] 52) (hvb : SlB w lvb uvb vb (bs)) (hb8 : ∀ j, j < bs.length → 0 ≤ bs.getD j 0 ∧ bs.getD j 0 ≤ 255) (hbl : bs.length ≤ 1048576) (hi : 0 ≤ i ∧ i ≤ bs.length) (hdis : uvb ≤ c) :
  Ret Try.prog 81 [.pointer (some ⟨c, 0, none⟩)] w fun v w' => ∃ x i2 h2, v = .int .i64 (x) ∧ Blk w' c [vb, .int .i64 (i2), .int .i64 (h2)] 52 ∧ (0 ≤ x ∧ x ≤ 255) ∧ (0 ≤ i2 ∧ i2 ≤ (bs).length) ∧ Chg c (c + 1) w w' := by
 have clt := hc.lt
 refine sx_enter Try.func81 rfl Try.ntmps81 (nbl rfl) ?_
 refine sx_seq fun K1 k1 => sx_region ?_
 refine av rfl rfl (wl_nil (q_n (k1 _ _ ?_)))
 refine sx_seq fun K2 k2 => sx_region ?_
 refine mv rfl rfl (mv rfl rfl (sp rfl (px_nil rfl) ?_))
 refine sp rfl (px_field rfl xfld52x2) ?_
 refine sp rfl (px_load rfl (hc.load1 rfl Try.isAgg3)) ?_
 refine sp rfl (px_mulW rfl rfl) ?_
 refine sp rfl (px_addW rfl rfl) ?_
 refine sp rfl (px_nil rfl) ?_
 refine sp rfl (px_field rfl xfld52x2) ?_
 refine sx_store (vs := [.int .i64 (i64w ((i64w (h * 6364136223846793005)) + 1442695040888963407))]) rfl rfl hc rfl Try.sizeOf3 (nbl rfl) (o1 rfl) (fun w3 sw3 fw3 cw3 => ?_)
 have zw3 := cw3.size
 have gw3 : Blk w3 c [vb, .int .i64 i, .int .i64 (i64w ((i64w (h * 6364136223846793005)) + 1442695040888963407))] 52 := fw3
 refine wl_nil (q_n (k2 _ _ ?_))
 refine sx_seq fun K4 k4 => ?_
 have f5 := hvb.chg cw3 (by omega)
 refine dx_region (fun w' => Chg 0 0 w3 w') (by kernel_rfl) (Chg.zero (Chg.drew _)) ?_
 have d6 := Chg.drew w3
 have s6 : Chg 0 0 w3 (World.drew w3) := Chg.zero (Chg.drew _)
 have y6 : (World.drew w3).heap.size = w3.heap.size := rfl
 generalize World.drew w3 = w6 at *
 have zw6 := d6.size
 refine dt 0 rfl rfl rfl rfl s6 (fun _ hS => px_move rfl) ?_
 refine dt 1 rfl rfl rfl rfl s6 (fun _ hS => px_nil rfl) ?_
 refine dt 2 rfl rfl rfl rfl s6 (fun _ hS => px_field rfl xfld52x2) ?_
 refine dt 3 rfl rfl rfl rfl s6 (fun _ hS => px_load rfl ((gw3.chg hS (by omega)).load1 rfl Try.isAgg3)) ?_
 refine dt 4 rfl rfl rfl rfl s6 (fun _ hS => px_shrW rfl rfl (by decide)) ?_
 refine dt 5 rfl rfl rfl rfl s6 (fun _ hS => px_move rfl) ?_
 refine dt 6 rfl rfl rfl rfl s6 (fun _ hS => px_nil rfl) ?_
 refine dt 7 rfl rfl rfl rfl s6 (fun _ hS => px_field rfl xfld52x2) ?_
 refine dt 8 rfl rfl rfl rfl s6 (fun _ hS => px_load rfl ((gw3.chg hS (by omega)).load1 rfl Try.isAgg3)) ?_
 refine dt 9 rfl rfl rfl rfl s6 (fun _ hS => px_shrW rfl rfl (by decide)) ?_
 refine dt 10 rfl rfl rfl rfl s6 (fun _ hS => px_xorW rfl rfl) ?_
 have hm7 := andI_mask (xorI ((i64w ((i64w (h * 6364136223846793005)) + 1442695040888963407)).fdiv (2 ^ min (33 : Int).toNat 64)) ((i64w ((i64w (h * 6364136223846793005)) + 1442695040888963407)).fdiv (2 ^ min (45 : Int).toNat 64))) (m := 255) (by decide) (by decide)
 refine dt 11 rfl rfl rfl rfl s6 (fun _ hS => px_andW rfl rfl) ?_
 refine dt 12 rfl rfl rfl rfl s6 (fun _ hS => px_assign rfl) ?_
 refine dx_done (by kernel_rfl) ?_
 refine q_n (k4 _ _ ?_)
 refine sx_sub (Sub.c 0 rfl (.c 2 rfl (.c 3 rfl .nil))) ?_
 refine sx_seq fun K8 k8 => ?_
 refine sx_seq fun K9 k9 => ?_
 have f10 := gw3.ext d6
 have f11 := f5.ext d6
 refine dx_region (fun w' => Chg 0 0 w6 w') (by kernel_rfl) (Chg.zero (Chg.drew _)) ?_
 have d12 := Chg.drew w6
 have s12 : Chg 0 0 w6 (World.drew w6) := Chg.zero (Chg.drew _)
 have y12 : (World.drew w6).heap.size = w6.heap.size := rfl
 generalize World.drew w6 = w12 at *
 have zw12 := d12.size
 refine dt 0 rfl rfl rfl rfl s12 (fun _ hS => px_move rfl) ?_
 refine dt 1 rfl rfl rfl rfl s12 (fun _ hS => px_nil rfl) ?_
 refine dt 2 rfl rfl rfl rfl s12 (fun _ hS => px_field rfl xfld52x1) ?_
 refine dt 3 rfl rfl rfl rfl s12 (fun _ hS => px_load rfl ((f10.chg hS (by omega)).load1 rfl Try.isAgg3)) ?_
 refine dt 4 rfl rfl rfl rfl s12 (fun _ hS => px_move rfl) ?_
 refine dt 5 rfl rfl rfl rfl s12 (fun _ hS => px_nil rfl) ?_
 refine dt 6 rfl rfl rfl rfl s12 (fun _ hS => px_field rfl xfld52x0) ?_
 refine dt 7 rfl rfl rfl rfl s12 (fun _ hS => px_load rfl ((f10.chg hS (by omega)).load1 rfl Try.isAgg22)) ?_
 refine dt 8 rfl rfl rfl rfl s12 (fun _ hS => px_len rfl Try.underlying22 ((f11).chg hS (by omega))) ?_
 refine dt 9 rfl rfl rfl rfl s12 (fun _ hS => px_lt rfl rfl) ?_
 refine dx_done (by kernel_rfl) ?_
 refine q_n (k9 _ _ ?_)
 refine sx_condP rfl (fun h144 => ?_) (fun h144 => ?_)
 ·
  refine sx_seq fun K13 k13 => ?_
  have f14 := f10.ext d12
  have f15 := f11.ext d12
  refine dx_region (fun w' => Chg 0 0 w12 w') (by kernel_rfl) (Chg.zero (Chg.drew _)) ?_
  have d16 := Chg.drew w12
  have s16 : Chg 0 0 w12 (World.drew w12) := Chg.zero (Chg.drew _)
  have y16 : (World.drew w12).heap.size = w12.heap.size := rfl
  generalize World.drew w12 = w16 at *
  have zw16 := d16.size
  refine dt 0 rfl rfl rfl rfl s16 (fun _ hS => px_move rfl) ?_
  refine dt 1 rfl rfl rfl rfl s16 (fun _ hS => px_move rfl) ?_
  refine dt 2 rfl rfl rfl rfl s16 (fun _ hS => px_nil rfl) ?_
  refine dt 3 rfl rfl rfl rfl s16 (fun _ hS => px_field rfl xfld52x0) ?_
  refine dt 4 rfl rfl rfl rfl s16 (fun _ hS => px_load rfl ((f14.chg hS (by omega)).load1 rfl Try.isAgg22)) ?_
  refine dt 5 rfl rfl rfl rfl s16 (fun _ hS => px_move rfl) ?_
  refine dt 6 rfl rfl rfl rfl s16 (fun _ hS => px_nil rfl) ?_
  refine dt 7 rfl rfl rfl rfl s16 (fun _ hS => px_field rfl xfld52x1) ?_
  refine dt 8 rfl rfl rfl rfl s16 (fun _ hS => px_load rfl ((f14.chg hS (by omega)).load1 rfl Try.isAgg3)) ?_
  refine dt 9 rfl rfl rfl rfl s16 (fun _ hS => px_index1 (j := i.toNat) rfl rfl (by omega) Try.underlying22 Try.sizeOf5 ((f15).chg hS (by omega)) (by omega)) ?_
  refine dt 10 rfl rfl rfl rfl s16 (fun _ hS => px_load rfl (((f15).chg hS (by omega)).load1 (at_u8 (by omega)) Try.isAgg5)) ?_
  refine dt 11 rfl rfl rfl rfl s16 (fun _ hS => px_conv8 Try.underlying5 Try.underlying3 rfl (hb8 _ (by omega))) ?_
  refine dt 12 rfl rfl rfl rfl s16 (fun _ hS => px_addW rfl rfl) ?_
  have hm17 := andI_mask (i64w ((andI (xorI ((i64w ((i64w (h * 6364136223846793005)) + 1442695040888963407)).fdiv (2 ^ min (33 : Int).toNat 64)) ((i64w ((i64w (h * 6364136223846793005)) + 1442695040888963407)).fdiv (2 ^ min (45 : Int).toNat 64))) 255) + ((bs).getD i.toNat 0))) (m := 255) (by decide) (by decide)
  refine dt 13 rfl rfl rfl rfl s16 (fun _ hS => px_andW rfl rfl) ?_
  refine dt 14 rfl rfl rfl rfl s16 (fun _ hS => px_assign rfl) ?_
  refine dx_done (by kernel_rfl) ?_
  refine q_n (k13 _ _ ?_)
  refine sx_sub (Sub.c 0 rfl (.c 2 rfl (.c 3 rfl .nil))) ?_
  refine sx_region ?_
  refine mv rfl rfl (mv rfl rfl (sp rfl (px_nil rfl) ?_))
  refine sp rfl (px_field rfl xfld52x1) ?_
  have f18 := f14.ext d16
  refine sp rfl (px_load rfl (f18.load1 rfl Try.isAgg3)) ?_
  refine sp rfl (px_add rfl rfl (by omega)) ?_
  refine sp rfl (px_nil rfl) ?_
  refine sp rfl (px_field rfl xfld52x1) ?_
  refine sx_store (vs := [.int .i64 (i + 1)]) rfl rfl f18 rfl Try.sizeOf3 (nbl rfl) (o1 rfl) (fun w19 sw19 fw19 cw19 => ?_)
  have zw19 := cw19.size
  have gw19 : Blk w19 c [vb, .int .i64 (i + 1), .int .i64 (i64w ((i64w (h * 6364136223846793005)) + 1442695040888963407))] 52 := fw19
  refine wl_nil (q_n (k8 _ _ ?_))
  refine sx_seq fun K20 k20 => sx_region ?_
  refine mv rfl rfl (av rfl rfl (wl_nil (q_n (k20 _ _ ?_))))
  refine sx_retc ?_
  refine sx_ret1 Try.results81 rfl ?_
  have q21 := Chg.step (l := c) (h := (c + 1)) cw3 ((d6.t d12).t d16) (by omega)
  have q22 := Chg.step (l := c) (h := (c + 1)) q21 cw19 (by omega)
  exact ⟨_, _, _, rfl, gw19, by omega, by omega, q22⟩
 refine sx_skip ?_
 refine q_n (k8 _ _ ?_)
 refine sx_seq fun K23 k23 => sx_region ?_
 refine mv rfl rfl (av rfl rfl (wl_nil (q_n (k23 _ _ ?_))))
 refine sx_retc ?_
 refine sx_ret1 Try.results81 rfl ?_
 have f24 := f10.ext d12
 have q25 := Chg.step (l := c) (h := (c + 1)) cw3 (d6.t d12) (by omega)
 exact ⟨_, _, _, rfl, f24, by omega, by omega, q25⟩

theorem c_l01Below {w : World} {c : Nat} {vb : Value} {lvb uvb : Nat} {bs : List Int} {i : Int} {h : Int} {n : Int} (hc : Blk w c [vb, .int .i64 i, .int .i64 h] 52) (hvb : SlB w lvb uvb vb (bs)) (hb8 : ∀ j, j < bs.length → 0 ≤ bs.getD j 0 ∧ bs.getD j 0 ≤ 255) (hbl : bs.length ≤ 1048576) (hi : 0 ≤ i ∧ i ≤ bs.length) (hdis : uvb ≤ c) (hn : 1 ≤ n ∧ n ≤ 1000000000) :
  Ret Try.prog 54 [.pointer (some ⟨c, 0, none⟩), .int .i64 n] w fun v w' => ∃ x i2 h2, v = .int .i64 (x) ∧ Blk w' c [vb, .int .i64 (i2), .int .i64 (h2)] 52 ∧ (0 ≤ x ∧ x < n) ∧ (0 ≤ i2 ∧ i2 ≤ (bs).length) ∧ Chg c (c + 1) w w' := by
 have clt := hc.lt
 refine sx_enter Try.func54 rfl Try.ntmps54 (nbl rfl) ?_
 refine sx_seq fun K1 k1 => sx_region ?_
 refine av rfl rfl (wl_nil (q_n (k1 _ _ ?_)))
 refine sx_seq fun K2 k2 => ?_
 refine sx_seq fun K3 k3 => sx_region ?_
 refine mv rfl rfl (sp rfl (px_le rfl rfl) ?_)
 refine wl_nil (q_n (k3 _ _ ?_))
 have h153 : ¬ ((n : Int) ≤ 0) := by omega
 refine sx_condPF rfl h153 ?_
 refine sx_skip ?_
 refine q_n (k2 _ _ ?_)
 refine sx_seq fun K4 k4 => ?_
 refine sx_seq fun K5 k5 => sx_region ?_
 refine mv rfl rfl (sp rfl (px_le rfl rfl) ?_)
 refine wl_nil (q_n (k5 _ _ ?_))
 refine sx_condP rfl (fun h156 => ?_) (fun h156 => ?_)
 ·
  refine sx_seq fun K6 k6 => sx_region ?_
  refine mv rfl rfl (sx_call rfl rfl Try.call81 (c_l01Byte hc hvb (by assumption) (by omega) (by omega) (by omega)) (fun v7 w7 p7 => ?_))
  obtain ⟨x7, i27, h27, rfl, xc_7, hx7, hi27, c7⟩ := p7
  have zw7 := c7.size
  refine mv rfl rfl (sp rfl (px_rem rfl rfl (by omega) (by omega)) ?_)
  refine av rfl rfl (wl_nil (q_n (k6 _ _ ?_)))
  refine sx_retc ?_
  refine q_r (sx_ret1 Try.results54 rfl ?_)
  have hmp := Int.emod_nonneg x7 (show n ≠ 0 by omega)
  have hml := Int.emod_lt_of_pos x7 (show 0 < n by omega)
  exact ⟨_, _, _, rfl, xc_7, by omega, by omega, c7⟩
 refine sx_skip ?_
 refine q_n (k4 _ _ ?_)
 refine sx_seq fun K8 k8 => sx_region ?_
 refine mv rfl rfl (sx_call rfl rfl Try.call81 (c_l01Byte hc hvb (by assumption) (by omega) (by omega) (by omega)) (fun v9 w9 p9 => ?_))
 obtain ⟨x9, i29, h29, rfl, xc_9, hx9, hi29, c9⟩ := p9
 have zw9 := c9.size
 refine av rfl rfl (wl_nil (q_n (k8 _ _ ?_)))
 refine sx_seq fun K10 k10 => sx_region ?_
 refine mv rfl rfl ?_
 have f11 := hvb.chg c9 (by omega)
 refine sx_call rfl rfl Try.call81 (c_l01Byte xc_9 f11 (by assumption) (by omega) (by omega) (by omega)) (fun v12 w12 p12 => ?_)
 obtain ⟨x12, i212, h212, rfl, xc_12, hx12, hi212, c12⟩ := p12
 have zw12 := c12.size
 refine av rfl rfl (wl_nil (q_n (k10 _ _ ?_)))
 refine sx_seq fun K13 k13 => sx_region ?_
 refine mv rfl rfl ?_
 have f14 := f11.chg c12 (by omega)
 refine sx_call rfl rfl Try.call81 (c_l01Byte xc_12 f14 (by assumption) (by omega) (by omega) (by omega)) (fun v15 w15 p15 => ?_)
 obtain ⟨x15, i215, h215, rfl, xc_15, hx15, hi215, c15⟩ := p15
 have zw15 := c15.size
 refine av rfl rfl (wl_nil (q_n (k13 _ _ ?_)))
 refine sx_sub (Sub.c 0 rfl (.c 1 rfl (.c 4 rfl (.c 5 rfl (.c 6 rfl (.c 7 rfl .nil)))))) ?_
 refine sx_seq fun K16 k16 => sx_region ?_
 refine mv rfl rfl ?_
 have f17 := f14.chg c15 (by omega)
 refine sx_call rfl rfl Try.call81 (c_l01Byte xc_15 f17 (by assumption) (by omega) (by omega) (by omega)) (fun v18 w18 p18 => ?_)
 obtain ⟨x18, i218, h218, rfl, xc_18, hx18, hi218, c18⟩ := p18
 have zw18 := c18.size
 refine av rfl rfl (wl_nil (q_n (k16 _ _ ?_)))
 refine sx_seq fun K19 k19 => sx_region ?_
 refine mv rfl rfl (sp rfl (px_mul rfl rfl (by omega)) ?_)
 refine mv rfl rfl (sp rfl (px_mul rfl rfl (by omega)) ?_)
 refine sp rfl (px_add rfl rfl (by omega)) ?_
 refine mv rfl rfl (sp rfl (px_mul rfl rfl (by omega)) ?_)
 refine sp rfl (px_add rfl rfl (by omega)) ?_
 refine mv rfl rfl (sp rfl (px_add rfl rfl (by omega)) ?_)
 refine mv rfl rfl (sp rfl (px_rem rfl rfl (by omega) (by omega)) ?_)
 refine av rfl rfl (wl_nil (q_n (k19 _ _ ?_)))
 refine sx_sub (Sub.c 4 rfl .nil) ?_
 refine sx_retc ?_
 refine sx_ret1 Try.results54 rfl ?_
 have hmp := Int.emod_nonneg ((((x9 * 16777216) + (x12 * 65536)) + (x15 * 256)) + x18) (show n ≠ 0 by omega)
 have hml := Int.emod_lt_of_pos ((((x9 * 16777216) + (x12 * 65536)) + (x15 * 256)) + x18) (show 0 < n by omega)
 have q20 := Chg.step (l := c) (h := (c + 1)) c9 c12 (by omega)
 have q21 := Chg.step (l := c) (h := (c + 1)) q20 c15 (by omega)
 have q22 := Chg.step (l := c) (h := (c + 1)) q21 c18 (by omega)
 exact ⟨_, _, _, rfl, xc_18, by omega, by omega, q22⟩

theorem c_l01Once {w : World} {c : Nat} {vb : Value} {lvb uvb : Nat} {bs : List Int} {i : Int} {h : Int} {n : Int} (hc : Blk w c [vb, .int .i64 i, .int .i64 h] 52) (hvb : SlB w lvb uvb vb (bs)) (hb8 : ∀ j, j < bs.length → 0 ≤ bs.getD j 0 ∧ bs.getD j 0 ≤ 255) (hbl : bs.length ≤ 1048576) (hi : 0 ≤ i ∧ i ≤ bs.length) (hdis : uvb ≤ c) (hn : 1 ≤ n ∧ n ≤ 1000000000) :
  Ret Try.prog 60 [.pointer (some ⟨c, 0, none⟩), .int .i64 n] w fun v w' => ∃ x i2 h2, v = .bool (decide ((x : Int) = 0)) ∧ Blk w' c [vb, .int .i64 (i2), .int .i64 (h2)] 52 ∧ (0 ≤ x ∧ x < n) ∧ (0 ≤ i2 ∧ i2 ≤ (bs).length) ∧ Chg c (c + 1) w w' := by
 have clt := hc.lt
 refine sx_enter Try.func60 rfl Try.ntmps60 (nbl rfl) ?_
 refine sx_seq fun K1 k1 => sx_region ?_
 refine av rfl rfl (wl_nil (q_n (k1 _ _ ?_)))
 refine sx_seq fun K2 k2 => sx_region ?_
 refine mv rfl rfl (mv rfl rfl (sx_call rfl rfl Try.call54 (c_l01Below hc hvb (by assumption) (by omega) (by omega) (by omega) (by omega)) (fun v3 w3 p3 => ?_)))
 obtain ⟨x3, i23, h23, rfl, xc_3, hx3, hi23, c3⟩ := p3
 have zw3 := c3.size
 refine sp rfl (px_eq rfl rfl) ?_
 refine av rfl rfl (wl_nil (q_n (k2 _ _ ?_)))
 refine sx_retc ?_
 refine sx_ret1 Try.results60 rfl ?_
 exact ⟨_, _, _, rfl, xc_3, by omega, by omega, c3⟩

theorem c_l02Trim {w : World} {va : Value} {lva uva : Nat} {zs : List Int} (hva : OwnI w lva uva va intT (zs)) (hz : Lm zs) (h63 : zs.length ≤ 1000000) :
  Ret Try.prog 86 [va] w fun v w' => ∃ s, v = s ∧ OwnI w' (lva) (uva) s intT (dg (vl zs)) ∧ Chg 0 0 w w' := by
 refine sx_enter Try.func86 rfl Try.ntmps86 (nbl rfl) ?_
 refine sx_seq fun K1 k1 => sx_region ?_
 refine av rfl rfl (wl_nil (q_n (k1 _ _ ?_)))
 refine sx_seq fun K2 k2 => sx_region ?_
 refine mv rfl rfl (sp rfl (px_len rfl Try.underlying23 hva.sv) ?_)
 refine av rfl rfl (wl_nil (q_n (k2 _ _ ?_)))
 refine sx_seq fun K3 k3 => ?_
 refine sx_block ?_
 refine sx_loop (fun mm aa w' => ∃ (k : Nat), Agr 21 [(0, va), (3, .int .i64 ↑k)] aa ∧ Chg 0 0 w w' ∧ (mm = k) ∧ (k ≤ zs.length) ∧ (vl (zs.take k) = vl zs)) (_) (fun a ha => ⟨zs.length, ha.sub (Sub.c 0 rfl (.c 3 (look_int (t := 3) rfl (by first | omega | simp)) .nil)), Chg.refl _ _ _, rfl, by omega, vl_take_all zs⟩) ?_
 rintro mm aa wl4 ⟨k, hAwl4, cwl4, hm, hk, hv⟩
 refine (show cw Try.prog 21 _ _ _ wl4 from ?_) aa hAwl4
 clear hAwl4
 have zwl4 := cwl4.size
 refine sx_seq fun K5 k5 => ?_
 refine sx_seq fun K6 k6 => sx_region ?_
 refine mv rfl rfl (sp rfl (px_gt rfl rfl) ?_)
 refine mv rfl rfl ?_
 refine sx_tmpP (t := 8) rfl (fun h17 => ?_) (fun h17 => ?_)
 ·
  refine sx_guardT rfl rfl rfl ?_
  refine mv rfl rfl ?_
  refine sx_guardT rfl rfl rfl ?_
  refine mv rfl rfl ?_
  refine sx_guardT rfl rfl rfl ?_
  refine sp rfl (px_sub rfl rfl (by omega)) ?_
  refine sx_guardT rfl rfl rfl ?_
  have f7 := hva.ext cwl4
  refine sp rfl (px_index1 (j := (k - 1)) rfl rfl (by omega) Try.underlying23 Try.sizeOf3 f7.sv (by omega)) ?_
  refine sx_guardT rfl rfl rfl ?_
  refine sp rfl (px_load rfl (f7.sv.load1 (at_int (by omega)) Try.isAgg3)) ?_
  refine sx_guardT rfl rfl rfl ?_
  refine sp rfl (px_eq rfl rfl) ?_
  refine sp rfl (px_pick rfl rfl) ?_
  refine wl_nil (q_n (k6 _ _ ?_))
  refine sx_condP rfl (fun h17x1 => ?_) (fun h17x1 => ?_)
  ·
   refine sx_skip ?_
   refine q_n (k5 _ _ ?_)
   refine sx_block ?_
   refine sx_region ?_
   refine mv rfl rfl (sp rfl (px_sub rfl rfl (by omega)) ?_)
   refine av rfl rfl (wl_nil ?_)
   exact q_bn (fun a ha => ⟨_, by omega, (k - 1), ha.sub (Sub.c 0 rfl (.c 3 (look_int (t := 3) rfl (by first | omega | simp)) .nil)), cwl4, rfl, by omega, trim_step (by omega) hk (by rw [getD_take (by omega)]; exact h17x1) hv⟩)
  refine sx_exit ?_
  refine q_e (q_e (q_bx (q_n (k3 _ _ ?_))))
  refine sx_seq fun K8 k8 => sx_region ?_
  refine mv rfl rfl (mv rfl rfl (sp rfl (px_sliceTo (h := k) rfl rfl (by omega) Try.underlying23 Try.sizeOf3 f7.sv (by omega)) ?_))
  refine av rfl rfl (wl_nil (q_n (k8 _ _ ?_)))
  refine sx_sub (Sub.c 2 rfl .nil) ?_
  refine sx_retc ?_
  refine sx_ret1 Try.results86 rfl ?_
  have hd := trim_done hz hk hv (by first | exact .inl (by omega) | exact .inr (by rw [getD_take (by omega)]; assumption))
  rw [← hd]
  exact ⟨_, rfl, (Own.takeI f7 (h := k) (by omega)), cwl4⟩
 refine sx_guardF rfl rfl rfl rfl rfl rfl ?_
 refine sx_guardF rfl rfl rfl rfl rfl rfl ?_
 refine sx_guardF rfl rfl rfl rfl rfl rfl ?_
 refine sx_guardF rfl rfl rfl rfl rfl rfl ?_
 refine sx_guardF rfl rfl rfl rfl rfl rfl ?_
 refine sx_guardF rfl rfl rfl rfl rfl rfl ?_
 refine sp rfl (px_pick rfl rfl) ?_
 refine wl_nil (q_n (k6 _ _ ?_))
 refine sx_condF rfl ?_
 refine sx_exit ?_
 refine q_e (q_e (q_bx (q_n (k3 _ _ ?_))))
 refine sx_seq fun K9 k9 => sx_region ?_
 refine mv rfl rfl (mv rfl rfl ?_)
 have f10 := hva.ext cwl4
 refine sp rfl (px_sliceTo (h := k) rfl rfl (by omega) Try.underlying23 Try.sizeOf3 f10.sv (by omega)) ?_
 refine av rfl rfl (wl_nil (q_n (k9 _ _ ?_)))
 refine sx_sub (Sub.c 2 rfl .nil) ?_
 refine sx_retc ?_
 refine sx_ret1 Try.results86 rfl ?_
 have hd := trim_done hz hk hv (by first | exact .inl (by omega) | exact .inr (by rw [getD_take (by omega)]; assumption))
 rw [← hd]
 exact ⟨_, rfl, (Own.takeI f10 (h := k) (by omega)), cwl4⟩

theorem c_l02TrimS {w : World} {va : Value} {lva uva : Nat} {zs : List Int} (hva : Sl w lva uva va (zs)) (hz : Lm zs) (h63 : zs.length ≤ 1000000) :
  Ret Try.prog 86 [va] w fun v w' => ∃ s, v = s ∧ Sl w' (lva) (uva) s (dg (vl zs)) ∧ Chg 0 0 w w' := by
 refine sx_enter Try.func86 rfl Try.ntmps86 (nbl rfl) ?_
 refine sx_seq fun K1 k1 => sx_region ?_
 refine av rfl rfl (wl_nil (q_n (k1 _ _ ?_)))
 refine sx_seq fun K2 k2 => sx_region ?_
 refine mv rfl rfl (sp rfl (px_len rfl Try.underlying23 hva) ?_)
 refine av rfl rfl (wl_nil (q_n (k2 _ _ ?_)))
 refine sx_seq fun K3 k3 => ?_
 refine sx_block ?_
 refine sx_loop (fun mm aa w' => ∃ (k : Nat), Agr 21 [(0, va), (3, .int .i64 ↑k)] aa ∧ Chg 0 0 w w' ∧ (mm = k) ∧ (k ≤ zs.length) ∧ (vl (zs.take k) = vl zs)) (_) (fun a ha => ⟨zs.length, ha.sub (Sub.c 0 rfl (.c 3 (look_int (t := 3) rfl (by first | omega | simp)) .nil)), Chg.refl _ _ _, rfl, by omega, vl_take_all zs⟩) ?_
 rintro mm aa wl4 ⟨k, hAwl4, cwl4, hm, hk, hv⟩
 refine (show cw Try.prog 21 _ _ _ wl4 from ?_) aa hAwl4
 clear hAwl4
 have zwl4 := cwl4.size
 refine sx_seq fun K5 k5 => ?_
 refine sx_seq fun K6 k6 => sx_region ?_
 refine mv rfl rfl (sp rfl (px_gt rfl rfl) ?_)
 refine mv rfl rfl ?_
 refine sx_tmpP (t := 8) rfl (fun h17 => ?_) (fun h17 => ?_)
 ·
  refine sx_guardT rfl rfl rfl ?_
  refine mv rfl rfl ?_
  refine sx_guardT rfl rfl rfl ?_
  refine mv rfl rfl ?_
  refine sx_guardT rfl rfl rfl ?_
  refine sp rfl (px_sub rfl rfl (by omega)) ?_
  refine sx_guardT rfl rfl rfl ?_
  have f7 := hva.ext cwl4
  refine sp rfl (px_index1 (j := (k - 1)) rfl rfl (by omega) Try.underlying23 Try.sizeOf3 f7 (by omega)) ?_
  refine sx_guardT rfl rfl rfl ?_
  refine sp rfl (px_load rfl (f7.load1 (at_int (by omega)) Try.isAgg3)) ?_
  refine sx_guardT rfl rfl rfl ?_
  refine sp rfl (px_eq rfl rfl) ?_
  refine sp rfl (px_pick rfl rfl) ?_
  refine wl_nil (q_n (k6 _ _ ?_))
  refine sx_condP rfl (fun h17x1 => ?_) (fun h17x1 => ?_)
  ·
   refine sx_skip ?_
   refine q_n (k5 _ _ ?_)
   refine sx_block ?_
   refine sx_region ?_
   refine mv rfl rfl (sp rfl (px_sub rfl rfl (by omega)) ?_)
   refine av rfl rfl (wl_nil ?_)
   exact q_bn (fun a ha => ⟨_, by omega, (k - 1), ha.sub (Sub.c 0 rfl (.c 3 (look_int (t := 3) rfl (by first | omega | simp)) .nil)), cwl4, rfl, by omega, trim_step (by omega) hk (by rw [getD_take (by omega)]; exact h17x1) hv⟩)
  refine sx_exit ?_
  refine q_e (q_e (q_bx (q_n (k3 _ _ ?_))))
  refine sx_seq fun K8 k8 => sx_region ?_
  refine mv rfl rfl (mv rfl rfl (sp rfl (px_sliceTo (h := k) rfl rfl (by omega) Try.underlying23 Try.sizeOf3 f7 (by omega)) ?_))
  refine av rfl rfl (wl_nil (q_n (k8 _ _ ?_)))
  refine sx_sub (Sub.c 2 rfl .nil) ?_
  refine sx_retc ?_
  refine sx_ret1 Try.results86 rfl ?_
  have hd := trim_done hz hk hv (by first | exact .inl (by omega) | exact .inr (by rw [getD_take (by omega)]; assumption))
  rw [← hd]
  exact ⟨_, rfl, (Sv.takeI f7 (h := k) (by omega)), cwl4⟩
 refine sx_guardF rfl rfl rfl rfl rfl rfl ?_
 refine sx_guardF rfl rfl rfl rfl rfl rfl ?_
 refine sx_guardF rfl rfl rfl rfl rfl rfl ?_
 refine sx_guardF rfl rfl rfl rfl rfl rfl ?_
 refine sx_guardF rfl rfl rfl rfl rfl rfl ?_
 refine sx_guardF rfl rfl rfl rfl rfl rfl ?_
 refine sp rfl (px_pick rfl rfl) ?_
 refine wl_nil (q_n (k6 _ _ ?_))
 refine sx_condF rfl ?_
 refine sx_exit ?_
 refine q_e (q_e (q_bx (q_n (k3 _ _ ?_))))
 refine sx_seq fun K9 k9 => sx_region ?_
 refine mv rfl rfl (mv rfl rfl ?_)
 have f10 := hva.ext cwl4
 refine sp rfl (px_sliceTo (h := k) rfl rfl (by omega) Try.underlying23 Try.sizeOf3 f10 (by omega)) ?_
 refine av rfl rfl (wl_nil (q_n (k9 _ _ ?_)))
 refine sx_sub (Sub.c 2 rfl .nil) ?_
 refine sx_retc ?_
 refine sx_ret1 Try.results86 rfl ?_
 have hd := trim_done hz hk hv (by first | exact .inl (by omega) | exact .inr (by rw [getD_take (by omega)]; assumption))
 rw [← hd]
 exact ⟨_, rfl, (Sv.takeI f10 (h := k) (by omega)), cwl4⟩

theorem c_l02TrimD {w : World} {va : Value} {lva uva : Nat} {m : Nat} (hva : Sl w lva uva va (dg m)) (h63 : (dg m).length ≤ 1000000) :
  Ret Try.prog 86 [va] w fun v w' => ∃ s, v = s ∧ Sl w' (lva) (uva) s (dg m) ∧ Chg 0 0 w w' := by
 simpa only [vl_dg] using c_l02TrimS hva (Lm_dg m) h63

theorem c_l02Cap {w : World} {va : Value} {lva uva : Nat} {m : Nat} (hva : Sl w lva uva va (dg m)) (h63 : (dg m).length ≤ 1000000) :
  Ret Try.prog 85 [va] w fun v w' => ∃ s, v = s ∧ Sl w' (lva) (uva) s (dg (capN m)) ∧ Chg 0 0 w w' := by
 refine sx_enter Try.func85 rfl Try.ntmps85 (nbl rfl) ?_
 refine sx_seq fun K1 k1 => sx_region ?_
 refine av rfl rfl (wl_nil (q_n (k1 _ _ ?_)))
 refine sx_seq fun K2 k2 => sx_region ?_
 refine mv rfl rfl (sx_call rfl rfl Try.call86 (c_l02TrimD hva (by omega)) (fun v3 w3 p3 => ?_))
 obtain ⟨s3, rfl, os_3, c3⟩ := p3
 have zw3 := c3.size
 refine av rfl rfl (wl_nil (q_n (k2 _ _ ?_)))
 refine sx_seq fun K4 k4 => ?_
 refine sx_seq fun K5 k5 => sx_region ?_
 refine mv rfl rfl (sp rfl (px_len rfl Try.underlying23 os_3) ?_)
 refine sp rfl (px_gt rfl rfl) ?_
 refine wl_nil (q_n (k5 _ _ ?_))
 refine sx_condP rfl (fun h25 => ?_) (fun h25 => ?_)
 ·
  refine sx_seq fun K6 k6 => sx_region ?_
  refine av rfl rfl (wl_nil (q_n (k6 _ _ ?_)))
  refine sx_retc ?_
  refine q_r (sx_ret1 Try.results85 rfl ?_)
  rw [capN_no (by omega), dg_zero]
  exact ⟨_, rfl, Sv.nil _ _ _ _, c3⟩
 refine sx_skip ?_
 refine q_n (k4 _ _ ?_)
 refine sx_seq fun K7 k7 => sx_region ?_
 refine mv rfl rfl (av rfl rfl (wl_nil (q_n (k7 _ _ ?_))))
 refine sx_retc ?_
 refine sx_ret1 Try.results85 rfl ?_
 rw [capN_ok (by omega)]
 exact ⟨_, rfl, (Sv.mono os_3 (by omega) (by omega)), c3⟩

theorem c_l04Make {w : World} {n : Bool} {va : Value} {lva uva : Nat} {m : Nat} (hva : Sl w lva uva va (dg m)) (h63 : (dg m).length ≤ 1000000) :
  Ret Try.prog 62 [.bool n, va] w fun v w' => ∃ s, v = .agg #[.bool (ng (capI n m)), s] ∧ OwnI w' w.heap.size w'.heap.size s intT (dg (capI n m).natAbs) ∧ Chg 0 0 w w' := by
 have hva0 := hva.fit
 have hcap : (dg (capN m)).length ≤ 50 := by unfold capN; split; assumption; rw [dg_zero]; simp
 refine sx_enter Try.func62 rfl Try.ntmps62 (nbl rfl) ?_
 refine sx_seq fun K1 k1 => sx_region ?_
 refine sx_alloc [.bool false, (.slice none 0 0)] rfl Try.zeroValue25 rfl (fun b2 w3 eb2 sb2 fb2 cb2 => ?_)
 have zw3 := cb2.size
 refine wl_nil (q_n (k1 _ _ ?_))
 refine sx_seq fun K4 k4 => sx_region ?_
 refine mv rfl rfl ?_
 have f5 := hva0.ext cb2
 refine sx_call rfl rfl Try.call85 (c_l02Cap f5 (by omega)) (fun v6 w6 p6 => ?_)
 obtain ⟨s6, rfl, os_6, c6⟩ := p6
 have zw6 := c6.size
 refine av rfl rfl (wl_nil (q_n (k4 _ _ ?_)))
 refine sx_seq fun K7 k7 => sx_region ?_
 refine mv rfl rfl (mv rfl rfl ?_)
 refine sx_tmpB (t := 9) rfl (fun h10 => ?_) (fun h10 => ?_)
 ·
  refine sx_guardT rfl rfl rfl ?_
  refine mv rfl rfl ?_
  refine sx_guardT rfl rfl rfl ?_
  refine sp rfl (px_len rfl Try.underlying23 os_6) ?_
  refine sx_guardT rfl rfl rfl ?_
  refine sp rfl (px_gt rfl rfl) ?_
  refine sp rfl (px_pick rfl rfl) ?_
  refine sx_lit0 rfl xelt23 (fun s8 ws8 ss8 fs8 cs8 => ?_)
  have zws8 := cs8.size
  refine mv rfl rfl ?_
  have f10 := os_6.ext cs8
  refine sx_append rfl xelt23 rfl rfl fs8 f10 one_int (by omega) (by first | omega | (simp only [List.length_nil]; omega)) (by unfold maxLen; first | omega | (simp only [List.length_nil]; omega)) (fun a9 w9 fw9 cw9 => ?_)
  have nw9 := Own.norm (f := (Value.int .i64)) (zs := dg (capN m)) fw9
  have zw9 := cw9.size
  refine sp rfl (px_build rfl (xbld25x0x1 rfl nw9.one _)) ?_
  have f13 := (fb2.ext c6).ext cs8
  have f14 := f13.chg cw9 (by omega)
  refine sx_store (vs := [.bool (decide ((0 : Int) < ↑((dg (capN m)).length))), a9]) rfl rfl f14 rfl Try.sizeOf25 (nbl rfl) (one_cons rfl (one_cons nw9.one one_nil)) (fun w11 sw11 fw11 cw11 => ?_)
  have zw11 := cw11.size
  have gw11 : Blk w11 b2 [.bool (decide ((0 : Int) < ↑((dg (capN m)).length))), a9] 25 := fw11
  refine wl_nil (q_n (k7 _ _ ?_))
  refine sx_sub (Sub.c 4 rfl .nil) ?_
  refine sx_retc ?_
  refine sx_ret1 Try.results62 ⟨_, rfl, gw11.loadA (vs := [.bool (decide ((0 : Int) < ↑((dg (capN m)).length))), a9]) (look_lit rfl) Try.isAgg25 Try.sizeOf25⟩ ?_
  have hh := cap_sg n m
  rw [← hh.1, ← hh.2]
  have q15 := Chg.step (l := 0) (h := 0) (Chg.zero (l := 0) (h := 0) ((cb2.t c6).t cs8)) cw9 (by omega)
  have q16 := Chg.step (l := 0) (h := 0) q15 cw11 (by omega)
  have f17 := nw9.chg cw11 (by omega)
  exact ⟨_, by simp [nz, h10], (Own.mono f17 (by omega) (by omega)), q16⟩
 refine sx_guardF rfl rfl rfl rfl rfl rfl ?_
 refine sx_guardF rfl rfl rfl rfl rfl rfl ?_
 refine sx_guardF rfl rfl rfl rfl rfl rfl ?_
 refine sp rfl (px_pick rfl rfl) ?_
 refine sx_lit0 rfl xelt23 (fun s18 ws18 ss18 fs18 cs18 => ?_)
 have zws18 := cs18.size
 refine mv rfl rfl ?_
 have f20 := os_6.ext cs18
 refine sx_append rfl xelt23 rfl rfl fs18 f20 one_int (by omega) (by first | omega | (simp only [List.length_nil]; omega)) (by unfold maxLen; first | omega | (simp only [List.length_nil]; omega)) (fun a19 w19 fw19 cw19 => ?_)
 have nw19 := Own.norm (f := (Value.int .i64)) (zs := dg (capN m)) fw19
 have zw19 := cw19.size
 refine sp rfl (px_build rfl (xbld25x0x1 rfl nw19.one _)) ?_
 have f23 := (fb2.ext c6).ext cs18
 have f24 := f23.chg cw19 (by omega)
 refine sx_store (vs := [.bool false, a19]) rfl rfl f24 rfl Try.sizeOf25 (nbl rfl) (one_cons rfl (one_cons nw19.one one_nil)) (fun w21 sw21 fw21 cw21 => ?_)
 have zw21 := cw21.size
 have gw21 : Blk w21 b2 [.bool false, a19] 25 := fw21
 refine wl_nil (q_n (k7 _ _ ?_))
 refine sx_sub (Sub.c 4 rfl .nil) ?_
 refine sx_retc ?_
 refine sx_ret1 Try.results62 ⟨_, rfl, gw21.loadA (vs := [.bool false, a19]) (look_lit rfl) Try.isAgg25 Try.sizeOf25⟩ ?_
 have hh := cap_sg n m
 rw [← hh.1, ← hh.2]
 have q25 := Chg.step (l := 0) (h := 0) (Chg.zero (l := 0) (h := 0) ((cb2.t c6).t cs18)) cw19 (by omega)
 have q26 := Chg.step (l := 0) (h := 0) q25 cw21 (by omega)
 have f27 := nw19.chg cw21 (by omega)
 exact ⟨_, by simp [nz, h10], (Own.mono f27 (by omega) (by omega)), q26⟩

theorem c_l04MakeMin {w : World} {n : Bool} {va : Value} {lva uva : Nat} {zs : List Int} (hva : Sl w lva uva va (zs)) (hz : zs = dg (-9223372036854775808 : Int).natAbs) :
  Ret Try.prog 62 [.bool n, va] w fun v w' => ∃ s, v = .agg #[.bool (ng (capI n (-9223372036854775808 : Int).natAbs)), s] ∧ OwnI w' w.heap.size w'.heap.size s intT (dg (capI n (-9223372036854775808 : Int).natAbs).natAbs) ∧ Chg 0 0 w w' := by
 subst hz; exact c_l04Make hva (by rw [dg_min]; simp)

theorem c_sNatOf {w : World} {n : Int} (hn : 0 ≤ n ∧ n ≤ 9223372036854775807) :
  Ret Try.prog 84 [.int .i64 n] w fun v w' => ∃ s, v = s ∧ OwnI w' w.heap.size w'.heap.size s intT (dg (n).toNat) ∧ Chg 0 0 w w' := by
 have l0 := len_u64 (n := n) (by omega)
 refine sx_enter Try.func84 rfl Try.ntmps84 (nbl rfl) ?_
 refine sx_seq fun K1 k1 => sx_region ?_
 refine av rfl rfl (wl_nil (q_n (k1 _ _ ?_)))
 refine sx_seq fun K2 k2 => sx_region ?_
 refine sx_lit0 rfl xelt23 (fun s3 ws3 ss3 fs3 cs3 => ?_)
 have zws3 := cs3.size
 refine av rfl rfl (wl_nil (q_n (k2 _ _ ?_)))
 refine sx_seq fun K4 k4 => ?_
 refine sx_block ?_
 refine sx_loop (fun mm aa w' => ∃ (s : Value) (os : List Int) (m : Int), Agr 15 [(0, .int .i64 m), (3, s)] aa ∧ Chg w.heap.size ws3.heap.size ws3 w' ∧ Own w' w.heap.size w'.heap.size s intT os.length 1 (os.map (Value.int .i64)) ∧ (mm = m.toNat) ∧ (Lm os) ∧ (0 ≤ m ∧ m ≤ n) ∧ (vl os + Bs ^ os.length * m.toNat = n.toNat) ∧ (os.length + (dg m.toNat).length = (dg n.toNat).length) ∧ (os.length = 0 ∨ Bs ^ (os.length - 1) ≤ n.toNat)) (_) (fun a ha => ⟨s3, [], n, ha.sub (Sub.c 0 (look_int (t := 0) rfl (by first | omega | simp)) (.c 3 rfl .nil)), Chg.refl _ _ _, (fs3.mono (by omega) (by omega)), rfl, Lm.nil, by omega, by simp [vl], by simp, .inl rfl⟩) ?_
 rintro mm aa wl5 ⟨s, os, m, hAwl5, cwl5, hs_s, hm, hlm, hb, hv, hln, hl⟩
 refine (show cw Try.prog 15 _ _ _ wl5 from ?_) aa hAwl5
 clear hAwl5
 have zwl5 := cwl5.size
 refine sx_seq fun K6 k6 => ?_
 refine sx_seq fun K7 k7 => sx_region ?_
 refine mv rfl rfl (sp rfl (px_gt rfl rfl) ?_)
 refine wl_nil (q_n (k7 _ _ ?_))
 refine sx_condP rfl (fun h34 => ?_) (fun h34 => ?_)
 ·
  refine sx_skip ?_
  refine q_n (k6 _ _ ?_)
  refine sx_block ?_
  refine sx_seq fun K8 k8 => sx_region ?_
  refine mv rfl rfl (mv rfl rfl (sp rfl (px_rem rfl rfl (by omega) (by omega)) ?_))
  refine sx_lit1 rfl xelt23 rfl rfl (fun s9 ws9 ss9 fs9 cs9 => ?_)
  have ns9 := Own.norm (f := (Value.int .i64)) (zs := [m % 1000000000]) fs9
  have zws9 := cs9.size
  have f11 := hs_s.ext cs9
  refine sx_append rfl xelt23 rfl rfl f11 ns9.sv one_int (by omega) (by simp only [List.length_cons, List.length_nil]; omega) (by unfold maxLen; simp only [List.length_cons, List.length_nil]; omega) (fun a10 w10 fw10 cw10 => ?_)
  have nw10 := Own.app (f := (Value.int .i64)) (a := os) (b := [m % 1000000000]) fw10
  have zw10 := cw10.size
  refine av rfl rfl (wl_nil (q_n (k8 _ _ ?_)))
  refine sx_region ?_
  refine mv rfl rfl (sp rfl (px_quo rfl rfl (by omega) (by omega) (by omega)) ?_)
  refine av rfl rfl (wl_nil ?_)
  have q12 := Chg.step (l := w.heap.size) (h := ws3.heap.size) cwl5 cs9 (by omega)
  have q13 := Chg.step (l := w.heap.size) (h := ws3.heap.size) q12 cw10 (by omega)
  have hmd := mod_bd (s := m) (by omega)
  have hm0 : m / 1000000000 < m := by omega
  exact q_bn (fun a ha => ⟨_, by omega, a10, (os ++ ([m % 1000000000])), (m / 1000000000), ha.sub (Sub.c 0 (look_int (t := 0) rfl (by first | omega | simp)) (.c 3 rfl .nil)), q13, (nw10.mono (by omega) (by omega)), rfl, hlm.append (Lm.single hmd.1 hmd.2), by omega, of_stepI (by omega) hv, by have h9 := of_ln (m := m) (by omega); simp only [List.length_append, List.length_singleton]; omega, .inr (of_len (by omega) hv)⟩)
 refine sx_exit ?_
 refine q_e (q_e (q_bx (q_n (k4 _ _ ?_))))
 refine sx_seq fun K14 k14 => sx_region ?_
 refine mv rfl rfl (av rfl rfl (wl_nil (q_n (k14 _ _ ?_))))
 refine sx_retc ?_
 refine sx_ret1 Try.results84 rfl ?_
 have hm0 : m = 0 := by omega
 subst hm0
 have hd : os = dg n.toNat := dg_of hlm (by simpa using hv) hl
 subst hd
 have q15 := Chg.step (l := 0) (h := 0) (Chg.zero (l := 0) (h := 0) cs3) cwl5 (by omega)
 exact ⟨_, rfl, (Own.mono hs_s (by omega) (by omega)), q15⟩

theorem c_sIntOf {w : World} {n : Int} (hn : -9223372036854775808 ≤ n ∧ n ≤ 9223372036854775807) :
  Ret Try.prog 61 [.int .i64 n] w fun v w' => ∃ s, v = .agg #[.bool (ng n), s] ∧ OwnI w' w.heap.size w'.heap.size s intT (dg (n).natAbs) ∧ Chg 0 0 w w' := by
 refine sx_enter Try.func61 rfl Try.ntmps61 (nbl rfl) ?_
 refine sx_seq fun K1 k1 => sx_region ?_
 refine sx_alloc [.bool false, (.slice none 0 0)] rfl Try.zeroValue25 rfl (fun b2 w3 eb2 sb2 fb2 cb2 => ?_)
 have zw3 := cb2.size
 refine wl_nil (q_n (k1 _ _ ?_))
 refine sx_seq fun K4 k4 => ?_
 refine sx_seq fun K5 k5 => sx_region ?_
 refine mv rfl rfl (sp rfl (px_eq rfl rfl) ?_)
 refine wl_nil (q_n (k5 _ _ ?_))
 refine sx_condP rfl (fun h15 => ?_) (fun h15 => ?_)
 ·
  subst h15
  refine sx_seq fun K6 k6 => sx_region ?_
  refine sx_lit3 rfl xelt23 rfl rfl rfl rfl rfl rfl (fun s7 ws7 ss7 fs7 cs7 => ?_)
  have ns7 := Own.norm (f := (Value.int .i64)) (zs := [854775808, 223372036, 9]) fs7
  have zws7 := cs7.size
  refine sx_call rfl rfl Try.call62 (c_l04MakeMin ns7.sv (dg_min.symm)) (fun v8 w8 p8 => ?_)
  obtain ⟨s8, rfl, os_8, c8⟩ := p8
  have zw8 := c8.size
  have f10 := fb2.ext cs7
  have f11 := f10.ext c8
  refine sx_store (vs := [.bool (ng (capI true (-9223372036854775808 : Int).natAbs)), s8]) rfl rfl f11 rfl Try.sizeOf25 (nbl rfl) (one_cons rfl (one_cons os_8.one one_nil)) (fun w9 sw9 fw9 cw9 => ?_)
  have zw9 := cw9.size
  have gw9 : Blk w9 b2 [.bool (ng (capI true (-9223372036854775808 : Int).natAbs)), s8] 25 := fw9
  refine wl_nil (q_n (k6 _ _ ?_))
  refine sx_retc ?_
  refine q_r (sx_ret1 Try.results61 ⟨_, rfl, gw9.loadA (vs := [.bool (ng (capI true (-9223372036854775808 : Int).natAbs)), s8]) (look_lit rfl) Try.isAgg25 Try.sizeOf25⟩ ?_)
  have e : capI true (-9223372036854775808 : Int).natAbs = -9223372036854775808 := capI_min
  have f12 := os_8.chg cw9 (by omega)
  have hr := f12
  rw [e] at hr
  have q13 := Chg.step (l := 0) (h := 0) (Chg.zero (l := 0) (h := 0) ((cb2.t cs7).t c8)) cw9 (by omega)
  exact ⟨_, by rw [e], hr.mono (by omega) (by omega), q13⟩
 refine sx_skip ?_
 refine q_n (k4 _ _ ?_)
 refine sx_seq fun K14 k14 => ?_
 refine sx_seq fun K15 k15 => sx_region ?_
 refine mv rfl rfl (sp rfl (px_lt rfl rfl) ?_)
 refine wl_nil (q_n (k15 _ _ ?_))
 refine sx_condP rfl (fun h18 => ?_) (fun h18 => ?_)
 ·
  refine sx_seq fun K16 k16 => sx_region ?_
  refine mv rfl rfl (sp rfl (px_neg rfl (by omega)) ?_)
  refine sx_call rfl rfl Try.call84 (c_sNatOf (by omega)) (fun v17 w17 p17 => ?_)
  obtain ⟨s17, rfl, os_17, c17⟩ := p17
  have zw17 := c17.size
  refine sx_call rfl rfl Try.call62 (c_l04Make os_17.sv (by first | (have h9 := len_u64 (n := -n) (by omega); omega) | (have h9 := len_u64 (n := n) (by omega); omega))) (fun v18 w18 p18 => ?_)
  obtain ⟨s18, rfl, os_18, c18⟩ := p18
  have zw18 := c18.size
  have f21 := (fb2.ext c17).ext c18
  refine sx_store (vs := [.bool (ng (capI true (((-n)).toNat))), s18]) rfl rfl f21 rfl Try.sizeOf25 (nbl rfl) (one_cons rfl (one_cons os_18.one one_nil)) (fun w19 sw19 fw19 cw19 => ?_)
  have zw19 := cw19.size
  have gw19 : Blk w19 b2 [.bool (ng (capI true (((-n)).toNat))), s18] 25 := fw19
  refine wl_nil (q_n (k16 _ _ ?_))
  refine sx_retc ?_
  refine q_r (sx_ret1 Try.results61 ⟨_, rfl, gw19.loadA (vs := [.bool (ng (capI true (((-n)).toNat))), s18]) (look_lit rfl) Try.isAgg25 Try.sizeOf25⟩ ?_)
  have e : capI true (-n).toNat = n := capI_neg (by omega)
  have f22 := os_18.chg cw19 (by omega)
  have hr := f22
  rw [e] at hr
  have q23 := Chg.step (l := 0) (h := 0) (Chg.zero (l := 0) (h := 0) ((cb2.t c17).t c18)) cw19 (by omega)
  exact ⟨_, by rw [e], hr.mono (by omega) (by omega), q23⟩
 refine sx_skip ?_
 refine q_n (k14 _ _ ?_)
 refine sx_seq fun K24 k24 => sx_region ?_
 refine mv rfl rfl (sx_call rfl rfl Try.call84 (c_sNatOf (by omega)) (fun v25 w25 p25 => ?_))
 obtain ⟨s25, rfl, os_25, c25⟩ := p25
 have zw25 := c25.size
 refine sx_call rfl rfl Try.call62 (c_l04Make os_25.sv (by first | (have h9 := len_u64 (n := -n) (by omega); omega) | (have h9 := len_u64 (n := n) (by omega); omega))) (fun v26 w26 p26 => ?_)
 obtain ⟨s26, rfl, os_26, c26⟩ := p26
 have zw26 := c26.size
 have f29 := (fb2.ext c25).ext c26
 refine sx_store (vs := [.bool (ng (capI false ((n).toNat))), s26]) rfl rfl f29 rfl Try.sizeOf25 (nbl rfl) (one_cons rfl (one_cons os_26.one one_nil)) (fun w27 sw27 fw27 cw27 => ?_)
 have zw27 := cw27.size
 have gw27 : Blk w27 b2 [.bool (ng (capI false ((n).toNat))), s26] 25 := fw27
 refine wl_nil (q_n (k24 _ _ ?_))
 refine sx_retc ?_
 refine sx_ret1 Try.results61 ⟨_, rfl, gw27.loadA (vs := [.bool (ng (capI false ((n).toNat))), s26]) (look_lit rfl) Try.isAgg25 Try.sizeOf25⟩ ?_
 have e : capI false n.toNat = n := capI_pos (by omega)
 have f30 := os_26.chg cw27 (by omega)
 have hr := f30
 rw [e] at hr
 have q31 := Chg.step (l := 0) (h := 0) (Chg.zero (l := 0) (h := 0) ((cb2.t c25).t c26)) cw27 (by omega)
 exact ⟨_, by rw [e], hr.mono (by omega) (by omega), q31⟩

theorem c_l01Pick {w : World} {c : Nat} {vb : Value} {lvb uvb : Nat} {bs : List Int} {i : Int} {h : Int} {vl : Value} {lvl uvl : Nat} {zs : List Int} (hc : Blk w c [vb, .int .i64 i, .int .i64 h] 52) (hvb : SlB w lvb uvb vb (bs)) (hvl : Sl w lvl uvl vl (zs)) (hb8 : ∀ j, j < bs.length → 0 ≤ bs.getD j 0 ∧ bs.getD j 0 ≤ 255) (hbl : bs.length ≤ 1048576) (hi : 0 ≤ i ∧ i ≤ bs.length) (hdis : uvb ≤ c) (hz : 1 ≤ zs.length ∧ zs.length ≤ 1000) (hd2 : uvl ≤ c ∨ c < lvl) :
  Ret Try.prog 64 [.pointer (some ⟨c, 0, none⟩), vl] w fun v w' => ∃ x i2 h2, v = .int .i64 (x) ∧ Blk w' c [vb, .int .i64 (i2), .int .i64 (h2)] 52 ∧ (x ∈ zs) ∧ (0 ≤ i2 ∧ i2 ≤ (bs).length) ∧ Chg c (c + 1) w w' := by
 have clt := hc.lt
 refine sx_enter Try.func64 rfl Try.ntmps64 (nbl rfl) ?_
 refine sx_seq fun K1 k1 => sx_region ?_
 refine av rfl rfl (wl_nil (q_n (k1 _ _ ?_)))
 refine sx_seq fun K2 k2 => sx_region ?_
 refine mv rfl rfl (mv rfl rfl (mv rfl rfl (sp rfl (px_len rfl Try.underlying23 hvl) ?_)))
 refine sx_call rfl rfl Try.call54 (c_l01Below hc hvb (by assumption) (by omega) (by omega) (by omega) (by omega)) (fun v3 w3 p3 => ?_)
 obtain ⟨x3, i23, h23, rfl, xc_3, hx3, hi23, c3⟩ := p3
 have zw3 := c3.size
 have f4 := hvl.chg c3 (by omega)
 refine sp rfl (px_index1 (j := x3.toNat) rfl rfl (by omega) Try.underlying23 Try.sizeOf3 f4 (by omega)) ?_
 refine sp rfl (px_load rfl (f4.load1 (at_int (by omega)) Try.isAgg3)) ?_
 refine av rfl rfl (wl_nil (q_n (k2 _ _ ?_)))
 refine sx_retc ?_
 refine sx_ret1 Try.results64 rfl ?_
 exact ⟨_, _, _, rfl, xc_3, mem_getD (by omega), by omega, c3⟩

theorem c_l02Nat {w : World} {c : Nat} {vb : Value} {lvb uvb : Nat} {bs : List Int} {i : Int} {h : Int} {most : Int} (hc : Blk w c [vb, .int .i64 i, .int .i64 h] 52) (hvb : SlB w lvb uvb vb (bs)) (hb8 : ∀ j, j < bs.length → 0 ≤ bs.getD j 0 ∧ bs.getD j 0 ≤ 255) (hbl : bs.length ≤ 1048576) (hi : 0 ≤ i ∧ i ≤ bs.length) (hdis : uvb ≤ c) (hn : 0 ≤ most ∧ most ≤ 100) :
  Ret Try.prog 63 [.pointer (some ⟨c, 0, none⟩), .int .i64 most] w fun v w' => ∃ s m i2 h2, v = s ∧ OwnI w' w.heap.size w'.heap.size s intT (dg m) ∧ Blk w' c [vb, .int .i64 (i2), .int .i64 (h2)] 52 ∧ (((dg m).length : Int) ≤ most) ∧ (0 ≤ i2 ∧ i2 ≤ (bs).length) ∧ Chg c (c + 1) w w' := by
 have clt := hc.lt
 have clt := hc.lt
 refine sx_enter Try.func63 rfl Try.ntmps63 (nbl rfl) ?_
 refine sx_seq fun K1 k1 => sx_region ?_
 refine av rfl rfl (wl_nil (q_n (k1 _ _ ?_)))
 refine sx_seq fun K2 k2 => sx_region ?_
 refine sx_lit0 rfl xelt23 (fun s3 ws3 ss3 fs3 cs3 => ?_)
 have zws3 := cs3.size
 refine av rfl rfl (wl_nil (q_n (k2 _ _ ?_)))
 refine sx_seq fun K4 k4 => ?_
 refine sx_seq fun K5 k5 => sx_region ?_
 refine mv rfl rfl (mv rfl rfl (sp rfl (px_add rfl rfl (by omega)) ?_))
 have f6 := hc.ext cs3
 have f7 := hvb.ext cs3
 refine sx_call rfl rfl Try.call54 (c_l01Below f6 f7 (by assumption) (by omega) (by omega) (by omega) (by omega)) (fun v8 w8 p8 => ?_)
 obtain ⟨x8, i28, h28, rfl, xc_8, hx8, hi28, c8⟩ := p8
 have zw8 := c8.size
 refine av rfl rfl (wl_nil (q_n (k5 _ _ ?_)))
 refine sx_block ?_
 have f10 := fs3.chg c8 (by omega)
 have q11 := Chg.step (l := c) (h := (c + 1)) (Chg.zero (l := c) (h := (c + 1)) cs3) c8 (by omega)
 refine sx_loop (fun mm aa w' => ∃ (s : Value) (os : List Int) (n2 : Int) (i2 : Int) (h2 : Int), Agr 28 [(0, .pointer (some ⟨c, 0, none⟩)), (5, s), (6, .int .i64 n2)] aa ∧ Chg c (c + 1) w w' ∧ Blk w' c [vb, .int .i64 i2, .int .i64 h2] 52 ∧ Own w' w.heap.size w'.heap.size s intT os.length 1 (os.map (Value.int .i64)) ∧ (mm = n2.toNat) ∧ (Lm os) ∧ ((os.length : Int) + n2 ≤ most ∧ 0 ≤ n2) ∧ (0 ≤ i2 ∧ i2 ≤ bs.length)) (_) (fun a ha => ⟨s3, [], x8, i28, h28, ha.sub (Sub.c 0 rfl (.c 5 rfl (.c 6 (look_int (t := 6) rfl (by first | omega | simp)) .nil))), q11, xc_8, (f10.mono (by omega) (by omega)), rfl, Lm.nil, by simp only [List.length_nil]; omega, by omega⟩) ?_
 rintro mm aa wl9 ⟨s, os, n2, i2, h2, hAwl9, cwl9, hb_c, hs_s, hm, hlm, hln, hi2⟩
 refine (show cw Try.prog 28 _ _ _ wl9 from ?_) aa hAwl9
 clear hAwl9
 have zwl9 := cwl9.size
 have lt12 := hb_c.lt
 refine sx_seq fun K13 k13 => ?_
 refine sx_seq fun K14 k14 => sx_region ?_
 refine mv rfl rfl (sp rfl (px_gt rfl rfl) ?_)
 refine wl_nil (q_n (k14 _ _ ?_))
 refine sx_condP rfl (fun h203 => ?_) (fun h203 => ?_)
 ·
  refine sx_skip ?_
  refine q_n (k13 _ _ ?_)
  refine sx_seq fun K15 k15 => ?_
  refine sx_block ?_
  refine sx_region ?_
  refine mv rfl rfl (mv rfl rfl (mv rfl rfl ?_))
  have f16 := hvb.chg cwl9 (by omega)
  refine sx_call rfl rfl Try.call54 (c_l01Below hb_c f16 (by assumption) (by omega) (by omega) (by omega) (by omega)) (fun v17 w17 p17 => ?_)
  obtain ⟨x17, i217, h217, rfl, xc_17, hx17, hi217, c17⟩ := p17
  have zw17 := c17.size
  refine mv rfl rfl ?_
  have f18 := f16.chg c17 (by omega)
  refine sx_call rfl rfl Try.call54 (c_l01Below xc_17 f18 (by assumption) (by omega) (by omega) (by omega) (by omega)) (fun v19 w19 p19 => ?_)
  obtain ⟨x19, i219, h219, rfl, xc_19, hx19, hi219, c19⟩ := p19
  have zw19 := c19.size
  refine sx_lit7 rfl xelt23 rfl rfl rfl rfl rfl rfl rfl rfl rfl rfl rfl rfl rfl rfl (fun s20 ws20 ss20 fs20 cs20 => ?_)
  have ns20 := Own.norm (f := (Value.int .i64)) (zs := [0, 1, 2, 999999999, 500000000, x17, x19]) fs20
  have zws20 := cs20.size
  have f21 := xc_19.ext cs20
  have f23 := (f18.chg c19 (by omega)).ext cs20
  refine sx_call rfl rfl Try.call64 (c_l01Pick f21 f23 ns20.sv (by assumption) (by omega) (by omega) (by omega) (by first | omega | simp) (by omega)) (fun v24 w24 p24 => ?_)
  obtain ⟨x24, i224, h224, rfl, xc_24, hx24, hi224, c24⟩ := p24
  have zw24 := c24.size
  refine sx_lit1 rfl xelt23 rfl rfl (fun s25 ws25 ss25 fs25 cs25 => ?_)
  have ns25 := Own.norm (f := (Value.int .i64)) (zs := [x24]) fs25
  have zws25 := cs25.size
  have f29 := ((hs_s.chg c17 (by omega)).chg c19 (by omega)).ext cs20
  have f31 := (f29.chg c24 (by omega)).ext cs25
  refine sx_append rfl xelt23 rfl rfl f31 ns25.sv one_int (by omega) (by simp only [List.length_cons, List.length_nil]; omega) (by unfold maxLen; simp only [List.length_cons, List.length_nil]; omega) (fun a26 w26 fw26 cw26 => ?_)
  have nw26 := Own.app (f := (Value.int .i64)) (a := os) (b := [x24]) fw26
  have zw26 := cw26.size
  refine av rfl rfl (wl_nil ?_)
  refine q_bn (q_n (k15 _ _ ?_))
  refine sx_sub (Sub.c 0 rfl (.c 5 rfl (.c 6 rfl .nil))) ?_
  refine sx_region ?_
  refine mv rfl rfl (sp rfl (px_sub rfl rfl (by omega)) ?_)
  refine av rfl rfl (wl_nil ?_)
  have f32 := xc_24.ext cs25
  have f33 := f32.chg cw26 (by omega)
  have q34 := Chg.step (l := c) (h := (c + 1)) cwl9 c17 (by omega)
  have q35 := Chg.step (l := c) (h := (c + 1)) q34 c19 (by omega)
  have q36 := Chg.step (l := c) (h := (c + 1)) q35 cs20 (by omega)
  have q37 := Chg.step (l := c) (h := (c + 1)) q36 c24 (by omega)
  have q38 := Chg.step (l := c) (h := (c + 1)) q37 cs25 (by omega)
  have q39 := Chg.step (l := c) (h := (c + 1)) q38 cw26 (by omega)
  have bx24 : 0 ≤ x24 ∧ x24 < 1000000000 := by have h9 := hx24; simp only [List.mem_cons, List.not_mem_nil, or_false] at h9; omega
  exact fun a ha => ⟨_, by omega, a26, (os ++ ([x24])), (n2 - 1), i224, h224, ha.sub (Sub.c 0 rfl (.c 5 rfl (.c 6 (look_int (t := 6) rfl (by first | omega | simp)) .nil))), q39, f33, (nw26.mono (by omega) (by omega)), rfl, hlm.append (Lm.single (by omega) (by omega)), by simp only [List.length_append, List.length_singleton]; omega, by omega⟩
 refine sx_exit ?_
 refine q_e (q_e (q_bx (q_n (k4 _ _ ?_))))
 refine sx_seq fun K40 k40 => sx_region ?_
 refine mv rfl rfl (sx_call rfl rfl Try.call86 (c_l02Trim hs_s (by assumption) (by first | omega | (simp only [List.length_append, List.length_set, List.length_replicate, List.length_cons, List.length_nil] at *; omega))) (fun v41 w41 p41 => ?_))
 obtain ⟨s41, rfl, os_41, c41⟩ := p41
 have zw41 := c41.size
 refine av rfl rfl (wl_nil (q_n (k40 _ _ ?_)))
 refine sx_retc ?_
 refine sx_ret1 Try.results63 rfl ?_
 have hvt := vl_trim_len hlm
 have f42 := hb_c.ext c41
 have q43 := Chg.step (l := c) (h := (c + 1)) cwl9 c41 (by omega)
 exact ⟨_, _, _, _, rfl, (Own.mono os_41 (by omega) (by omega)), f42, by omega, by omega, q43⟩

theorem c_l04Draw {w : World} {c : Nat} {vb : Value} {lvb uvb : Nat} {bs : List Int} {i : Int} {h : Int} {most : Int} (hc : Blk w c [vb, .int .i64 i, .int .i64 h] 52) (hvb : SlB w lvb uvb vb (bs)) (hb8 : ∀ j, j < bs.length → 0 ≤ bs.getD j 0 ∧ bs.getD j 0 ≤ 255) (hbl : bs.length ≤ 1048576) (hi : 0 ≤ i ∧ i ≤ bs.length) (hdis : uvb ≤ c) (hn : 1 ≤ most ∧ most ≤ 40) :
  Ret Try.prog 22 [.pointer (some ⟨c, 0, none⟩), .int .i64 most] w fun v w' => ∃ s x i2 h2, v = .agg #[.bool (ng x), s] ∧ OwnI w' w.heap.size w'.heap.size s intT (dg (x).natAbs) ∧ Blk w' c [vb, .int .i64 (i2), .int .i64 (h2)] 52 ∧ (((dg (x).natAbs).length : Int) ≤ most) ∧ (0 ≤ i2 ∧ i2 ≤ (bs).length) ∧ Chg c (c + 1) w w' := by
 have clt := hc.lt
 have clt := hc.lt
 refine sx_enter Try.func22 rfl Try.ntmps22 (nbl rfl) ?_
 refine sx_seq fun K1 k1 => sx_region ?_
 refine sx_alloc [.bool false, (.slice none 0 0)] rfl Try.zeroValue25 rfl (fun b2 w3 eb2 sb2 fb2 cb2 => ?_)
 have zw3 := cb2.size
 refine wl_nil (q_n (k1 _ _ ?_))
 refine sx_seq fun K4 k4 => ?_
 refine sx_seq fun K5 k5 => sx_region ?_
 refine mv rfl rfl ?_
 have f6 := hc.ext cb2
 have f7 := hvb.ext cb2
 refine sx_call rfl rfl Try.call60 (c_l01Once f6 f7 (by assumption) (by omega) (by omega) (by omega) (by omega)) (fun v8 w8 p8 => ?_)
 obtain ⟨x8, i28, h28, rfl, xc_8, hx8, hi28, c8⟩ := p8
 have zw8 := c8.size
 refine wl_nil (q_n (k5 _ _ ?_))
 refine sx_condP rfl (fun h144 => ?_) (fun h144 => ?_)
 ·
  refine sx_seq fun K9 k9 => sx_region ?_
  refine mv rfl rfl ?_
  have f10 := f7.chg c8 (by omega)
  refine sx_call rfl rfl Try.call54 (c_l01Below xc_8 f10 (by assumption) (by omega) (by omega) (by omega) (by omega)) (fun v11 w11 p11 => ?_)
  obtain ⟨x11, i211, h211, rfl, xc_11, hx11, hi211, c11⟩ := p11
  have zw11 := c11.size
  refine sp rfl (px_sub rfl rfl (by omega)) ?_
  refine sx_call rfl rfl Try.call61 (c_sIntOf (by omega)) (fun v12 w12 p12 => ?_)
  obtain ⟨s12, rfl, os_12, c12⟩ := p12
  have zw12 := c12.size
  have f16 := ((fb2.chg c8 (by omega)).chg c11 (by omega)).ext c12
  refine sx_store (vs := [.bool (ng (x11 - 1000)), s12]) rfl rfl f16 rfl Try.sizeOf25 (nbl rfl) (one_cons rfl (one_cons os_12.one one_nil)) (fun w13 sw13 fw13 cw13 => ?_)
  have zw13 := cw13.size
  have gw13 : Blk w13 b2 [.bool (ng (x11 - 1000)), s12] 25 := fw13
  refine wl_nil (q_n (k9 _ _ ?_))
  refine sx_retc ?_
  refine q_r (sx_ret1 Try.results22 ⟨_, rfl, gw13.loadA (vs := [.bool (ng (x11 - 1000)), s12]) (look_lit rfl) Try.isAgg25 Try.sizeOf25⟩ ?_)
  have hl1 : (dg ((x11 - 1000)).natAbs).length ≤ 1 := dg_len_le (by simp only [Bs]; omega)
  have f18 := (xc_11.ext c12).chg cw13 (by omega)
  have q19 := Chg.step (l := c) (h := (c + 1)) (Chg.zero (l := c) (h := (c + 1)) cb2) c8 (by omega)
  have q20 := Chg.step (l := c) (h := (c + 1)) q19 c11 (by omega)
  have q21 := Chg.step (l := c) (h := (c + 1)) q20 c12 (by omega)
  have q22 := Chg.step (l := c) (h := (c + 1)) q21 cw13 (by omega)
  have f23 := os_12.chg cw13 (by omega)
  exact ⟨_, _, _, _, rfl, (Own.mono f23 (by omega) (by omega)), f18, by omega, by omega, q22⟩
 refine sx_skip ?_
 refine q_n (k4 _ _ ?_)
 refine sx_seq fun K24 k24 => sx_region ?_
 refine mv rfl rfl ?_
 have f25 := f7.chg c8 (by omega)
 refine sx_call rfl rfl Try.call60 (c_l01Once xc_8 f25 (by assumption) (by omega) (by omega) (by omega) (by omega)) (fun v26 w26 p26 => ?_)
 obtain ⟨x26, i226, h226, rfl, xc_26, hx26, hi226, c26⟩ := p26
 have zw26 := c26.size
 refine mv rfl rfl (mv rfl rfl ?_)
 have f27 := f25.chg c26 (by omega)
 refine sx_call rfl rfl Try.call63 (c_l02Nat xc_26 f27 (by assumption) (by omega) (by omega) (by omega) (by omega)) (fun v28 w28 p28 => ?_)
 obtain ⟨s28, m28, i228, h228, rfl, os_28, xc_28, hx28, hi228, c28⟩ := p28
 have zw28 := c28.size
 refine sx_call rfl rfl Try.call62 (c_l04Make os_28.sv (by omega)) (fun v29 w29 p29 => ?_)
 obtain ⟨s29, rfl, os_29, c29⟩ := p29
 have zw29 := c29.size
 have f34 := (((fb2.chg c8 (by omega)).chg c26 (by omega)).chg c28 (by omega)).ext c29
 refine sx_store (vs := [.bool (ng (capI (decide ((x26 : Int) = 0)) m28)), s29]) rfl rfl f34 rfl Try.sizeOf25 (nbl rfl) (one_cons rfl (one_cons os_29.one one_nil)) (fun w30 sw30 fw30 cw30 => ?_)
 have zw30 := cw30.size
 have gw30 : Blk w30 b2 [.bool (ng (capI (decide ((x26 : Int) = 0)) m28)), s29] 25 := fw30
 refine wl_nil (q_n (k24 _ _ ?_))
 refine sx_retc ?_
 refine sx_ret1 Try.results22 ⟨_, rfl, gw30.loadA (vs := [.bool (ng (capI (decide ((x26 : Int) = 0)) m28)), s29]) (look_lit rfl) Try.isAgg25 Try.sizeOf25⟩ ?_
 have hcs := capI_sgI (n := (decide ((x26 : Int) = 0))) (m := m28) (by omega)
 have hl1 : (dg (capI (decide ((x26 : Int) = 0)) m28).natAbs).length = (dg m28).length := by rw [hcs, sgI_abs]
 have f36 := (xc_28.ext c29).chg cw30 (by omega)
 have q37 := Chg.step (l := c) (h := (c + 1)) (Chg.zero (l := c) (h := (c + 1)) cb2) c8 (by omega)
 have q38 := Chg.step (l := c) (h := (c + 1)) q37 c26 (by omega)
 have q39 := Chg.step (l := c) (h := (c + 1)) q38 c28 (by omega)
 have q40 := Chg.step (l := c) (h := (c + 1)) q39 c29 (by omega)
 have q41 := Chg.step (l := c) (h := (c + 1)) q40 cw30 (by omega)
 have f42 := os_29.chg cw30 (by omega)
 exact ⟨_, _, _, _, rfl, (Own.mono f42 (by omega) (by omega)), f36, by omega, by omega, q41⟩

theorem c_MakeInt {w : World} {vb : Value} {lvb uvb : Nat} {bs : List Int} (hvb : SlB w lvb uvb vb (bs)) (hb8 : ∀ j, j < bs.length → 0 ≤ bs.getD j 0 ∧ bs.getD j 0 ≤ 255) (hbl : bs.length ≤ 1048576) :
  Ret Try.prog 5 [vb] w fun v w' => ∃ s x, v = .agg #[.bool (ng x), s] ∧ OwnI w' w.heap.size w'.heap.size s intT (dg (x).natAbs) ∧ ((dg (x).natAbs).length ≤ 3) ∧ Chg 0 0 w w' := by
 have hvb0 := hvb.fit
 refine sx_enter Try.func5 rfl Try.ntmps5 (nbl rfl) ?_
 refine sx_seq fun K1 k1 => sx_region ?_
 refine sx_alloc [.bool false, (.slice none 0 0)] rfl Try.zeroValue25 rfl (fun b2 w3 eb2 sb2 fb2 cb2 => ?_)
 have zw3 := cb2.size
 refine wl_nil (q_n (k1 _ _ ?_))
 refine sx_seq fun K4 k4 => sx_region ?_
 refine mv rfl rfl ?_
 have f5 := hvb0.ext cb2
 refine sx_call rfl rfl Try.call21 (c_l01New f5 (by assumption) (by omega)) (fun v6 w6 p6 => ?_)
 obtain ⟨c6, h26, rfl, xc_6, hh6, hc6, cq6⟩ := p6
 have zw6 := cq6.size
 refine av rfl rfl (wl_nil (q_n (k4 _ _ ?_)))
 refine sx_seq fun K7 k7 => sx_region ?_
 refine mv rfl rfl (mv rfl rfl (sp rfl (px_nil rfl) ?_))
 refine sp rfl (px_field rfl xfld52x2) ?_
 refine sp rfl (px_load rfl (xc_6.load1 rfl Try.isAgg3)) ?_
 refine sp rfl (px_add rfl rfl (by omega)) ?_
 refine sp rfl (px_nil rfl) ?_
 refine sp rfl (px_field rfl xfld52x2) ?_
 refine sx_store (vs := [.int .i64 (h26 + 5)]) rfl rfl xc_6 rfl Try.sizeOf3 (nbl rfl) (o1 rfl) (fun w8 sw8 fw8 cw8 => ?_)
 have zw8 := cw8.size
 have gw8 : Blk w8 c6 [vb, .int .i64 0, .int .i64 (h26 + 5)] 52 := fw8
 refine wl_nil (q_n (k7 _ _ ?_))
 refine sx_seq fun K9 k9 => sx_region ?_
 refine mv rfl rfl ?_
 have f10 := f5.ext cq6
 have f11 := f10.chg cw8 (by omega)
 refine sx_call rfl rfl Try.call22 (c_l04Draw gw8 f11 (by assumption) (by omega) (by omega) (by omega) (by omega)) (fun v12 w12 p12 => ?_)
 obtain ⟨s12, x12, i212, h212, rfl, os_12, xc_12, hx12, hi212, c12⟩ := p12
 have zw12 := c12.size
 have f14 := fb2.ext cq6
 have f15 := f14.chg cw8 (by omega)
 have f16 := f15.chg c12 (by omega)
 refine sx_store (vs := [.bool (ng x12), s12]) rfl rfl f16 rfl Try.sizeOf25 (nbl rfl) (one_cons rfl (one_cons os_12.one one_nil)) (fun w13 sw13 fw13 cw13 => ?_)
 have zw13 := cw13.size
 have gw13 : Blk w13 b2 [.bool (ng x12), s12] 25 := fw13
 refine wl_nil (q_n (k9 _ _ ?_))
 refine sx_sub (Sub.c 2 rfl .nil) ?_
 refine sx_retc ?_
 refine sx_ret1 Try.results5 ⟨_, rfl, gw13.loadA (vs := [.bool (ng x12), s12]) (look_lit rfl) Try.isAgg25 Try.sizeOf25⟩ ?_
 have q17 := Chg.step (l := 0) (h := 0) (Chg.zero (l := 0) (h := 0) (cb2.t cq6)) cw8 (by omega)
 have q18 := Chg.step (l := 0) (h := 0) q17 c12 (by omega)
 have q19 := Chg.step (l := 0) (h := 0) q18 cw13 (by omega)
 have f20 := os_12.chg cw13 (by omega)
 exact ⟨_, _, rfl, (Own.mono f20 (by omega) (by omega)), by omega, q19⟩

theorem c_l12Draw {w : World} {c : Nat} {vb : Value} {lvb uvb : Nat} {bs : List Int} {i : Int} {h : Int} (hc : Blk w c [vb, .int .i64 i, .int .i64 h] 52) (hvb : SlB w lvb uvb vb (bs)) (hb8 : ∀ j, j < bs.length → 0 ≤ bs.getD j 0 ∧ bs.getD j 0 ≤ 255) (hbl : bs.length ≤ 1048576) (hi : 0 ≤ i ∧ i ≤ bs.length) (hdis : uvb ≤ c) :
  Ret Try.prog 23 [.pointer (some ⟨c, 0, none⟩)] w fun v w' => ∃ s ws i2 h2, v = s ∧ OwnI w' w.heap.size w'.heap.size s intT (ws) ∧ Blk w' c [vb, .int .i64 (i2), .int .i64 (h2)] 52 ∧ (Wd ws) ∧ ((ws).length ≤ 6) ∧ (0 ≤ i2 ∧ i2 ≤ (bs).length) ∧ Chg c (c + 1) w w' := by
 have clt := hc.lt
 have clt := hc.lt
 refine sx_enter Try.func23 rfl Try.ntmps23 (nbl rfl) ?_
 refine sx_seq fun K1 k1 => sx_region ?_
 refine av rfl rfl (wl_nil (q_n (k1 _ _ ?_)))
 refine sx_seq fun K2 k2 => sx_region ?_
 refine mv rfl rfl (sx_call rfl rfl Try.call54 (c_l01Below hc hvb (by assumption) (by omega) (by omega) (by omega) (by omega)) (fun v3 w3 p3 => ?_))
 obtain ⟨x3, i23, h23, rfl, xc_3, hx3, hi23, c3⟩ := p3
 have zw3 := c3.size
 refine sp rfl (px_add rfl rfl (by omega)) ?_
 refine sx_lit1 rfl xelt23 rfl rfl (fun s4 ws4 ss4 fs4 cs4 => ?_)
 have ns4 := Own.norm (f := (Value.int .i64)) (zs := [1 + x3]) fs4
 have zws4 := cs4.size
 refine av rfl rfl (wl_nil (q_n (k2 _ _ ?_)))
 refine sx_seq fun K5 k5 => ?_
 refine sx_seq fun K6 k6 => sx_region ?_
 refine mv rfl rfl ?_
 have f7 := xc_3.ext cs4
 have f9 := (hvb.chg c3 (by omega)).ext cs4
 refine sx_call rfl rfl Try.call54 (c_l01Below f7 f9 (by assumption) (by omega) (by omega) (by omega) (by omega)) (fun v10 w10 p10 => ?_)
 obtain ⟨x10, i210, h210, rfl, xc_10, hx10, hi210, c10⟩ := p10
 have zw10 := c10.size
 refine av rfl rfl (wl_nil (q_n (k6 _ _ ?_)))
 refine sx_block ?_
 have f12 := ns4.chg c10 (by omega)
 have q13 := Chg.step (l := c) (h := (c + 1)) c3 cs4 (by omega)
 have q14 := Chg.step (l := c) (h := (c + 1)) q13 c10 (by omega)
 refine sx_loop (fun mm aa w' => ∃ (s : Value) (os : List Int) (n2 : Int) (i2 : Int) (h2 : Int), Agr 24 [(0, .pointer (some ⟨c, 0, none⟩)), (3, s), (4, .int .i64 n2)] aa ∧ Chg c (c + 1) w w' ∧ Blk w' c [vb, .int .i64 i2, .int .i64 h2] 52 ∧ Own w' w.heap.size w'.heap.size s intT os.length 1 (os.map (Value.int .i64)) ∧ (mm = n2.toNat) ∧ (Wd os) ∧ ((os.length : Int) + n2 ≤ 6 ∧ 0 ≤ n2) ∧ (0 ≤ i2 ∧ i2 ≤ bs.length)) (_) (fun a ha => ⟨s4, ([1 + x3]), x10, i210, h210, ha.sub (Sub.c 0 rfl (.c 3 rfl (.c 4 (look_int (t := 4) rfl (by first | omega | simp)) .nil))), q14, xc_10, (f12.mono (by omega) (by omega)), rfl, Wd_one (by omega), by simp only [List.length_cons, List.length_nil]; omega, by omega⟩) ?_
 rintro mm aa wl11 ⟨s, os, n2, i2, h2, hAwl11, cwl11, hb_c, hs_s, hm, hwd, hln, hi2⟩
 refine (show cw Try.prog 24 _ _ _ wl11 from ?_) aa hAwl11
 clear hAwl11
 have zwl11 := cwl11.size
 have lt15 := hb_c.lt
 refine sx_seq fun K16 k16 => ?_
 refine sx_seq fun K17 k17 => sx_region ?_
 refine mv rfl rfl (sp rfl (px_gt rfl rfl) ?_)
 refine wl_nil (q_n (k17 _ _ ?_))
 refine sx_condP rfl (fun h123 => ?_) (fun h123 => ?_)
 ·
  refine sx_skip ?_
  refine q_n (k16 _ _ ?_)
  refine sx_seq fun K18 k18 => ?_
  refine sx_block ?_
  refine sx_region ?_
  refine mv rfl rfl (mv rfl rfl (mv rfl rfl ?_))
  have f19 := hvb.chg cwl11 (by omega)
  refine sx_call rfl rfl Try.call54 (c_l01Below hb_c f19 (by assumption) (by omega) (by omega) (by omega) (by omega)) (fun v20 w20 p20 => ?_)
  obtain ⟨x20, i220, h220, rfl, xc_20, hx20, hi220, c20⟩ := p20
  have zw20 := c20.size
  refine sx_lit7 rfl xelt23 rfl rfl rfl rfl rfl rfl rfl rfl rfl rfl rfl rfl rfl rfl (fun s21 ws21 ss21 fs21 cs21 => ?_)
  have ns21 := Own.norm (f := (Value.int .i64)) (zs := [0, 1, 1, 2, 3, 7, x20]) fs21
  have zws21 := cs21.size
  have f22 := xc_20.ext cs21
  have f24 := (f19.chg c20 (by omega)).ext cs21
  refine sx_call rfl rfl Try.call64 (c_l01Pick f22 f24 ns21.sv (by assumption) (by omega) (by omega) (by omega) (by first | omega | simp) (by omega)) (fun v25 w25 p25 => ?_)
  obtain ⟨x25, i225, h225, rfl, xc_25, hx25, hi225, c25⟩ := p25
  have zw25 := c25.size
  refine sx_lit1 rfl xelt23 rfl rfl (fun s26 ws26 ss26 fs26 cs26 => ?_)
  have ns26 := Own.norm (f := (Value.int .i64)) (zs := [x25]) fs26
  have zws26 := cs26.size
  have f29 := (hs_s.chg c20 (by omega)).ext cs21
  have f31 := (f29.chg c25 (by omega)).ext cs26
  refine sx_append rfl xelt23 rfl rfl f31 ns26.sv one_int (by omega) (by simp only [List.length_cons, List.length_nil]; omega) (by unfold maxLen; simp only [List.length_cons, List.length_nil]; omega) (fun a27 w27 fw27 cw27 => ?_)
  have nw27 := Own.app (f := (Value.int .i64)) (a := os) (b := [x25]) fw27
  have zw27 := cw27.size
  refine av rfl rfl (wl_nil ?_)
  refine q_bn (q_n (k18 _ _ ?_))
  refine sx_region ?_
  refine mv rfl rfl (sp rfl (px_sub rfl rfl (by omega)) ?_)
  refine av rfl rfl (wl_nil ?_)
  have q32 := Chg.step (l := c) (h := (c + 1)) cwl11 c20 (by omega)
  have q33 := Chg.step (l := c) (h := (c + 1)) q32 cs21 (by omega)
  have q34 := Chg.step (l := c) (h := (c + 1)) q33 c25 (by omega)
  have q35 := Chg.step (l := c) (h := (c + 1)) q34 cs26 (by omega)
  have q36 := Chg.step (l := c) (h := (c + 1)) q35 cw27 (by omega)
  have f37 := xc_25.ext cs26
  have f38 := f37.chg cw27 (by omega)
  have hb9 : 0 ≤ x25 ∧ x25 ≤ 99 := by have h9 := hx25; simp only [List.mem_cons, List.not_mem_nil, or_false] at h9; omega
  exact fun a ha => ⟨_, by omega, a27, (os ++ ([x25])), (n2 - 1), i225, h225, ha.sub (Sub.c 0 rfl (.c 3 rfl (.c 4 (look_int (t := 4) rfl (by first | omega | simp)) .nil))), q36, f38, (nw27.mono (by omega) (by omega)), rfl, Wd_snoc hwd hb9, by simp only [List.length_append, List.length_singleton]; omega, by omega⟩
 refine sx_exit ?_
 refine q_e (q_e (q_bx (q_n (k5 _ _ ?_))))
 refine sx_seq fun K39 k39 => sx_region ?_
 refine mv rfl rfl (av rfl rfl (wl_nil (q_n (k39 _ _ ?_))))
 refine sx_retc ?_
 refine sx_ret1 Try.results23 rfl ?_
 exact ⟨_, _, _, _, rfl, (Own.mono hs_s (by omega) (by omega)), hb_c, hwd, by omega, by omega, cwl11⟩

theorem c_MakeWeights {w : World} {vb : Value} {lvb uvb : Nat} {bs : List Int} (hvb : SlB w lvb uvb vb (bs)) (hb8 : ∀ j, j < bs.length → 0 ≤ bs.getD j 0 ∧ bs.getD j 0 ≤ 255) (hbl : bs.length ≤ 1048576) :
  Ret Try.prog 6 [vb] w fun v w' => ∃ s ws, v = s ∧ OwnI w' w.heap.size w'.heap.size s intT (ws) ∧ (Wd ws) ∧ ((ws).length ≤ 6) ∧ Chg 0 0 w w' := by
 have hvb0 := hvb.fit
 refine sx_enter Try.func6 rfl Try.ntmps6 (nbl rfl) ?_
 refine sx_seq fun K1 k1 => sx_region ?_
 refine av rfl rfl (wl_nil (q_n (k1 _ _ ?_)))
 refine sx_seq fun K2 k2 => sx_region ?_
 refine mv rfl rfl (sx_call rfl rfl Try.call21 (c_l01New hvb0 (by assumption) (by omega)) (fun v3 w3 p3 => ?_))
 obtain ⟨c3, h23, rfl, xc_3, hh3, hc3, cq3⟩ := p3
 have zw3 := cq3.size
 refine av rfl rfl (wl_nil (q_n (k2 _ _ ?_)))
 refine sx_seq fun K4 k4 => sx_region ?_
 refine mv rfl rfl ?_
 have f5 := hvb0.ext cq3
 refine sx_call rfl rfl Try.call23 (c_l12Draw xc_3 f5 (by assumption) (by omega) (by omega) (by omega)) (fun v6 w6 p6 => ?_)
 obtain ⟨s6, ws6, i26, h26, rfl, os_6, xc_6, hwd6, hwl6, hi26, c6⟩ := p6
 have zw6 := c6.size
 refine av rfl rfl (wl_nil (q_n (k4 _ _ ?_)))
 refine sx_retc ?_
 refine sx_ret1 Try.results6 rfl ?_
 have q7 := Chg.step (l := 0) (h := 0) (Chg.zero (l := 0) (h := 0) cq3) c6 (by omega)
 exact ⟨_, _, rfl, (Own.mono os_6 (by omega) (by omega)), by assumption, by assumption, q7⟩

theorem c_intsOk {w : World} {n1 : Bool} {v1 : Value} {lv1 uv1 : Nat} {z1 : List Int} {n2 : Bool} {v2 : Value} {lv2 uv2 : Nat} {z2 : List Int} (hv1 : Sl w lv1 uv1 v1 (z1)) (hv2 : Sl w lv2 uv2 v2 (z2)) (h63 : z1.length ≤ 4611686018427387904 ∧ z2.length ≤ 4611686018427387904) :
  Ret Try.prog 40 [.agg #[.bool n1, v1], .agg #[.bool n2, v2]] w fun v w' => v = .bool (decide (IOk n1 z1 ∧ IOk n2 z2)) ∧ Chg 0 0 w w' := by
 have hv10 := hv1.fit
 have hv20 := hv2.fit
 refine sx_enter Try.func40 rfl Try.ntmps40 (nbl rfl) ?_
 refine sx_seq fun K1 k1 => sx_region ?_
 refine sx_box [.bool n1, v1] rfl rfl rfl (fun b2 w3 eb2 sb2 fb2 cb2 => ?_)
 have zw3 := cb2.size
 refine sx_box [.bool n2, v2] rfl rfl rfl (fun b4 w5 eb4 sb4 fb4 cb4 => ?_)
 have zw5 := cb4.size
 refine av rfl rfl (wl_nil (q_n (k1 _ _ ?_)))
 refine sx_seq fun K6 k6 => sx_region ?_
 have f7 := fb2.ext cb4
 refine sp rfl (px_load rfl (f7.loadA (vs := [.bool n1, v1]) (look_lit rfl) Try.isAgg25 Try.sizeOf25)) ?_
 have f8 := hv10.ext cb2
 have f9 := f8.ext cb4
 refine sx_call rfl rfl Try.call25 (c_iIntOk f9 (by omega)) (fun v10 w10 p10 => ?_)
 obtain ⟨rfl, c10⟩ := p10
 have zw10 := c10.size
 refine mv rfl rfl ?_
 refine sx_tmpP (t := 7) rfl (fun h13 => ?_) (fun h13 => ?_)
 ·
  refine sx_guardT rfl rfl rfl ?_
  have f11 := fb4.ext c10
  refine sp rfl (px_load rfl (f11.loadA (vs := [.bool n2, v2]) (look_lit rfl) Try.isAgg25 Try.sizeOf25)) ?_
  refine sx_guardT rfl rfl rfl ?_
  have f12 := hv20.ext cb2
  have f13 := f12.ext cb4
  have f14 := f13.ext c10
  refine sx_call rfl rfl Try.call25 (c_iIntOk f14 (by omega)) (fun v15 w15 p15 => ?_)
  obtain ⟨rfl, c15⟩ := p15
  have zw15 := c15.size
  refine sp rfl (px_pick rfl rfl) ?_
  refine av rfl rfl (wl_nil (q_n (k6 _ _ ?_)))
  refine sx_retc ?_
  refine sx_ret1 Try.results40 rfl ?_
  exact ⟨(by first | exact bTrue (by grind) | exact bFalse (by grind) | exact bIff (by grind)), (((cb2.t cb4).t c10).t c15)⟩
 refine sx_guardF rfl rfl rfl rfl rfl rfl ?_
 refine sx_guardF rfl rfl rfl rfl rfl rfl ?_
 refine sp rfl (px_pick rfl rfl) ?_
 refine av rfl rfl (wl_nil (q_n (k6 _ _ ?_)))
 refine sx_retc ?_
 refine sx_ret1 Try.results40 rfl ?_
 exact ⟨(by first | exact bTrue (by grind) | exact bFalse (by grind) | exact bIff (by grind)), ((cb2.t cb4).t c10)⟩

theorem c_intAdd {w : World} {va : Value} {lva uva : Nat} {x : Int} {vb : Value} {lvb uvb : Nat} {y : Int} (hva : Sl w lva uva va (dg x.natAbs)) (hvb : Sl w lvb uvb vb (dg y.natAbs)) (hbx : (dg x.natAbs).length ≤ 1000) (hby : (dg y.natAbs).length ≤ 1000) :
  Ret Try.prog 57 [.agg #[.bool (ng x), va], .agg #[.bool (ng y), vb]] w fun v w' => ∃ s, v = .agg #[.bool (ng (x + y)), s] ∧ OwnI w' w.heap.size w'.heap.size s intT (dg (x + y).natAbs) ∧ Chg 0 0 w w' := by
 have hva0 := hva.fit
 have hvb0 := hvb.fit
 have l2 := len_add x.natAbs y.natAbs
 have l3 := len_le (Nat.sub_le x.natAbs y.natAbs)
 have l4 := len_le (Nat.sub_le y.natAbs x.natAbs)
 refine sx_enter Try.func57 rfl Try.ntmps57 (nbl rfl) ?_
 refine sx_seq fun K1 k1 => sx_region ?_
 refine sx_box [.bool (ng x), va] rfl rfl rfl (fun b2 w3 eb2 sb2 fb2 cb2 => ?_)
 have zw3 := cb2.size
 refine sx_box [.bool (ng y), vb] rfl rfl rfl (fun b4 w5 eb4 sb4 fb4 cb4 => ?_)
 have zw5 := cb4.size
 refine sx_alloc [.bool false, (.slice none 0 0)] rfl Try.zeroValue25 rfl (fun b6 w7 eb6 sb6 fb6 cb6 => ?_)
 have zw7 := cb6.size
 refine wl_nil (q_n (k1 _ _ ?_))
 refine sx_seq fun K8 k8 => ?_
 refine sx_seq fun K9 k9 => sx_region ?_
 refine sp rfl (px_field rfl xfld25x0) ?_
 have f10 := fb2.ext cb4
 have f11 := f10.ext cb6
 refine sp rfl (px_load rfl (f11.load1 rfl Try.isAgg4)) ?_
 refine sp rfl (px_field rfl xfld25x0) ?_
 have f12 := fb4.ext cb6
 refine sp rfl (px_load rfl (f12.load1 rfl Try.isAgg4)) ?_
 refine sp rfl (px_eqB Try.underlying4 rfl rfl) ?_
 refine wl_nil (q_n (k9 _ _ ?_))
 refine sx_condB rfl (fun h46 => ?_) (fun h46 => ?_)
 ·
  refine sx_seq fun K13 k13 => ?_
  have f14 := hva0.ext cb2
  have f15 := f14.ext cb4
  have f16 := f15.ext cb6
  have f17 := hvb0.ext cb2
  have f18 := f17.ext cb4
  have f19 := f18.ext cb6
  refine dx_region (fun w' => Chg b6 (b6 + 1) w7 w') (by kernel_rfl) (Chg.zero (Chg.drew _)) ?_
  have d20 := Chg.drew w7
  have s20 : Chg b6 (b6 + 1) w7 (World.drew w7) := Chg.zero (Chg.drew _)
  have y20 : (World.drew w7).heap.size = w7.heap.size := rfl
  generalize World.drew w7 = w20 at *
  have zw20 := d20.size
  refine dt 0 rfl rfl rfl rfl s20 (fun _ hS => px_field rfl xfld25x0) ?_
  refine dt 1 rfl rfl rfl rfl s20 (fun _ hS => px_load rfl ((f11.chg hS (by omega)).load1 rfl Try.isAgg4)) ?_
  refine dt 2 rfl rfl rfl rfl s20 (fun _ hS => px_field rfl xfld25x1) ?_
  refine dt 3 rfl rfl rfl rfl s20 (fun _ hS => px_load rfl ((f11.chg hS (by omega)).load1 rfl Try.isAgg23)) ?_
  refine dt 4 rfl rfl rfl rfl s20 (fun _ hS => px_field rfl xfld25x1) ?_
  refine dt 5 rfl rfl rfl rfl s20 (fun _ hS => px_load rfl ((f12.chg hS (by omega)).load1 rfl Try.isAgg23)) ?_
  refine dx_eff 6 rfl (by kernel_rfl) ?_
  have f21 := f16.ext d20
  have f22 := f19.ext d20
  refine sx_call rfl rfl Try.call38 (c_natAdd f21 f22 (by omega) (by omega)) (fun v23 w23 p23 => ?_)
  obtain ⟨s23, rfl, os_23, c23⟩ := p23
  have zw23 := c23.size
  have s24 : Chg b6 (b6 + 1) w7 w23 := (Chg.zero (l := b6) (h := (b6 + 1)) (d20.t c23))
  refine wl_nil ?_
  refine dx_next s24 ?_
  refine dx_eff 7 rfl (by kernel_rfl) ?_
  refine sx_call rfl rfl Try.call39 (c_signed os_23.sv (by omega)) (fun v25 w25 p25 => ?_)
  obtain ⟨rfl, c25⟩ := p25
  have zw25 := c25.size
  have s26 : Chg b6 (b6 + 1) w7 w25 := (Chg.zero (l := b6) (h := (b6 + 1)) ((d20.t c23).t c25))
  refine wl_nil ?_
  refine dx_next s26 ?_
  refine dx_eff 8 rfl (by kernel_rfl) ?_
  have f30 := ((fb6.ext d20).ext c23).ext c25
  have f31 := os_23.ext c25
  refine sx_store (vs := [.bool (nz (ng x) (dg (x.natAbs + y.natAbs))), v23]) rfl rfl f30 rfl Try.sizeOf25 (nbl rfl) (one_cons rfl (one_cons f31.one one_nil)) (fun w27 sw27 fw27 cw27 => ?_)
  have zw27 := cw27.size
  have gw27 : Blk w27 b6 [.bool (nz (ng x) (dg (x.natAbs + y.natAbs))), v23] 25 := fw27
  have q33 := Chg.step (l := b6) (h := (b6 + 1)) (Chg.zero (l := b6) (h := (b6 + 1)) ((d20.t c23).t c25)) cw27 (by omega)
  have s32 : Chg b6 (b6 + 1) w7 w27 := q33
  refine wl_nil ?_
  refine dx_next s32 ?_
  refine dx_done (by kernel_rfl) ?_
  refine q_n (k13 _ _ ?_)
  refine sx_sub (Sub.c 2 rfl (.c 3 rfl (.c 4 rfl .nil))) ?_
  refine sx_retc ?_
  refine q_r (sx_ret1 Try.results57 ⟨_, rfl, gw27.loadA (vs := [.bool (nz (ng x) (dg (x.natAbs + y.natAbs))), v23]) (look_lit rfl) Try.isAgg25 Try.sizeOf25⟩ ?_)
  have hh := add_sg h46
  rw [← hh.1, ← hh.2]
  have f34 := f31.chg cw27 (by omega)
  have q35 := Chg.step (l := 0) (h := 0) (Chg.zero (l := 0) (h := 0) (((((cb2.t cb4).t cb6).t d20).t c23).t c25)) cw27 (by omega)
  exact ⟨_, rfl, (Own.mono f34 (by omega) (by omega)), q35⟩
 refine sx_skip ?_
 refine q_n (k8 _ _ ?_)
 refine sx_seq fun K36 k36 => ?_
 refine sx_seq fun K37 k37 => sx_region ?_
 refine sp rfl (px_field rfl xfld25x1) ?_
 refine sp rfl (px_load rfl (f11.load1 rfl Try.isAgg23)) ?_
 refine sp rfl (px_field rfl xfld25x1) ?_
 refine sp rfl (px_load rfl (f12.load1 rfl Try.isAgg23)) ?_
 have f38 := hva0.ext cb2
 have f39 := f38.ext cb4
 have f40 := f39.ext cb6
 have f41 := hvb0.ext cb2
 have f42 := f41.ext cb4
 have f43 := f42.ext cb6
 refine sx_call rfl rfl Try.call35 (c_natCmp f40 f43 (by omega)) (fun v44 w44 p44 => ?_)
 obtain ⟨rfl, c44⟩ := p44
 have zw44 := c44.size
 refine sp rfl (px_lt rfl rfl) ?_
 refine wl_nil (q_n (k37 _ _ ?_))
 refine sx_sub (Sub.c 2 rfl (.c 3 rfl (.c 4 rfl (.c 23 rfl .nil)))) ?_
 refine sx_condP rfl (fun h49 => ?_) (fun h49 => ?_)
 ·
  rw [cmpL_dg] at h49
  have hlt := cmpN_neg.1 h49
  refine sx_region ?_
  have f45 := f12.ext c44
  refine sp rfl (px_load rfl (f45.loadA (vs := [.bool (ng y), vb]) (look_lit rfl) Try.isAgg25 Try.sizeOf25)) ?_
  have f46 := f11.ext c44
  refine sp rfl (px_load rfl (f46.loadA (vs := [.bool (ng x), va]) (look_lit rfl) Try.isAgg25 Try.sizeOf25)) ?_
  have f48 := f43.ext c44
  refine sx_store (vs := [.bool (ng y), vb]) rfl rfl f46 rfl Try.sizeOf25 (nbl rfl) (one_cons rfl (one_cons f48.one one_nil)) (fun w47 sw47 fw47 cw47 => ?_)
  have zw47 := cw47.size
  have gw47 : Blk w47 b2 [.bool (ng y), vb] 25 := fw47
  have f50 := f45.chg cw47 (by omega)
  have f52 := (f40.ext c44).chg cw47 (by omega)
  refine sx_store (vs := [.bool (ng x), va]) rfl rfl f50 rfl Try.sizeOf25 (nbl rfl) (one_cons rfl (one_cons f52.one one_nil)) (fun w49 sw49 fw49 cw49 => ?_)
  have zw49 := cw49.size
  have gw49 : Blk w49 b4 [.bool (ng x), va] 25 := fw49
  refine wl_nil (q_n (k36 _ _ ?_))
  refine sx_seq fun K53 k53 => ?_
  have f54 := gw47.chg cw49 (by omega)
  have f55 := f52.chg cw49 (by omega)
  have f56 := f48.chg cw47 (by omega)
  have f57 := f56.chg cw49 (by omega)
  refine dx_region (fun w' => Chg b6 (b6 + 1) w49 w') (by kernel_rfl) (Chg.zero (Chg.drew _)) ?_
  have d58 := Chg.drew w49
  have s58 : Chg b6 (b6 + 1) w49 (World.drew w49) := Chg.zero (Chg.drew _)
  have y58 : (World.drew w49).heap.size = w49.heap.size := rfl
  generalize World.drew w49 = w58 at *
  have zw58 := d58.size
  refine dt 0 rfl rfl rfl rfl s58 (fun _ hS => px_field rfl xfld25x0) ?_
  refine dt 1 rfl rfl rfl rfl s58 (fun _ hS => px_load rfl ((f54.chg hS (by omega)).load1 rfl Try.isAgg4)) ?_
  refine dt 2 rfl rfl rfl rfl s58 (fun _ hS => px_field rfl xfld25x1) ?_
  refine dt 3 rfl rfl rfl rfl s58 (fun _ hS => px_load rfl ((f54.chg hS (by omega)).load1 rfl Try.isAgg23)) ?_
  refine dt 4 rfl rfl rfl rfl s58 (fun _ hS => px_field rfl xfld25x1) ?_
  refine dt 5 rfl rfl rfl rfl s58 (fun _ hS => px_load rfl ((gw49.chg hS (by omega)).load1 rfl Try.isAgg23)) ?_
  refine dx_eff 6 rfl (by kernel_rfl) ?_
  have f59 := f57.ext d58
  have f60 := f55.ext d58
  refine sx_call rfl rfl Try.call31 (c_natSub f59 f60 (by omega) (by omega) (by omega)) (fun v61 w61 p61 => ?_)
  obtain ⟨s61, rfl, os_61, c61⟩ := p61
  have zw61 := c61.size
  have s62 : Chg b6 (b6 + 1) w49 w61 := (Chg.zero (l := b6) (h := (b6 + 1)) (d58.t c61))
  refine wl_nil ?_
  refine dx_next s62 ?_
  refine dx_eff 7 rfl (by kernel_rfl) ?_
  refine sx_call rfl rfl Try.call39 (c_signed os_61.sv (by omega)) (fun v63 w63 p63 => ?_)
  obtain ⟨rfl, c63⟩ := p63
  have zw63 := c63.size
  have s64 : Chg b6 (b6 + 1) w49 w63 := (Chg.zero (l := b6) (h := (b6 + 1)) ((d58.t c61).t c63))
  refine wl_nil ?_
  refine dx_next s64 ?_
  refine dx_eff 8 rfl (by kernel_rfl) ?_
  have f67 := (fb6.ext c44).chg cw47 (by omega)
  have f68 := f67.chg cw49 (by omega)
  have f71 := ((f68.ext d58).ext c61).ext c63
  have f72 := os_61.ext c63
  refine sx_store (vs := [.bool (nz (ng y) (dg (y.natAbs - x.natAbs))), v61]) rfl rfl f71 rfl Try.sizeOf25 (nbl rfl) (one_cons rfl (one_cons f72.one one_nil)) (fun w65 sw65 fw65 cw65 => ?_)
  have zw65 := cw65.size
  have gw65 : Blk w65 b6 [.bool (nz (ng y) (dg (y.natAbs - x.natAbs))), v61] 25 := fw65
  have q74 := Chg.step (l := b6) (h := (b6 + 1)) (Chg.zero (l := b6) (h := (b6 + 1)) ((d58.t c61).t c63)) cw65 (by omega)
  have s73 : Chg b6 (b6 + 1) w49 w65 := q74
  refine wl_nil ?_
  refine dx_next s73 ?_
  refine dx_done (by kernel_rfl) ?_
  refine q_n (k53 _ _ ?_)
  refine sx_retc ?_
  refine sx_ret1 Try.results57 ⟨_, rfl, gw65.loadA (vs := [.bool (nz (ng y) (dg (y.natAbs - x.natAbs))), v61]) (look_lit rfl) Try.isAgg25 Try.sizeOf25⟩ ?_
  have hh := (sub_sg2 h46 (by omega))
  rw [← hh.1, ← hh.2]
  have f75 := f72.chg cw65 (by omega)
  have q76 := Chg.step (l := 0) (h := 0) (Chg.zero (l := 0) (h := 0) (((cb2.t cb4).t cb6).t c44)) cw47 (by omega)
  have q77 := Chg.step (l := 0) (h := 0) q76 cw49 (by omega)
  have q78 := Chg.step (l := 0) (h := 0) q77 ((d58.t c61).t c63) (by omega)
  have q79 := Chg.step (l := 0) (h := 0) q78 cw65 (by omega)
  exact ⟨_, rfl, (Own.mono f75 (by omega) (by omega)), q79⟩
 rw [cmpL_dg] at h49
 have hge := cmpN_nonneg.1 (Int.not_lt.1 h49)
 refine sx_skip ?_
 refine q_n (k36 _ _ ?_)
 refine sx_seq fun K80 k80 => ?_
 have f81 := f11.ext c44
 have f82 := f12.ext c44
 refine dx_region (fun w' => Chg b6 (b6 + 1) w44 w') (by kernel_rfl) (Chg.zero (Chg.drew _)) ?_
 have d85 := Chg.drew w44
 have s85 : Chg b6 (b6 + 1) w44 (World.drew w44) := Chg.zero (Chg.drew _)
 have y85 : (World.drew w44).heap.size = w44.heap.size := rfl
 generalize World.drew w44 = w85 at *
 have zw85 := d85.size
 refine dt 0 rfl rfl rfl rfl s85 (fun _ hS => px_field rfl xfld25x0) ?_
 refine dt 1 rfl rfl rfl rfl s85 (fun _ hS => px_load rfl ((f81.chg hS (by omega)).load1 rfl Try.isAgg4)) ?_
 refine dt 2 rfl rfl rfl rfl s85 (fun _ hS => px_field rfl xfld25x1) ?_
 refine dt 3 rfl rfl rfl rfl s85 (fun _ hS => px_load rfl ((f81.chg hS (by omega)).load1 rfl Try.isAgg23)) ?_
 refine dt 4 rfl rfl rfl rfl s85 (fun _ hS => px_field rfl xfld25x1) ?_
 refine dt 5 rfl rfl rfl rfl s85 (fun _ hS => px_load rfl ((f82.chg hS (by omega)).load1 rfl Try.isAgg23)) ?_
 refine dx_eff 6 rfl (by kernel_rfl) ?_
 have f86 := (f40.ext c44).ext d85
 have f87 := (f43.ext c44).ext d85
 refine sx_call rfl rfl Try.call31 (c_natSub f86 f87 (by omega) (by omega) (by omega)) (fun v88 w88 p88 => ?_)
 obtain ⟨s88, rfl, os_88, c88⟩ := p88
 have zw88 := c88.size
 have s89 : Chg b6 (b6 + 1) w44 w88 := (Chg.zero (l := b6) (h := (b6 + 1)) (d85.t c88))
 refine wl_nil ?_
 refine dx_next s89 ?_
 refine dx_eff 7 rfl (by kernel_rfl) ?_
 refine sx_call rfl rfl Try.call39 (c_signed os_88.sv (by omega)) (fun v90 w90 p90 => ?_)
 obtain ⟨rfl, c90⟩ := p90
 have zw90 := c90.size
 have s91 : Chg b6 (b6 + 1) w44 w90 := (Chg.zero (l := b6) (h := (b6 + 1)) ((d85.t c88).t c90))
 refine wl_nil ?_
 refine dx_next s91 ?_
 refine dx_eff 8 rfl (by kernel_rfl) ?_
 have f96 := (((fb6.ext c44).ext d85).ext c88).ext c90
 have f97 := os_88.ext c90
 refine sx_store (vs := [.bool (nz (ng x) (dg (x.natAbs - y.natAbs))), v88]) rfl rfl f96 rfl Try.sizeOf25 (nbl rfl) (one_cons rfl (one_cons f97.one one_nil)) (fun w92 sw92 fw92 cw92 => ?_)
 have zw92 := cw92.size
 have gw92 : Blk w92 b6 [.bool (nz (ng x) (dg (x.natAbs - y.natAbs))), v88] 25 := fw92
 have q99 := Chg.step (l := b6) (h := (b6 + 1)) (Chg.zero (l := b6) (h := (b6 + 1)) ((d85.t c88).t c90)) cw92 (by omega)
 have s98 : Chg b6 (b6 + 1) w44 w92 := q99
 refine wl_nil ?_
 refine dx_next s98 ?_
 refine dx_done (by kernel_rfl) ?_
 refine q_n (k80 _ _ ?_)
 refine sx_retc ?_
 refine sx_ret1 Try.results57 ⟨_, rfl, gw92.loadA (vs := [.bool (nz (ng x) (dg (x.natAbs - y.natAbs))), v88]) (look_lit rfl) Try.isAgg25 Try.sizeOf25⟩ ?_
 have hh := sub_sg h46 hge
 rw [← hh.1, ← hh.2]
 have f100 := f97.chg cw92 (by omega)
 have q101 := Chg.step (l := 0) (h := 0) (Chg.zero (l := 0) (h := 0) ((((((cb2.t cb4).t cb6).t c44).t d85).t c88).t c90)) cw92 (by omega)
 exact ⟨_, rfl, (Own.mono f100 (by omega) (by omega)), q101⟩

theorem c_fitK {w : World} {va : Value} {lva uva : Nat} {m : Nat} (hva : OwnI w lva uva va intT (dg m)) (hbm : (dg m).length ≤ 50) :
  Ret Try.prog 83 [va] w fun v w' => ∃ s, v = s ∧ OwnI w' (lva) (uva) s intT (dg m) ∧ Chg 0 0 w w' := by
 have hLm := Lm_dg m
 refine sx_enter Try.func83 rfl Try.ntmps83 (nbl rfl) ?_
 refine sx_seq fun K1 k1 => sx_region ?_
 refine av rfl rfl (wl_nil (q_n (k1 _ _ ?_)))
 refine sx_seq fun K2 k2 => sx_region ?_
 refine mv rfl rfl (sx_call rfl rfl Try.call68 (c_trim hva (by assumption) (by first | omega | (simp only [List.length_append, List.length_set, List.length_replicate, List.length_cons, List.length_nil] at *; omega))) (fun v3 w3 p3 => ?_))
 obtain ⟨s3, rfl, os_3, c3⟩ := p3
 have zw3 := c3.size
 refine av rfl rfl (wl_nil (q_n (k2 _ _ ?_)))
 refine sx_seq fun K4 k4 => ?_
 refine sx_seq fun K5 k5 => sx_region ?_
 refine mv rfl rfl (sp rfl (px_len rfl Try.underlying23 os_3.sv) ?_)
 refine sp rfl (px_gt rfl rfl) ?_
 refine wl_nil (q_n (k5 _ _ ?_))
 have h38 : ¬ ((50 : Int) < ↑((dg (vl (dg m))).length)) := by rw [vl_dg]; omega
 refine sx_condPF rfl h38 ?_
 refine sx_skip ?_
 refine q_n (k4 _ _ ?_)
 refine sx_seq fun K6 k6 => sx_region ?_
 refine mv rfl rfl (av rfl rfl (wl_nil (q_n (k6 _ _ ?_))))
 refine sx_retc ?_
 refine sx_ret1 Try.results83 rfl ?_
 have hs := os_3
 rw [vl_dg] at hs
 exact ⟨_, rfl, hs, c3⟩

theorem c_fitIntK {w : World} {va : Value} {lva uva : Nat} {x : Int} (hva : OwnI w lva uva va intT (dg x.natAbs)) (hbx : (dg x.natAbs).length ≤ 50) (hu : uva ≤ w.heap.size) :
  Ret Try.prog 56 [.agg #[.bool (ng x), va]] w fun v w' => ∃ s, v = .agg #[.bool (ng x), s] ∧ OwnI w' (lva) (uva) s intT (dg (x).natAbs) ∧ Chg 0 0 w w' := by
 refine sx_enter Try.func56 rfl Try.ntmps56 (nbl rfl) ?_
 refine sx_seq fun K1 k1 => sx_region ?_
 refine sx_box [.bool (ng x), va] rfl rfl rfl (fun b2 w3 eb2 sb2 fb2 cb2 => ?_)
 have zw3 := cb2.size
 refine sx_alloc [.bool false, (.slice none 0 0)] rfl Try.zeroValue25 rfl (fun b4 w5 eb4 sb4 fb4 cb4 => ?_)
 have zw5 := cb4.size
 refine wl_nil (q_n (k1 _ _ ?_))
 refine sx_seq fun K6 k6 => ?_
 have f7 := fb2.ext cb4
 have f8 := hva.ext cb2
 have f9 := f8.ext cb4
 refine dx_region (fun w' => Chg b4 (b4 + 1) w5 w') (by kernel_rfl) (Chg.zero (Chg.drew _)) ?_
 have d10 := Chg.drew w5
 have s10 : Chg b4 (b4 + 1) w5 (World.drew w5) := Chg.zero (Chg.drew _)
 have y10 : (World.drew w5).heap.size = w5.heap.size := rfl
 generalize World.drew w5 = w10 at *
 have zw10 := d10.size
 refine dt 0 rfl rfl rfl rfl s10 (fun _ hS => px_field rfl xfld25x0) ?_
 refine dt 1 rfl rfl rfl rfl s10 (fun _ hS => px_load rfl ((f7.chg hS (by omega)).load1 rfl Try.isAgg4)) ?_
 refine dt 2 rfl rfl rfl rfl s10 (fun _ hS => px_field rfl xfld25x1) ?_
 refine dt 3 rfl rfl rfl rfl s10 (fun _ hS => px_load rfl ((f7.chg hS (by omega)).load1 rfl Try.isAgg23)) ?_
 refine dx_eff 4 rfl (by kernel_rfl) ?_
 have f11 := f9.ext d10
 refine sx_call rfl rfl Try.call83 (c_fitK f11 (by omega)) (fun v12 w12 p12 => ?_)
 obtain ⟨s12, rfl, os_12, c12⟩ := p12
 have zw12 := c12.size
 have s13 : Chg b4 (b4 + 1) w5 w12 := (Chg.zero (l := b4) (h := (b4 + 1)) (d10.t c12))
 refine wl_nil ?_
 refine dx_next s13 ?_
 refine dx_eff 5 rfl (by kernel_rfl) ?_
 refine sx_call rfl rfl Try.call39 (c_signed os_12.sv (by omega)) (fun v14 w14 p14 => ?_)
 obtain ⟨rfl, c14⟩ := p14
 have zw14 := c14.size
 have s15 : Chg b4 (b4 + 1) w5 w14 := (Chg.zero (l := b4) (h := (b4 + 1)) ((d10.t c12).t c14))
 refine wl_nil ?_
 refine dx_next s15 ?_
 refine dx_eff 6 rfl (by kernel_rfl) ?_
 have f19 := ((fb4.ext d10).ext c12).ext c14
 have f20 := os_12.ext c14
 refine sx_store (vs := [.bool (nz (ng x) (dg x.natAbs)), v12]) rfl rfl f19 rfl Try.sizeOf25 (nbl rfl) (one_cons rfl (one_cons f20.one one_nil)) (fun w16 sw16 fw16 cw16 => ?_)
 have zw16 := cw16.size
 have gw16 : Blk w16 b4 [.bool (nz (ng x) (dg x.natAbs)), v12] 25 := fw16
 have q22 := Chg.step (l := b4) (h := (b4 + 1)) (Chg.zero (l := b4) (h := (b4 + 1)) ((d10.t c12).t c14)) cw16 (by omega)
 have s21 : Chg b4 (b4 + 1) w5 w16 := q22
 refine wl_nil ?_
 refine dx_next s21 ?_
 refine dx_done (by kernel_rfl) ?_
 refine q_n (k6 _ _ ?_)
 refine sx_retc ?_
 refine sx_ret1 Try.results56 ⟨_, rfl, gw16.loadA (vs := [.bool (nz (ng x) (dg x.natAbs)), v12]) (look_lit rfl) Try.isAgg25 Try.sizeOf25⟩ ?_
 rw [same_sg.1]
 have q23 := Chg.step (l := 0) (h := 0) (Chg.zero (l := 0) (h := 0) ((((cb2.t cb4).t d10).t c12).t c14)) cw16 (by omega)
 have f24 := f20.chg cw16 (by omega)
 exact ⟨_, rfl, f24, q23⟩

theorem c_iIntAddK {w : World} {va : Value} {lva uva : Nat} {x : Int} {vb : Value} {lvb uvb : Nat} {y : Int} (hva : Sl w lva uva va (dg x.natAbs)) (hvb : Sl w lvb uvb vb (dg y.natAbs)) (hbx : (dg x.natAbs).length ≤ 49) (hby : (dg y.natAbs).length ≤ 49) :
  Ret Try.prog 42 [.agg #[.bool (ng x), va], .agg #[.bool (ng y), vb]] w fun v w' => ∃ s, v = .agg #[.bool (ng (x + y)), s] ∧ OwnI w' w.heap.size w'.heap.size s intT (dg (x + y).natAbs) ∧ Chg 0 0 w w' := by
 have hva0 := hva.fit
 have hvb0 := hvb.fit
 have hla := len_addI x y
 refine sx_enter Try.func42 rfl Try.ntmps42 (nbl rfl) ?_
 refine sx_seq fun K1 k1 => sx_region ?_
 refine sx_box [.bool (ng x), va] rfl rfl rfl (fun b2 w3 eb2 sb2 fb2 cb2 => ?_)
 have zw3 := cb2.size
 refine sx_box [.bool (ng y), vb] rfl rfl rfl (fun b4 w5 eb4 sb4 fb4 cb4 => ?_)
 have zw5 := cb4.size
 refine sx_alloc [.bool false, (.slice none 0 0)] rfl Try.zeroValue25 rfl (fun b6 w7 eb6 sb6 fb6 cb6 => ?_)
 have zw7 := cb6.size
 refine wl_nil (q_n (k1 _ _ ?_))
 refine sx_seq fun K8 k8 => ?_
 refine sx_seq fun K9 k9 => sx_region ?_
 have f10 := fb2.ext cb4
 have f11 := f10.ext cb6
 refine sp rfl (px_load rfl (f11.loadA (vs := [.bool (ng x), va]) (look_lit rfl) Try.isAgg25 Try.sizeOf25)) ?_
 have f12 := fb4.ext cb6
 refine sp rfl (px_load rfl (f12.loadA (vs := [.bool (ng y), vb]) (look_lit rfl) Try.isAgg25 Try.sizeOf25)) ?_
 have f13 := hva0.ext cb2
 have f14 := f13.ext cb4
 have f15 := f14.ext cb6
 have f16 := hvb0.ext cb2
 have f17 := f16.ext cb4
 have f18 := f17.ext cb6
 refine sx_call rfl rfl Try.call40 (c_intsOk f15 f18 (by omega)) (fun v19 w19 p19 => ?_)
 obtain ⟨rfl, c19⟩ := p19
 have zw19 := c19.size
 refine sp rfl (px_notP rfl) ?_
 refine wl_nil (q_n (k9 _ _ ?_))
 have h76 : ¬ (¬ (IOk (ng x) (dg x.natAbs) ∧ IOk (ng y) (dg y.natAbs))) := fun h => h ⟨IOk_ng (by omega), IOk_ng (by omega)⟩
 refine sx_condPF rfl h76 ?_
 refine sx_skip ?_
 refine q_n (k8 _ _ ?_)
 refine sx_seq fun K20 k20 => sx_region ?_
 have f21 := f11.ext c19
 refine sp rfl (px_load rfl (f21.loadA (vs := [.bool (ng x), va]) (look_lit rfl) Try.isAgg25 Try.sizeOf25)) ?_
 have f22 := f12.ext c19
 refine sp rfl (px_load rfl (f22.loadA (vs := [.bool (ng y), vb]) (look_lit rfl) Try.isAgg25 Try.sizeOf25)) ?_
 have f23 := f15.ext c19
 have f24 := f18.ext c19
 refine sx_call rfl rfl Try.call57 (c_intAdd f23 f24 (by omega) (by omega)) (fun v25 w25 p25 => ?_)
 obtain ⟨s25, rfl, os_25, c25⟩ := p25
 have zw25 := c25.size
 refine sx_call rfl rfl Try.call56 (c_fitIntK os_25 (by omega) (by omega)) (fun v26 w26 p26 => ?_)
 obtain ⟨s26, rfl, os_26, c26⟩ := p26
 have zw26 := c26.size
 have f30 := ((fb6.ext c19).ext c25).ext c26
 refine sx_store (vs := [.bool (ng (x + y)), s26]) rfl rfl f30 rfl Try.sizeOf25 (nbl rfl) (one_cons rfl (one_cons os_26.one one_nil)) (fun w27 sw27 fw27 cw27 => ?_)
 have zw27 := cw27.size
 have gw27 : Blk w27 b6 [.bool (ng (x + y)), s26] 25 := fw27
 refine wl_nil (q_n (k20 _ _ ?_))
 refine sx_retc ?_
 refine sx_ret1 Try.results42 ⟨_, rfl, gw27.loadA (vs := [.bool (ng (x + y)), s26]) (look_lit rfl) Try.isAgg25 Try.sizeOf25⟩ ?_
 have q31 := Chg.step (l := 0) (h := 0) (Chg.zero (l := 0) (h := 0) (((((cb2.t cb4).t cb6).t c19).t c25).t c26)) cw27 (by omega)
 have f32 := os_26.chg cw27 (by omega)
 exact ⟨_, rfl, (Own.mono f32 (by omega) (by omega)), q31⟩

theorem c_iIntSumK {w : World} {vl : Value} {lvl uvl : Nat} {zs : List Int} {vvl : List Value} (hvl : SgS w lvl uvl vl zs vvl) (hn : zs.length ≤ 30) (hbl : ∀ i, i < zs.length → (dg (zs.getD i 0).natAbs).length ≤ 10) :
  Ret Try.prog 9 [vl] w fun v w' => ∃ s, v = .agg #[.bool (ng ((zs).sum)), s] ∧ OwnI w' w.heap.size w'.heap.size s intT (dg ((zs).sum).natAbs) ∧ Chg 0 0 w w' := by
 have hvl0 := hvl.fit
 refine sx_enter Try.func9 rfl Try.ntmps9 (nbl rfl) ?_
 refine sx_seq fun K1 k1 => sx_region ?_
 refine sx_alloc [.bool false, (.slice none 0 0)] rfl Try.zeroValue25 rfl (fun b2 w3 eb2 sb2 fb2 cb2 => ?_)
 have zw3 := cb2.size
 refine wl_nil (q_n (k1 _ _ ?_))
 refine sx_seq fun K4 k4 => sx_region ?_
 refine sp rfl (px_build rfl (xbld25x  _)) ?_
 refine sx_alloc [.bool false, (.slice none 0 0)] rfl Try.zeroValue25 rfl (fun b5 w6 eb5 sb5 fb5 cb5 => ?_)
 have zw6 := cb5.size
 refine sx_store (vs := [.bool false, (.slice none 0 0)]) rfl rfl fb5 rfl Try.sizeOf25 (nbl rfl) (o2 rfl rfl) (fun w7 sw7 fw7 cw7 => ?_)
 have zw7 := cw7.size
 have gw7 : Blk w7 b5 [.bool false, (.slice none 0 0)] 25 := fw7
 refine wl_nil (q_n (k4 _ _ ?_))
 refine sx_seq fun K8 k8 => ?_
 refine sx_seq fun K9 k9 => sx_region ?_
 refine mv rfl rfl ?_
 have f10 := hvl0.ext cb2
 have f11 := f10.ext cb5
 have f12 := f11.chg cw7 (by omega)
 refine sp rfl (px_len rfl Try.underlying28 f12.sv) ?_
 refine mv rfl rfl (wl_nil (q_n (k9 _ _ ?_)))
 refine sx_block ?_
 have hbz : Blk w7 b5 [.bool (ng (0 : Int)), (.slice none 0 0)] 25 := gw7
 have hnz : OwnI w7 w7.heap.size w7.heap.size (.slice none 0 0) intT (dg (0 : Int).natAbs) := by rw [show (0 : Int).natAbs = 0 from rfl, dg_zero]; exact Own.nil _ _ _ _ _
 have f14 := fb2.ext cb5
 have f15 := f14.chg cw7 (by omega)
 refine sx_loop (fun mm aa w' => ∃ (k : Nat) (y : Int) (s : Value) (gl : Nat) (gh : Nat), Agr 22 [(2, .pointer (some ⟨b2, 0, none⟩)), (3, .pointer (some ⟨b5, 0, none⟩)), (7, vl), (8, .int .i64 (↑((zs).length))), (9, .int .i64 ↑k)] aa ∧ Chg b5 (b5 + 1) w7 w' ∧ Blk w' b5 [.bool (ng (y)), s] 25 ∧ Blk w' b2 [.bool false, (.slice none 0 0)] 25 ∧ Own w' gl gh s intT ((dg (y).natAbs).length) 1 ((dg (y).natAbs).map (Value.int .i64)) ∧ (mm = zs.length - k) ∧ (k ≤ zs.length) ∧ (y = (zs.take k).sum) ∧ (w7.heap.size ≤ gl ∧ gh ≤ w'.heap.size)) (_) (fun a ha => ⟨0, (0 : Int), (.slice none 0 0), w7.heap.size, w7.heap.size, ha.sub (Sub.c 2 rfl (.c 3 rfl (.c 7 rfl (.c 8 rfl (.c 9 (look_int (t := 9) rfl (by first | omega | simp)) .nil))))), Chg.refl _ _ _, hbz, f15, hnz, rfl, by omega, rfl, ⟨Nat.le_refl _, Nat.le_refl _⟩⟩) ?_
 rintro mm aa wl13 ⟨k, y, s, gl, gh, hAwl13, cwl13, hb_b5, hb_b2, hs_s, hm, hk, hy, hgl⟩
 refine (show cw Try.prog 22 _ _ _ wl13 from ?_) aa hAwl13
 clear hAwl13
 have zwl13 := cwl13.size
 have hsl := sum_lenI hbl (k := k) (by omega) (by omega)
 rw [← hy] at hsl
 have hbk := hbl k
 refine sx_seq fun K16 k16 => sx_region ?_
 refine sp rfl (px_lt rfl rfl) ?_
 refine wl_nil (q_n (k16 _ _ ?_))
 refine sx_seq fun K17 k17 => ?_
 refine sx_condP rfl (fun h131 => ?_) (fun h131 => ?_)
 ·
  refine sx_skip ?_
  refine q_n (k17 _ _ ?_)
  refine sx_seq fun K18 k18 => ?_
  refine sx_block ?_
  refine sx_seq fun K19 k19 => sx_region ?_
  have f20 := f12.chg cwl13 (by omega)
  refine sp rfl (px_indexK (j := k) rfl rfl (by omega) Try.underlying28 Try.sizeOf25 f20.sv (by omega)) ?_
  refine sp rfl (px_load rfl (f20.sv.loadA (sg_look (by omega)) Try.isAgg25 Try.sizeOf25)) ?_
  refine sx_alloc [.bool false, (.slice none 0 0)] rfl Try.zeroValue25 rfl (fun b21 w22 eb21 sb21 fb21 cb21 => ?_)
  have zw22 := cb21.size
  have f24 := (f20.nest k (by omega)).ext cb21
  refine sx_store (vs := [.bool (ng (zs.getD k 0)), (vvl.getD k vz)]) rfl rfl fb21 rfl Try.sizeOf25 (nbl rfl) (one_cons rfl (one_cons f24.one one_nil)) (fun w23 sw23 fw23 cw23 => ?_)
  have zw23 := cw23.size
  have gw23 : Blk w23 b21 [.bool (ng (zs.getD k 0)), (vvl.getD k vz)] 25 := fw23
  refine wl_nil (q_n (k19 _ _ ?_))
  refine sx_seq fun K25 k25 => ?_
  refine sx_seq fun K26 k26 => sx_region ?_
  refine sp rfl (px_load rfl (gw23.loadA (vs := [.bool (ng (zs.getD k 0)), (vvl.getD k vz)]) (look_lit rfl) Try.isAgg25 Try.sizeOf25)) ?_
  have f27 := f24.chg cw23 (by omega)
  refine sx_call rfl rfl Try.call25 (c_iIntOk f27 (by omega)) (fun v28 w28 p28 => ?_)
  obtain ⟨rfl, c28⟩ := p28
  have zw28 := c28.size
  refine sp rfl (px_notP rfl) ?_
  refine wl_nil (q_n (k26 _ _ ?_))
  have h132 : ¬ (¬ (IOk (ng (zs.getD k 0)) (dg (zs.getD k 0).natAbs))) := fun h => h (IOk_ng (by have := hbk (by omega); omega))
  refine sx_condPF rfl h132 ?_
  refine sx_skip ?_
  refine q_n (k25 _ _ ?_)
  refine sx_region ?_
  have f29 := hb_b5.ext cb21
  have f30 := f29.chg cw23 (by omega)
  have f31 := f30.ext c28
  refine sp rfl (px_load rfl (f31.loadA (vs := [.bool (ng (y)), s]) (look_lit rfl) Try.isAgg25 Try.sizeOf25)) ?_
  have f32 := gw23.ext c28
  refine sp rfl (px_load rfl (f32.loadA (vs := [.bool (ng (zs.getD k 0)), (vvl.getD k vz)]) (look_lit rfl) Try.isAgg25 Try.sizeOf25)) ?_
  have f33 := hs_s.ext cb21
  have f34 := f33.chg cw23 (by omega)
  have f35 := f34.ext c28
  have f36 := f27.ext c28
  refine sx_call rfl rfl Try.call42 (c_iIntAddK f35.sv f36 (by first | omega | (rw [Int.natAbs_natCast]; omega)) (by have := hbk (by omega); omega)) (fun v37 w37 p37 => ?_)
  obtain ⟨s37, rfl, os_37, c37⟩ := p37
  have zw37 := c37.size
  have f39 := f31.ext c37
  refine sx_store (vs := [.bool (ng ((y) + (zs.getD k 0))), s37]) rfl rfl f39 rfl Try.sizeOf25 (nbl rfl) (one_cons rfl (one_cons os_37.one one_nil)) (fun w38 sw38 fw38 cw38 => ?_)
  have zw38 := cw38.size
  have gw38 : Blk w38 b5 [.bool (ng ((y) + (zs.getD k 0))), s37] 25 := fw38
  refine wl_nil ?_
  refine q_bn (q_n (k18 _ _ ?_))
  refine sx_sub (Sub.c 2 rfl (.c 3 rfl (.c 7 rfl (.c 8 rfl (.c 9 rfl .nil))))) ?_
  refine sx_region ?_
  refine sp rfl (px_add rfl rfl (by omega)) ?_
  refine mv rfl rfl (wl_nil ?_)
  have q40 := Chg.step (l := b5) (h := (b5 + 1)) cwl13 cb21 (by omega)
  have q41 := Chg.step (l := b5) (h := (b5 + 1)) q40 cw23 (by omega)
  have q42 := Chg.step (l := b5) (h := (b5 + 1)) q41 (c28.t c37) (by omega)
  have q43 := Chg.step (l := b5) (h := (b5 + 1)) q42 cw38 (by omega)
  have f44 := hb_b2.ext cb21
  have f45 := f44.chg cw23 (by omega)
  have f48 := ((f45.ext c28).ext c37).chg cw38 (by omega)
  have f49 := os_37.chg cw38 (by omega)
  exact fun a ha => ⟨_, by omega, (k + 1), (y + zs.getD k 0), s37, w28.heap.size, w37.heap.size, ha.sub (Sub.c 2 rfl (.c 3 rfl (.c 7 rfl (.c 8 rfl (.c 9 (look_int (t := 9) rfl (by first | omega | simp)) .nil))))), q43, gw38, f48, (f49.mono (by omega) (by omega)), rfl, by omega, by rw [hy, ← sum_take_succ (by omega)], by omega⟩
 refine sx_exit ?_
 refine q_e (q_e (q_bx (q_n (k8 _ _ ?_))))
 refine sx_seq fun K50 k50 => sx_region ?_
 refine sp rfl (px_load rfl (hb_b5.loadA (vs := [.bool (ng (y)), s]) (look_lit rfl) Try.isAgg25 Try.sizeOf25)) ?_
 refine sx_store (vs := [.bool (ng (y)), s]) rfl rfl hb_b2 rfl Try.sizeOf25 (nbl rfl) (one_cons rfl (one_cons hs_s.one one_nil)) (fun w51 sw51 fw51 cw51 => ?_)
 have zw51 := cw51.size
 have gw51 : Blk w51 b2 [.bool (ng (y)), s] 25 := fw51
 refine wl_nil (q_n (k50 _ _ ?_))
 refine sx_retc ?_
 refine sx_ret1 Try.results9 ⟨_, rfl, gw51.loadA (vs := [.bool (ng (y)), s]) (look_lit rfl) Try.isAgg25 Try.sizeOf25⟩ ?_
 have ek : k = zs.length := by omega
 rw [ek, List.take_length] at hy
 rw [← hy]
 have q52 := Chg.step (l := 0) (h := 0) (Chg.zero (l := 0) (h := 0) (cb2.t cb5)) cw7 (by omega)
 have q53 := Chg.step (l := 0) (h := 0) q52 cwl13 (by omega)
 have q54 := Chg.step (l := 0) (h := 0) q53 cw51 (by omega)
 have f55 := hs_s.chg cw51 (by omega)
 exact ⟨_, rfl, (Own.mono f55 (by omega) (by omega)), q54⟩

theorem c_iShares {w : World} {va : Value} {lva uva : Nat} {x : Int} {vw : Value} {lvw uvw : Nat} {ws : List Int} (hva : Sl w lva uva va (dg x.natAbs)) (hvw : Sl w lvw uvw vw (ws)) (hW : WOk ws) (hx : (dg x.natAbs).length ≤ 8) (hor : ws.length ≤ 19 ∨ SortTo (sR x.natAbs ws) (List.range ws.length) ws.length) :
  Ret Try.prog 7 [.agg #[.bool (ng x), va], vw] w fun v w' => ∃ s us, v = .tuple #[s, .bool (true)] ∧ SgS w' (0) (w'.heap.size) s (shrs x ws) us ∧ ((∃ ix : List Nat, ix.Perm (List.range (ws).length) ∧ SortTo (sR (x).natAbs ws) ix (ws).length)) ∧ Chg 0 0 w w' := by
 have hva0 := hva.fit
 have hvw0 := hvw.fit
 have hn1 := hW.1
 have hn2 := hW.2.1
 have htl := tW_len hW
 have hmt : ∀ (jx : List Nat) (j i : Nat), i < ws.length → (dg (mgT x.natAbs ws jx j i)).length ≤ 9 := fun jx j i hi => by
  have h1 := sQ_le (X := x.natAbs) hW hi
  have h2 := lt_of_dg_len hx
  exact dg_len_le (Nat.lt_of_le_of_lt (show mgT x.natAbs ws jx j i ≤ x.natAbs + 1 by unfold mgT; split <;> omega) (by simp only [Bs] at *; omega))
 refine sx_enter Try.func7 rfl Try.ntmps7 (nbl rfl) ?_
 refine sx_seq fun K1 k1 => sx_region ?_
 refine sx_box [.bool (ng x), va] rfl rfl rfl (fun b2 w3 eb2 sb2 fb2 cb2 => ?_)
 have zw3 := cb2.size
 refine av rfl rfl (av rfl rfl (wl_nil (q_n (k1 _ _ ?_))))
 refine sx_seq fun K4 k4 => ?_
 refine sx_seq fun K5 k5 => sx_region ?_
 refine mv rfl rfl ?_
 have f6 := hvw0.ext cb2
 refine sx_call rfl rfl Try.call24 (c_iWeightsOk f6 (by omega)) (fun v7 w7 p7 => ?_)
 obtain ⟨rfl, c7⟩ := p7
 have zw7 := c7.size
 refine sp rfl (px_notP rfl) ?_
 refine mv rfl rfl ?_
 have h61 : ¬ (¬ (WOk ws)) := fun h => h hW
 refine sx_tmpPF (t := 25) rfl h61 ?_
 refine sx_guardT rfl rfl rfl ?_
 have f8 := fb2.ext c7
 refine sp rfl (px_load rfl (f8.loadA (vs := [.bool (ng x), va]) (look_lit rfl) Try.isAgg25 Try.sizeOf25)) ?_
 refine sx_guardT rfl rfl rfl ?_
 have f9 := hva0.ext cb2
 have f10 := f9.ext c7
 refine sx_call rfl rfl Try.call25 (c_iIntOk f10 (by omega)) (fun v11 w11 p11 => ?_)
 obtain ⟨rfl, c11⟩ := p11
 have zw11 := c11.size
 refine sx_guardT rfl rfl rfl ?_
 refine sp rfl (px_notP rfl) ?_
 refine sp rfl (px_pick rfl rfl) ?_
 refine wl_nil (q_n (k5 _ _ ?_))
 have h61x1 : ¬ (¬ (IOk (ng x) (dg x.natAbs))) := fun h => h (IOk_ng (by omega))
 refine sx_condPF rfl h61x1 ?_
 refine sx_skip ?_
 refine q_n (k4 _ _ ?_)
 refine sx_seq fun K12 k12 => sx_region ?_
 refine mv rfl rfl ?_
 have f14 := (f6.ext c7).ext c11
 refine sx_call rfl rfl Try.call27 (c_sumInts f14 (hW.2.1) (hW.2.2.1)) (fun v15 w15 p15 => ?_)
 obtain ⟨rfl, c15⟩ := p15
 have zw15 := c15.size
 refine sx_call rfl rfl Try.call26 (c_iNatOf (by have := w_sum hW; omega)) (fun v16 w16 p16 => ?_)
 obtain ⟨s16, rfl, os_16, c16⟩ := p16
 have zw16 := c16.size
 refine av rfl rfl (wl_nil (q_n (k12 _ _ ?_)))
 refine sx_sub (Sub.c 1 rfl (.c 2 rfl (.c 4 rfl (.c 5 rfl (.c 6 rfl .nil))))) ?_
 refine sx_seq fun K17 k17 => sx_region ?_
 refine sp rfl (px_field rfl xfld25x1) ?_
 have f20 := ((f8.ext c11).ext c15).ext c16
 refine sp rfl (px_load rfl (f20.load1 rfl Try.isAgg23)) ?_
 have f23 := ((f10.ext c11).ext c15).ext c16
 refine sx_call rfl rfl Try.call28 (c_natCopy f23 (by omega)) (fun v24 w24 p24 => ?_)
 obtain ⟨s24, rfl, os_24, c24⟩ := p24
 have zw24 := c24.size
 refine av rfl rfl (wl_nil (q_n (k17 _ _ ?_)))
 refine sx_seq fun K25 k25 => sx_region ?_
 refine mv rfl rfl ?_
 have f28 := ((f14.ext c15).ext c16).ext c24
 refine sp rfl (px_len rfl Try.underlying23 f28) ?_
 refine sx_make (c := (ws).length) rfl xelt60 (rfl) (rfl) (by omega) (by unfold maxLen; omega) (fun s29 ws29 fs29 cs29 ls29 => ?_)
 have zws29 := cs29.size
 refine av rfl rfl (wl_nil (q_n (k25 _ _ ?_)))
 refine sx_seq fun K30 k30 => ?_
 obtain ⟨ms0, hms0, hml0⟩ := Own.some fs29
 refine sx_region ?_
 refine sx_lit0 rfl xelt61 (fun s31 ws31 ss31 fs31 cs31 => ?_)
 have zws31 := cs31.size
 refine av rfl rfl (wl_nil (q_n (k30 _ _ ?_)))
 refine sx_sub (Sub.c 1 rfl (.c 2 rfl (.c 4 rfl (.c 5 rfl (.c 6 rfl (.c 7 rfl (.c 8 rfl (.c 9 rfl .nil)))))))) ?_
 refine sx_seq fun K32 k32 => ?_
 refine sx_seq fun K33 k33 => sx_region ?_
 refine mv rfl rfl ?_
 have f34 := f28.ext cs29
 have f35 := f34.ext cs31
 refine sp rfl (px_len rfl Try.underlying23 f35) ?_
 refine mv rfl rfl (wl_nil (q_n (k33 _ _ ?_)))
 refine sx_block ?_
 have f38 := (f20.ext c24).ext cs29
 have f39 := f38.ext cs31
 have f41 := (os_16.ext c24).ext cs29
 have f42 := f41.ext cs31
 have f43 := hms0.ext cs31
 have f44 := os_24.ext cs29
 have f45 := f44.ext cs31
 refine sx_loop (fun mm aa w' => ∃ (k : Nat) (ms : List Value) (vp : Value) (gl : Nat) (gh : Nat) (ps : List Value) (lf : Value) (ll : Nat) (lu : Nat), Agr 124 [(1, vw), (2, .pointer (some ⟨b2, 0, none⟩)), (6, v16), (7, lf), (8, s29), (9, vp), (41, .int .i64 (↑((ws).length))), (42, .int .i64 ↑k)] aa ∧ Chg 0 0 w w' ∧ Blk w' b2 [.bool (ng x), va] 25 ∧ Own w' w15.heap.size w16.heap.size v16 intT ((dg (((ws).sum)).toNat).length) 1 ((dg (((ws).sum)).toNat).map (Value.int .i64)) ∧ Own w' w24.heap.size ws29.heap.size s29 23 ((ws).length) 1 (ms) ∧ Own w' gl gh vp 66 k 2 (ptCells (List.range k) ps) ∧ Own w' ll lu lf intT ((dg (x.natAbs - upto (sQ x.natAbs ws) k)).length) 1 ((dg (x.natAbs - upto (sQ x.natAbs ws) k)).map (Value.int .i64)) ∧ (mm = ws.length - k) ∧ (k ≤ ws.length) ∧ (ms.length = ws.length) ∧ (ps.length = k) ∧ (ws29.heap.size ≤ gl ∧ gl ≤ gh ∧ gh ≤ w'.heap.size ∧ ws29.heap.size ≤ w'.heap.size) ∧ ((lu ≤ w24.heap.size ∨ ws29.heap.size ≤ ll) ∧ (lu ≤ gl ∨ gh ≤ ll) ∧ lu ≤ w'.heap.size ∧ w.heap.size ≤ ll) ∧ (∀ i, i < k → Ns2 w' w24.heap.size ws29.heap.size gl gh w'.heap.size (ms.getD i vz) (dg (sQ x.natAbs ws i))) ∧ (∀ i, i < k → Ns2 w' w24.heap.size ws29.heap.size gl gh w'.heap.size (ps.getD i vz) (dg (sR x.natAbs ws i)))) (ws.length) (fun a ha => ⟨0, ms0, s31, ws29.heap.size, ws31.heap.size, [], v24, w16.heap.size, w24.heap.size, ha.sub (Sub.c 1 rfl (.c 2 rfl (.c 6 rfl (.c 7 rfl (.c 8 rfl (.c 9 rfl (.c 41 rfl (.c 42 (look_int (t := 42) rfl (by first | omega | simp)) .nil)))))))), (((((((cb2.t c7).t c11).t c15).t c16).t c24).t cs29).t cs31), f39, f42, f43, fs31, f45, rfl, by omega, by omega, rfl, by omega, by omega, fun i hi => by omega, fun i hi => by omega⟩) ?_
 rintro mm aa wl36 ⟨k, ms, vp, gl, gh, ps, lf, ll, lu, hAwl36, cwl36, hb_b2, hs_v16, hs_s29, hs_vp, hs_lf, hm, hk, hml, hpl, hgg, hlf, hq, hrr⟩
 refine (show cw Try.prog 124 _ _ _ wl36 from ?_) aa hAwl36
 clear hAwl36
 have zwl36 := cwl36.size
 have lt46 := hb_b2.lt
 refine sx_seq fun K47 k47 => sx_region ?_
 refine sp rfl (px_lt rfl rfl) ?_
 refine wl_nil (q_n (k47 _ _ ?_))
 refine sx_seq fun K48 k48 => ?_
 refine sx_condP rfl (fun h68 => ?_) (fun h68 => ?_)
 ·
  refine sx_skip ?_
  refine q_n (k48 _ _ ?_)
  refine sx_seq fun K49 k49 => ?_
  refine sx_block ?_
  refine sx_seq fun K50 k50 => sx_region ?_
  refine mv rfl rfl (av rfl rfl (wl_nil (q_n (k50 _ _ ?_))))
  refine sx_seq fun K51 k51 => ?_
  refine sx_seq fun K52 k52 => sx_region ?_
  refine sp rfl (px_load rfl (hb_b2.loadA (vs := [.bool (ng x), va]) (look_lit rfl) Try.isAgg25 Try.sizeOf25)) ?_
  refine mv rfl rfl (mv rfl rfl ?_)
  have f53 := hva0.ext cwl36
  have f54 := hvw0.ext cwl36
  refine sx_call rfl rfl Try.call11 (c_iFairShareK f53 f54 (by assumption) (by omega) (by omega)) (fun v55 w55 p55 => ?_)
  obtain ⟨s55, t55, ls55, us55, lt55, ut55, rfl, os_55, ot_55, hd55, hK55, c55⟩ := p55
  have zw55 := c55.size
  refine mv rfl rfl (sp rfl (px_ex2 rfl rfl) ?_)
  refine sp rfl (px_ex2 rfl rfl) ?_
  refine sx_alloc [.bool false, (.slice none 0 0), (.slice none 0 0)] rfl Try.zeroValue35 rfl (fun b56 w57 eb56 sb56 fb56 cb56 => ?_)
  have zw57 := cb56.size
  have f59 := ot_55.ext cb56
  have f60 := os_55.ext cb56
  refine sx_store (vs := [.bool (ng (fsN x ws k)), s55, t55]) rfl rfl fb56 rfl Try.sizeOf35 (nbl rfl) (one_cons rfl (one_cons f60.one (one_cons f59.one one_nil))) (fun w58 sw58 fw58 cw58 => ?_)
  have zw58 := cw58.size
  have gw58 : Blk w58 b56 [.bool (ng (fsN x ws k)), s55, t55] 35 := fw58
  refine av rfl rfl (wl_nil (q_n (k52 _ _ ?_)))
  refine sx_sub (Sub.c 1 rfl (.c 2 rfl (.c 6 rfl (.c 7 rfl (.c 8 rfl (.c 9 rfl (.c 10 rfl (.c 12 rfl (.c 41 rfl (.c 42 rfl .nil)))))))))) ?_
  refine sx_seq fun K61 k61 => sx_region ?_
  refine mv rfl rfl (sp rfl (px_not rfl) ?_)
  refine wl_nil (q_n (k61 _ _ ?_))
  refine sx_condF rfl ?_
  refine sx_skip ?_
  refine q_n (k51 _ _ ?_)
  refine sx_seq fun K62 k62 => ?_
  have hwl := wt_len hW k
  have hsq := sQ_le (X := x.natAbs) hW (i := k) (by omega)
  have f64 := (hb_b2.ext c55).ext cb56
  have f65 := f64.chg cw58 (by omega)
  have f67 := (f53.ext c55).ext cb56
  have f68 := f67.chg cw58 (by omega)
  have f70 := (f54.ext c55).ext cb56
  have f71 := f70.chg cw58 (by omega)
  have f73 := (hs_v16.ext c55).ext cb56
  have f74 := f73.chg cw58 (by omega)
  have f76 := (hs_s29.ext c55).ext cb56
  have f77 := f76.chg cw58 (by omega)
  have f79 := (hs_vp.ext c55).ext cb56
  have f80 := f79.chg cw58 (by omega)
  have f82 := (hs_lf.ext c55).ext cb56
  have f83 := f82.chg cw58 (by omega)
  have f84 := f60.chg cw58 (by omega)
  have f85 := f59.chg cw58 (by omega)
  refine dx_region (fun w' => Chg 0 0 w58 w') (by kernel_rfl) (Chg.zero (Chg.drew _)) ?_
  have d86 := Chg.drew w58
  have s86 : Chg 0 0 w58 (World.drew w58) := Chg.zero (Chg.drew _)
  have y86 : (World.drew w58).heap.size = w58.heap.size := rfl
  generalize World.drew w58 = w86 at *
  have zw86 := d86.size
  refine dt 0 rfl rfl rfl rfl s86 (fun _ hS => px_field rfl xfld25x1) ?_
  refine dt 1 rfl rfl rfl rfl s86 (fun _ hS => px_load rfl ((f65.chg hS (by omega)).load1 rfl Try.isAgg23)) ?_
  refine dt 2 rfl rfl rfl rfl s86 (fun _ hS => px_move rfl) ?_
  refine dt 3 rfl rfl rfl rfl s86 (fun _ hS => px_move rfl) ?_
  refine dt 4 rfl rfl rfl rfl s86 (fun _ hS => px_index1 (j := k) rfl rfl (by omega) Try.underlying23 Try.sizeOf3 ((f71).chg hS (by omega)) (by omega)) ?_
  refine dt 5 rfl rfl rfl rfl s86 (fun _ hS => px_load rfl (((f71).chg hS (by omega)).load1 (at_int (by omega)) Try.isAgg3)) ?_
  refine dt 8 rfl rfl rfl rfl s86 (fun _ hS => px_move rfl) ?_
  refine dx_eff 6 rfl (by kernel_rfl) ?_
  refine sx_call rfl rfl Try.call26 (c_iNatOf (by have := w_bd hW k; omega)) (fun v87 w87 p87 => ?_)
  obtain ⟨s87, rfl, os_87, c87⟩ := p87
  have zw87 := c87.size
  have s88 : Chg 0 0 w58 w87 := (d86.t c87)
  refine wl_nil ?_
  refine dx_next s88 ?_
  refine dx_eff 7 rfl (by kernel_rfl) ?_
  have f90 := (f68.ext d86).ext c87
  refine sx_call rfl rfl Try.call30 (c_natMul f90 os_87.sv (by omega) (Nat.le_trans hwl (by decide))) (fun v91 w91 p91 => ?_)
  obtain ⟨s91, rfl, os_91, c91⟩ := p91
  have zw91 := c91.size
  have s92 : Chg 0 0 w58 w91 := ((d86.t c87).t c91)
  refine wl_nil ?_
  refine dx_next s92 ?_
  refine dx_eff 9 rfl (by kernel_rfl) ?_
  have f95 := ((f74.ext d86).ext c87).ext c91
  refine sx_call rfl rfl Try.call29 (c_natDiv os_91.sv f95.sv (Nat.le_trans (len_mul x.natAbs (wt ws k)) (by omega)) (Nat.le_trans htl (by decide)) (tW_pos hW)) (fun v96 w96 p96 => ?_)
  obtain ⟨s96, t96, rfl, os_96, ot_96, c96⟩ := p96
  have zw96 := c96.size
  have s97 : Chg 0 0 w58 w96 := (((d86.t c87).t c91).t c96)
  refine wl_nil ?_
  refine dx_next s97 ?_
  refine dt 10 rfl rfl rfl rfl s97 (fun _ hS => px_move rfl) ?_
  refine dt 11 rfl rfl rfl rfl s97 (fun _ hS => px_ex2 rfl rfl) ?_
  refine dt 12 rfl rfl rfl rfl s97 (fun _ hS => px_ex2 rfl rfl) ?_
  refine dt 13 rfl rfl rfl rfl s97 (fun _ hS => px_assign rfl) ?_
  refine dt 14 rfl rfl rfl rfl s97 (fun _ hS => px_assign rfl) ?_
  refine dx_done (by kernel_rfl) ?_
  refine q_n (k62 _ _ ?_)
  refine sx_sub (Sub.c 1 rfl (.c 2 rfl (.c 6 rfl (.c 7 rfl (.c 8 rfl (.c 9 rfl (.c 10 rfl (.c 13 rfl (.c 14 rfl (.c 41 rfl (.c 42 rfl .nil))))))))))) ?_
  refine sx_seq fun K98 k98 => sx_region ?_
  refine mv rfl rfl (mv rfl rfl (mv rfl rfl ?_))
  have f102 := (((f77.ext d86).ext c87).ext c91).ext c96
  refine sp rfl (px_index1 (j := k) rfl rfl (by omega) Try.underlying60 Try.sizeOf23 f102.sv (by omega)) ?_
  refine sx_storeO rfl rfl f102 (by first | omega | (simp only [List.length_map]; omega)) Try.sizeOf23 os_96.one (fun w103 sw103 fw103 cw103 => ?_)
  have zw103 := cw103.size
  refine wl_nil (q_n (k98 _ _ ?_))
  refine sx_sub (Sub.c 1 rfl (.c 2 rfl (.c 6 rfl (.c 7 rfl (.c 8 rfl (.c 9 rfl (.c 10 rfl (.c 13 rfl (.c 14 rfl (.c 41 rfl (.c 42 rfl .nil))))))))))) ?_
  refine sx_seq fun K104 k104 => sx_region ?_
  refine mv rfl rfl (mv rfl rfl ?_)
  have f109 := ((((f83.ext d86).ext c87).ext c91).ext c96).chg cw103 (by omega)
  have f110 := os_96.chg cw103 (by omega)
  refine sx_call rfl rfl Try.call31 (c_natSub f109.sv f110.sv (Nat.le_trans (len_le (Nat.sub_le _ _)) (by omega)) (Nat.le_trans (len_div _ _) (Nat.le_trans (len_mul x.natAbs (wt ws k)) (by omega))) (by have h9 : x.natAbs * (ws.getD k 0).toNat / ws.sum.toNat = sQ x.natAbs ws k := rfl; rw [h9]; omega)) (fun v111 w111 p111 => ?_)
  obtain ⟨s111, rfl, os_111, c111⟩ := p111
  have zw111 := c111.size
  refine av rfl rfl (wl_nil (q_n (k104 _ _ ?_)))
  have f112 := ot_96.chg cw103 (by omega)
  have f113 := f112.ext c111
  have honr := f113.one
  refine sx_region ?_
  refine mv rfl rfl (mv rfl rfl (mv rfl rfl (sp rfl (px_build rfl (xbld66x0x1 rfl f113.one _)) ?_)))
  refine sx_lit1A2 rfl xelt61 rfl (fun s114 ws114 ss114 fs114 cs114 => ?_)
  have zws114 := cs114.size
  have f120 := ((((f80.ext d86).ext c87).ext c91).ext c96).chg cw103 (by omega)
  have f122 := (f120.ext c111).ext cs114
  refine sx_append2 rfl xelt61 rfl rfl f122 fs114.sv (by omega) (by intro u hu; simp only [List.mem_cons, List.not_mem_nil, or_false] at hu; rcases hu with rfl | rfl; rfl; exact honr) (by omega) (by omega) (by unfold maxLen; omega) (fun a115 w115 alw115 ahw115 adw115 fw115 cw115 => ?_)
  have zw115 := cw115.size
  refine av rfl rfl (wl_nil ?_)
  refine q_bn (q_n (k49 _ _ ?_))
  refine sx_sub (Sub.c 1 rfl (.c 2 rfl (.c 6 rfl (.c 7 rfl (.c 8 rfl (.c 9 rfl (.c 41 rfl (.c 42 rfl .nil)))))))) ?_
  refine sx_region ?_
  refine sp rfl (px_add rfl rfl (by omega)) ?_
  refine mv rfl rfl (wl_nil ?_)
  have f124 := (f110.ext c111).ext cs114
  have f125 := f124.chg cw115 (by omega)
  have f126 := f113.ext cs114
  have f127 := f126.chg cw115 (by omega)
  have q128 := Chg.step (l := 0) (h := 0) (Chg.zero (l := 0) (h := 0) ((cwl36.t c55).t cb56)) cw58 (by omega)
  have q129 := Chg.step (l := 0) (h := 0) q128 (((d86.t c87).t c91).t c96) (by omega)
  have q130 := Chg.step (l := 0) (h := 0) q129 cw103 (by omega)
  have q131 := Chg.step (l := 0) (h := 0) q130 (c111.t cs114) (by omega)
  have q132 := Chg.step (l := 0) (h := 0) q131 cw115 (by omega)
  have f137 := ((((f65.ext d86).ext c87).ext c91).ext c96).chg cw103 (by omega)
  have f139 := (f137.ext c111).ext cs114
  have f140 := f139.chg cw115 (by omega)
  have f142 := (f95.ext c96).chg cw103 (by omega)
  have f144 := (f142.ext c111).ext cs114
  have f145 := f144.chg cw115 (by omega)
  have f147 := (fw103.ext c111).ext cs114
  have f148 := f147.chg cw115 (by omega)
  have f149 := os_111.ext cs114
  have f150 := f149.chg cw115 (by omega)
  exact fun a ha => ⟨_, by omega, (k + 1), ((ms).set k (s96)), a115, alw115, ahw115, (ps ++ [t96]), v111, w103.heap.size, w111.heap.size, ha.sub (Sub.c 1 rfl (.c 2 rfl (.c 6 rfl (.c 7 rfl (.c 8 rfl (.c 9 rfl (.c 41 rfl (.c 42 (look_int (t := 42) rfl (by first | omega | simp)) .nil)))))))), q132, f140, f145, f148, (by rw [pt_more hpl]; exact fw115), (by rw [← sub_up]; exact f150), rfl, by omega, by simp only [List.length_set]; exact hml, by simp only [List.length_append, List.length_singleton]; omega, by omega, by omega, all_set (P := (fun i v => Ns2 w115 w24.heap.size ws29.heap.size alw115 ahw115 w115.heap.size v (dg (sQ x.natAbs ws i)))) (fun i hi => (((((((((((((hq i hi).ext c55).ext cb56).far cw58 (by omega)).ext d86).ext c87).ext c91).ext c96).chg1 cw103).ext c111).ext cs114).chg2 cw115)).re (by omega) (by omega)) (Ns2.of f125.sv (by omega) (by omega) (by omega)) (by omega), all_snoc (P := (fun i v => Ns2 w115 w24.heap.size ws29.heap.size alw115 ahw115 w115.heap.size v (dg (sR x.natAbs ws i)))) (fun i hi => (((((((((((((hrr i hi).ext c55).ext cb56).far cw58 (by omega)).ext d86).ext c87).ext c91).ext c96).chg1 cw103).ext c111).ext cs114).chg2 cw115)).re (by omega) (by omega)) (Ns2.of f127.sv (by omega) (by omega) (by omega)) hpl⟩
 refine sx_exit ?_
 refine q_e (q_e (q_bx (q_n (k32 _ _ ?_))))
 refine sx_seq fun K151 k151 => ?_
 have ek : k = ws.length := by omega
 have hpt : PtO wl36 gl gh wl36.heap.size vp 66 (List.range k) ps (sR x.natAbs ws) := ⟨by rw [List.length_range]; exact hs_vp, fun i hi => by have := List.mem_range.1 hi; omega, fun i hi => (((hrr i (by omega))).to2).up (by omega)⟩
 refine sx_region ?_
 refine mv rfl rfl (sx_call rfl rfl Try.call32 (c_sortBy hpt (by rw [List.length_range]; omega) (by rw [List.length_range, ek]; exact hor) (by simp) (sR_len hW)) (fun v152 w152 p152 => ?_))
 obtain ⟨v2152, ix2152, rfl, ov2_152, hP2152, hS2152, c152⟩ := p152
 have zw152 := c152.size
 have hPp : (ix2152).Perm (List.range ws.length) := by have h9 := hP2152; rw [List.length_range, ek] at h9; exact h9
 have hSs : SortTo (sR x.natAbs ws) ix2152 ws.length := by have h9 := hS2152; rw [List.length_range, ek] at h9; exact h9
 have hil : (ix2152).length = ws.length := by rw [hPp.length_eq, List.length_range]
 refine av rfl rfl (wl_nil (q_n (k151 _ _ ?_)))
 refine sx_seq fun K153 k153 => sx_region ?_
 refine mv rfl rfl ?_
 have f154 := hs_lf.ext c152
 refine sx_call rfl rfl Try.call37 (c_iNatIntS f154.sv (by have h1 := mis_lt (X := x.natAbs) hW; unfold mis at h1; rw [ek]; omega)) (fun v155 w155 p155 => ?_)
 obtain ⟨rfl, c155⟩ := p155
 have zw155 := c155.size
 refine mv rfl rfl (sp rfl (px_ex2 rfl rfl) ?_)
 refine sp rfl (px_ex2 rfl rfl) ?_
 refine av rfl rfl (av rfl rfl (wl_nil (q_n (k153 _ _ ?_))))
 refine sx_sub (Sub.c 2 rfl (.c 8 rfl (.c 9 rfl (.c 15 rfl .nil)))) ?_
 refine sx_seq fun K156 k156 => ?_
 refine sx_seq fun K157 k157 => ?_
 have f158 := ov2_152.ext c155
 have hmk : x.natAbs - upto (sQ x.natAbs ws) k < ws.length := by have h1 := mis_lt (X := x.natAbs) hW; unfold mis at h1; rw [ek]; exact h1
 refine sx_region ?_
 refine mv rfl rfl (mv rfl rfl (sp rfl (px_sliceTo (h := (x.natAbs - upto (sQ x.natAbs ws) k)) rfl rfl (by omega) Try.underlying61 Try.sizeOf66 (f158.own).sv (by omega)) ?_))
 refine sp rfl (px_len rfl Try.underlying61 ((f158.own).take (h := (x.natAbs - upto (sQ x.natAbs ws) k)) (by omega)).sv) ?_
 refine mv rfl rfl (wl_nil (q_n (k157 _ _ ?_)))
 refine sx_block ?_
 have f161 := (hs_s29.ext c152).ext c155
 refine sx_loop (fun mm aa w' => ∃ (kk : Nat) (ms2 : List Value), Agr 124 [(2, .pointer (some ⟨b2, 0, none⟩)), (8, s29), (90, (vtake v152 (x.natAbs - upto (sQ x.natAbs ws) k))), (91, .int .i64 (↑(x.natAbs - upto (sQ x.natAbs ws) k))), (92, .int .i64 ↑kk)] aa ∧ Chg w24.heap.size ws29.heap.size w155 w' ∧ Own w' w24.heap.size ws29.heap.size s29 23 ((ws).length) 1 (ms2) ∧ (mm = x.natAbs - upto (sQ x.natAbs ws) k - kk) ∧ (kk ≤ x.natAbs - upto (sQ x.natAbs ws) k) ∧ (ms2.length = ws.length) ∧ (∀ i, i < ws.length → Nst w' w24.heap.size ws29.heap.size w'.heap.size (ms2.getD i vz) (dg (mgT x.natAbs ws ix2152 kk i)))) (_) (fun a ha => ⟨0, ms, ha.sub (Sub.c 2 rfl (.c 8 rfl (.c 90 rfl (.c 91 rfl (.c 92 (look_int (t := 92) rfl (by first | omega | simp)) .nil))))), Chg.refl _ _ _, f161, rfl, by omega, hml, fun i hi => by rw [mgT_zero]; exact (((((hq i (by omega)).ext c152).ext c155)).to1).up (by omega)⟩) ?_
 rintro mm aa wl159 ⟨kk, ms2, hAwl159, cwl159, hs_s29, hm, hkk, hml2, hq2⟩
 refine (show cw Try.prog 124 _ _ _ wl159 from ?_) aa hAwl159
 clear hAwl159
 have zwl159 := cwl159.size
 refine sx_seq fun K162 k162 => sx_region ?_
 refine sp rfl (px_lt rfl rfl) ?_
 refine wl_nil (q_n (k162 _ _ ?_))
 refine sx_seq fun K163 k163 => ?_
 refine sx_condP rfl (fun h81 => ?_) (fun h81 => ?_)
 ·
  have hak := perm_lt hPp (show kk < _ by omega)
  refine sx_skip ?_
  refine q_n (k163 _ _ ?_)
  refine sx_seq fun K164 k164 => ?_
  refine sx_block ?_
  refine sx_seq fun K165 k165 => sx_region ?_
  have f166 := ((f158.own).take (h := (x.natAbs - upto (sQ x.natAbs ws) k)) (by omega)).chg cwl159 (by omega)
  refine sp rfl (px_indexK (j := kk) rfl rfl (by omega) Try.underlying61 Try.sizeOf66 f166.sv (by omega)) ?_
  refine sp rfl (px_load rfl (f166.sv.loadA (pt_lookT (by omega) (by omega)) Try.isAgg66 Try.sizeOf66)) ?_
  refine sx_alloc [.int .i64 0, (.slice none 0 0)] rfl Try.zeroValue66 rfl (fun b167 w168 eb167 sb167 fb167 cb167 => ?_)
  have zw168 := cb167.size
  refine sx_store (vs := [.int .i64 (((ix2152.getD kk 0) : Nat) : Int), (ps.getD (ix2152.getD kk 0) vz)]) rfl rfl fb167 rfl Try.sizeOf66 (nbl rfl) (one_cons rfl (one_cons (f158.rest (j := kk) (by omega)).one one_nil)) (fun w169 sw169 fw169 cw169 => ?_)
  have zw169 := cw169.size
  have gw169 : Blk w169 b167 [.int .i64 (((ix2152.getD kk 0) : Nat) : Int), (ps.getD (ix2152.getD kk 0) vz)] 66 := fw169
  refine wl_nil (q_n (k165 _ _ ?_))
  have f172 := ((hb_b2.ext c152).ext c155).chg cwl159 (by omega)
  have f173 := f172.ext cb167
  have f174 := f173.chg cw169 (by omega)
  have f175 := hva0.ext cwl36
  have f178 := ((f175.ext c152).ext c155).chg cwl159 (by omega)
  have f179 := f178.ext cb167
  have f180 := f179.chg cw169 (by omega)
  have f181 := hvw0.ext cwl36
  have f184 := ((f181.ext c152).ext c155).chg cwl159 (by omega)
  have f185 := f184.ext cb167
  have f186 := f185.chg cw169 (by omega)
  have f189 := ((hs_v16.ext c152).ext c155).chg cwl159 (by omega)
  have f190 := f189.ext cb167
  have f191 := f190.chg cw169 (by omega)
  have f192 := hs_s29.ext cb167
  have f193 := f192.chg cw169 (by omega)
  have f194 := (f158.own).chg cwl159 (by omega)
  have f195 := f194.ext cb167
  have f196 := f195.chg cw169 (by omega)
  have f197 := f166.ext cb167
  have f198 := f197.chg cw169 (by omega)
  refine dx_region (fun w' => Chg w24.heap.size (ws29.heap.size) w169 w') (by kernel_rfl) (Chg.zero (Chg.drew _)) ?_
  have d199 := Chg.drew w169
  have s199 : Chg w24.heap.size (ws29.heap.size) w169 (World.drew w169) := Chg.zero (Chg.drew _)
  have y199 : (World.drew w169).heap.size = w169.heap.size := rfl
  generalize World.drew w169 = w199 at *
  have zw199 := d199.size
  refine dt 0 rfl rfl rfl rfl s199 (fun _ hS => px_move rfl) ?_
  refine dt 1 rfl rfl rfl rfl s199 (fun _ hS => px_field rfl xfld66x0) ?_
  refine dt 2 rfl rfl rfl rfl s199 (fun _ hS => px_load rfl ((gw169.chg hS (by omega)).load1 rfl Try.isAgg3)) ?_
  refine dt 3 rfl rfl rfl rfl s199 (fun _ hS => px_move rfl) ?_
  refine dt 4 rfl rfl rfl rfl s199 (fun _ hS => px_field rfl xfld66x0) ?_
  refine dt 5 rfl rfl rfl rfl s199 (fun _ hS => px_load rfl ((gw169.chg hS (by omega)).load1 rfl Try.isAgg3)) ?_
  refine dt 6 rfl rfl rfl rfl s199 (fun _ hS => px_index1w (j := (ix2152.getD kk 0)) rfl rfl (by omega) Try.underlying60 Try.sizeOf23 f193.sv (by omega)) ?_
  refine dx_eff2 7 8 rfl rfl (by kernel_rfl) ?_ ?_
  ·
   have f200 := f193.ext d199
   refine sp rfl (px_load rfl (f200.sv.load1 (vs_at (by omega)) Try.isAgg23)) ?_
   have s201 : Chg w24.heap.size (ws29.heap.size) w169 w199 := (Chg.zero (l := w24.heap.size) (h := (ws29.heap.size)) (d199))
   refine wl_nil ?_
   refine dx_next s201 ?_
   refine dx_eff 8 rfl (by kernel_rfl) ?_
   refine sx_lit1 rfl xelt23 rfl rfl (fun s202 ws202 ss202 fs202 cs202 => ?_)
   have ns202 := Own.norm (f := (Value.int .i64)) (zs := [1]) fs202
   have zws202 := cs202.size
   have s203 : Chg w24.heap.size (ws29.heap.size) w169 ws202 := (Chg.zero (l := w24.heap.size) (h := (ws29.heap.size)) (d199.t cs202))
   refine wl_nil ?_
   refine dx_next s203 ?_
   refine dx_eff 9 rfl (by kernel_rfl) ?_
   have f204 := (((((hq2 (ix2152.getD kk 0) (by omega)).ext cb167).far cw169 (by omega)).ext d199)).fit.ext cs202
   refine sx_call rfl rfl Try.call38 (c_natAdd1 f204 ns202.sv (Nat.le_trans (hmt _ _ _ hak) (by decide)) (rfl)) (fun v205 w205 p205 => ?_)
   obtain ⟨s205, rfl, os_205, c205⟩ := p205
   have zw205 := c205.size
   have s206 : Chg w24.heap.size (ws29.heap.size) w169 w205 := (Chg.zero (l := w24.heap.size) (h := (ws29.heap.size)) ((d199.t cs202).t c205))
   refine wl_nil ?_
   refine dx_next s206 ?_
   refine dt 10 rfl rfl rfl rfl s206 (fun _ hS => px_index1w (j := (ix2152.getD kk 0)) rfl rfl (by omega) Try.underlying60 Try.sizeOf23 f193.sv (by omega)) ?_
   refine dx_eff 11 rfl (by kernel_rfl) ?_
   have f208 := f200.ext cs202
   have f209 := f208.ext c205
   refine sx_storeO rfl rfl f209 (by first | omega | (simp only [List.length_map]; omega)) Try.sizeOf23 os_205.one (fun w207 sw207 fw207 cw207 => ?_)
   have zw207 := cw207.size
   have q211 := Chg.step (l := w24.heap.size) (h := (ws29.heap.size)) (Chg.zero (l := w24.heap.size) (h := (ws29.heap.size)) ((d199.t cs202).t c205)) cw207 (by omega)
   have s210 : Chg w24.heap.size (ws29.heap.size) w169 w207 := q211
   refine wl_nil ?_
   refine dx_next s210 ?_
   refine dx_done (by kernel_rfl) ?_
   refine q_bn (q_n (k164 _ _ ?_))
   refine sx_sub (Sub.c 2 rfl (.c 8 rfl (.c 90 rfl (.c 91 rfl (.c 92 rfl .nil))))) ?_
   refine sx_region ?_
   refine sp rfl (px_add rfl rfl (by omega)) ?_
   refine mv rfl rfl (wl_nil ?_)
   have f212 := os_205.chg cw207 (by omega)
   have q213 := Chg.step (l := w24.heap.size) (h := ws29.heap.size) cwl159 cb167 (by omega)
   have q214 := Chg.step (l := w24.heap.size) (h := ws29.heap.size) q213 cw169 (by omega)
   have q215 := Chg.step (l := w24.heap.size) (h := ws29.heap.size) q214 ((d199.t cs202).t c205) (by omega)
   have q216 := Chg.step (l := w24.heap.size) (h := ws29.heap.size) q215 cw207 (by omega)
   exact fun a ha => ⟨_, by omega, (kk + 1), ((ms2).set (ix2152.getD kk 0) (v205)), ha.sub (Sub.c 2 rfl (.c 8 rfl (.c 90 rfl (.c 91 rfl (.c 92 (look_int (t := 92) rfl (by first | omega | simp)) .nil))))), q216, fw207, rfl, by omega, by simp only [List.length_set]; exact hml2, all_put (P := (fun i v => Nst wl159 w24.heap.size ws29.heap.size wl159.heap.size v (dg (mgT x.natAbs ws ix2152 kk i)))) (P' := (fun i v => Nst w207 w24.heap.size ws29.heap.size w207.heap.size v (dg (mgT x.natAbs ws ix2152 (kk + 1) i)))) hq2 (by rw [← mgT_more hPp (by omega)]; exact Nst.of f212.sv (by omega) (by omega)) (fun i v hi hne h => by rw [mgT_same (by omega) hne]; exact (((((((h.ext cb167).far cw169 (by omega)).ext d199).ext cs202).ext c205).chg cw207)).up (by omega)) (by omega)⟩
  refine sx_lit1 rfl xelt23 rfl rfl (fun s217 ws217 ss217 fs217 cs217 => ?_)
  have ns217 := Own.norm (f := (Value.int .i64)) (zs := [1]) fs217
  have zws217 := cs217.size
  have s218 : Chg w24.heap.size (ws29.heap.size) w169 ws217 := (Chg.zero (l := w24.heap.size) (h := (ws29.heap.size)) (d199.t cs217))
  refine wl_nil ?_
  refine dx_next s218 ?_
  refine dx_eff 7 rfl (by kernel_rfl) ?_
  have f220 := (f193.ext d199).ext cs217
  refine sp rfl (px_load rfl (f220.sv.load1 (vs_at (by omega)) Try.isAgg23)) ?_
  have s221 : Chg w24.heap.size (ws29.heap.size) w169 ws217 := (Chg.zero (l := w24.heap.size) (h := (ws29.heap.size)) (d199.t cs217))
  refine wl_nil ?_
  refine dx_next s221 ?_
  refine dx_eff 9 rfl (by kernel_rfl) ?_
  refine sx_call rfl rfl Try.call38 (c_natAdd1 ((((((hq2 (ix2152.getD kk 0) (by omega)).ext cb167).far cw169 (by omega)).ext d199).ext cs217)).fit ns217.sv (Nat.le_trans (hmt _ _ _ hak) (by decide)) (rfl)) (fun v222 w222 p222 => ?_)
  obtain ⟨s222, rfl, os_222, c222⟩ := p222
  have zw222 := c222.size
  have s223 : Chg w24.heap.size (ws29.heap.size) w169 w222 := (Chg.zero (l := w24.heap.size) (h := (ws29.heap.size)) ((d199.t cs217).t c222))
  refine wl_nil ?_
  refine dx_next s223 ?_
  refine dt 10 rfl rfl rfl rfl s223 (fun _ hS => px_index1w (j := (ix2152.getD kk 0)) rfl rfl (by omega) Try.underlying60 Try.sizeOf23 f193.sv (by omega)) ?_
  refine dx_eff 11 rfl (by kernel_rfl) ?_
  have f225 := f220.ext c222
  refine sx_storeO rfl rfl f225 (by first | omega | (simp only [List.length_map]; omega)) Try.sizeOf23 os_222.one (fun w224 sw224 fw224 cw224 => ?_)
  have zw224 := cw224.size
  have q227 := Chg.step (l := w24.heap.size) (h := (ws29.heap.size)) (Chg.zero (l := w24.heap.size) (h := (ws29.heap.size)) ((d199.t cs217).t c222)) cw224 (by omega)
  have s226 : Chg w24.heap.size (ws29.heap.size) w169 w224 := q227
  refine wl_nil ?_
  refine dx_next s226 ?_
  refine dx_done (by kernel_rfl) ?_
  refine q_bn (q_n (k164 _ _ ?_))
  refine sx_sub (Sub.c 2 rfl (.c 8 rfl (.c 90 rfl (.c 91 rfl (.c 92 rfl .nil))))) ?_
  refine sx_region ?_
  refine sp rfl (px_add rfl rfl (by omega)) ?_
  refine mv rfl rfl (wl_nil ?_)
  have f228 := os_222.chg cw224 (by omega)
  have q229 := Chg.step (l := w24.heap.size) (h := ws29.heap.size) cwl159 cb167 (by omega)
  have q230 := Chg.step (l := w24.heap.size) (h := ws29.heap.size) q229 cw169 (by omega)
  have q231 := Chg.step (l := w24.heap.size) (h := ws29.heap.size) q230 ((d199.t cs217).t c222) (by omega)
  have q232 := Chg.step (l := w24.heap.size) (h := ws29.heap.size) q231 cw224 (by omega)
  exact fun a ha => ⟨_, by omega, (kk + 1), ((ms2).set (ix2152.getD kk 0) (v222)), ha.sub (Sub.c 2 rfl (.c 8 rfl (.c 90 rfl (.c 91 rfl (.c 92 (look_int (t := 92) rfl (by first | omega | simp)) .nil))))), q232, fw224, rfl, by omega, by simp only [List.length_set]; exact hml2, all_put (P := (fun i v => Nst wl159 w24.heap.size ws29.heap.size wl159.heap.size v (dg (mgT x.natAbs ws ix2152 kk i)))) (P' := (fun i v => Nst w224 w24.heap.size ws29.heap.size w224.heap.size v (dg (mgT x.natAbs ws ix2152 (kk + 1) i)))) hq2 (by rw [← mgT_more hPp (by omega)]; exact Nst.of f228.sv (by omega) (by omega)) (fun i v hi hne h => by rw [mgT_same (by omega) hne]; exact (((((((h.ext cb167).far cw169 (by omega)).ext d199).ext cs217).ext c222).chg cw224)).up (by omega)) (by omega)⟩
 refine sx_exit ?_
 refine q_e (q_e (q_bx (q_n (k156 _ _ ?_))))
 refine sx_seq fun K233 k233 => sx_region ?_
 refine sx_lit0 rfl xelt28 (fun s234 ws234 ss234 fs234 cs234 => ?_)
 have zws234 := cs234.size
 refine av rfl rfl (wl_nil (q_n (k233 _ _ ?_)))
 refine sx_seq fun K235 k235 => ?_
 refine sx_seq fun K236 k236 => sx_region ?_
 refine mv rfl rfl ?_
 have f237 := hs_s29.ext cs234
 refine sp rfl (px_len rfl Try.underlying60 f237.sv) ?_
 refine mv rfl rfl (wl_nil (q_n (k236 _ _ ?_)))
 refine sx_block ?_
 have emk : kk = x.natAbs - upto (sQ x.natAbs ws) k := by omega
 have hall : ∀ i, i < ws.length → mgT x.natAbs ws ix2152 kk i = mg x.natAbs ws i := fun i hi => by have h1 := mgT_all (X := x.natAbs) hW hPp hSs hi; rw [emk, ek]; exact h1
 refine sx_loop (fun mm aa w' => ∃ (kj : Nat) (os : Value), Agr 124 [(2, .pointer (some ⟨b2, 0, none⟩)), (8, s29), (19, os), (109, s29), (110, .int .i64 (↑((ws).length))), (111, .int .i64 ↑kj)] aa ∧ Chg wl159.heap.size ws234.heap.size ws234 w' ∧ Own w' wl159.heap.size w'.heap.size os 25 kj 2 (sgc (shr x ws) ms2 kj) ∧ (mm = ws.length - kj) ∧ (kj ≤ ws.length)) (_) (fun a ha => ⟨0, s234, ha.sub (Sub.c 2 rfl (.c 8 rfl (.c 19 rfl (.c 109 rfl (.c 110 rfl (.c 111 (look_int (t := 111) rfl (by first | omega | simp)) .nil)))))), Chg.refl _ _ _, (fs234.mono (by omega) (by omega)), rfl, by omega⟩) ?_
 rintro mm aa wl238 ⟨kj, os, hAwl238, cwl238, hs_os, hm, hkj⟩
 refine (show cw Try.prog 124 _ _ _ wl238 from ?_) aa hAwl238
 clear hAwl238
 have zwl238 := cwl238.size
 refine sx_seq fun K239 k239 => sx_region ?_
 refine sp rfl (px_lt rfl rfl) ?_
 refine wl_nil (q_n (k239 _ _ ?_))
 refine sx_seq fun K240 k240 => ?_
 refine sx_condP rfl (fun h85 => ?_) (fun h85 => ?_)
 ·
  refine sx_skip ?_
  refine q_n (k240 _ _ ?_)
  refine sx_seq fun K241 k241 => ?_
  refine sx_block ?_
  refine sx_seq fun K242 k242 => sx_region ?_
  have f243 := f237.chg cwl238 (by omega)
  refine sp rfl (px_index1 (j := kj) rfl rfl (by omega) Try.underlying60 Try.sizeOf23 f243.sv (by omega)) ?_
  refine sp rfl (px_load rfl (f243.sv.load1 (vs_at (by omega)) Try.isAgg23)) ?_
  refine av rfl rfl (wl_nil (q_n (k242 _ _ ?_)))
  refine sx_region ?_
  refine mv rfl rfl (sp rfl (px_field rfl xfld25x0) ?_)
  have f246 := ((hb_b2.ext c152).ext c155).chg cwl159 (by omega)
  have f247 := f246.ext cs234
  have f248 := f247.chg cwl238 (by omega)
  refine sp rfl (px_load rfl (f248.load1 rfl Try.isAgg4)) ?_
  refine mv rfl rfl (sx_call rfl rfl Try.call39 (c_signed ((((hq2 kj (by omega)).ext cs234).far cwl238 (by omega))).fit (by rw [hall kj (by omega)]; have h9 := mg_len hW (X := x.natAbs) (i := kj) (by omega) (Nat.le_refl _); omega)) (fun v249 w249 p249 => ?_))
  obtain ⟨rfl, c249⟩ := p249
  have zw249 := c249.size
  have f250 := ((((hq2 kj (by omega)).ext cs234).far cwl238 (by omega))).fit.ext c249
  refine sx_let (t := 119) rfl (show Value.agg #[.bool (nz (ng x) (dg (mgT x.natAbs ws ix2152 kk kj))), (ms2.getD kj vz)] = Value.agg #[.bool (nz (ng x) (dg (mg x.natAbs ws kj))), (ms2.getD kj vz)] from by rw [hall kj (by omega)]) ?_
  have honef251 := f250.one
  refine sx_lit1A2 rfl xelt28 rfl (fun s252 ws252 ss252 fs252 cs252 => ?_)
  have zws252 := cs252.size
  have f255 := (hs_os.ext c249).ext cs252
  refine sx_append2 rfl xelt28 rfl rfl f255 fs252.sv (by omega) (by intro u hu; simp only [List.mem_cons, List.not_mem_nil, or_false] at hu; rcases hu with rfl | rfl; rfl; assumption) (by omega) (by omega) (by unfold maxLen; omega) (fun a253 w253 alw253 ahw253 adw253 fw253 cw253 => ?_)
  have zw253 := cw253.size
  refine av rfl rfl (wl_nil ?_)
  refine q_bn (q_n (k241 _ _ ?_))
  refine sx_sub (Sub.c 2 rfl (.c 8 rfl (.c 19 rfl (.c 109 rfl (.c 110 rfl (.c 111 rfl .nil)))))) ?_
  refine sx_region ?_
  refine sp rfl (px_add rfl rfl (by omega)) ?_
  refine mv rfl rfl (wl_nil ?_)
  have q256 := Chg.step (l := wl159.heap.size) (h := ws234.heap.size) cwl238 (c249.t cs252) (by omega)
  have q257 := Chg.step (l := wl159.heap.size) (h := ws234.heap.size) q256 cw253 (by omega)
  exact fun a ha => ⟨_, by omega, (kj + 1), a253, ha.sub (Sub.c 2 rfl (.c 8 rfl (.c 19 rfl (.c 109 rfl (.c 110 rfl (.c 111 (look_int (t := 111) rfl (by first | omega | simp)) .nil)))))), q257, (by rw [sgc_succ, ← shr_ng]; exact (fw253.mono (by omega) (by omega))), rfl, by omega⟩
 refine sx_exit ?_
 refine q_e (q_e (q_bx (q_n (k235 _ _ ?_))))
 refine sx_seq fun K258 k258 => sx_region ?_
 refine mv rfl rfl (av rfl rfl (av rfl rfl (wl_nil (q_n (k258 _ _ ?_)))))
 refine sx_retc ?_
 refine sx_ret2 Try.results7 rfl rfl ?_
 have q259 := Chg.step (l := 0) (h := 0) (Chg.zero (l := 0) (h := 0) ((cwl36.t c152).t c155)) cwl159 (by omega)
 have q260 := Chg.step (l := 0) (h := 0) q259 cs234 (by omega)
 have q261 := Chg.step (l := 0) (h := 0) q260 cwl238 (by omega)
 exact ⟨_, ms2, rfl, sgs_of hs_os (by omega) hml2 (fun i hi => by rw [← hall i hi]; exact ((((hq2 i hi).ext cs234).far cwl238 (by omega))).fit), ⟨_, hPp, hSs⟩, q261⟩

theorem c_sameInts {w : World} {va : Value} {lva uva : Nat} {zs : List Int} {vb : Value} {lvb uvb : Nat} (hva : Sl w lva uva va (zs)) (hvb : Sl w lvb uvb vb (zs)) (h63 : zs.length ≤ 4611686018427387904) :
  Ret Try.prog 72 [va, vb] w fun v w' => v = .bool (true) ∧ Chg 0 0 w w' := by
 have hva0 := hva.fit
 have hvb0 := hvb.fit
 refine sx_enter Try.func72 rfl Try.ntmps72 (nbl rfl) ?_
 refine sx_seq fun K1 k1 => sx_region ?_
 refine av rfl rfl (wl_nil (q_n (k1 _ _ ?_)))
 refine sx_seq fun K2 k2 => ?_
 refine sx_seq fun K3 k3 => sx_region ?_
 refine mv rfl rfl (sp rfl (px_len rfl Try.underlying23 hva0) ?_)
 refine mv rfl rfl (sp rfl (px_len rfl Try.underlying23 hvb0) ?_)
 refine sp rfl (px_ne rfl rfl) ?_
 refine wl_nil (q_n (k3 _ _ ?_))
 have h169 : ¬ ((↑((zs).length) : Int) ≠ ↑((zs).length)) := fun h => h rfl
 refine sx_condPF rfl h169 ?_
 refine sx_skip ?_
 refine q_n (k2 _ _ ?_)
 refine sx_seq fun K4 k4 => ?_
 refine sx_seq fun K5 k5 => sx_region ?_
 refine mv rfl rfl (sp rfl (px_len rfl Try.underlying23 hva0) ?_)
 refine mv rfl rfl (wl_nil (q_n (k5 _ _ ?_)))
 refine sx_block ?_
 refine sx_loop (fun mm aa w' => ∃ (k : Nat), Agr 26 [(0, va), (1, vb), (12, .int .i64 (↑((zs).length))), (13, .int .i64 ↑k)] aa ∧ Chg 0 0 w w' ∧ (mm = zs.length - k) ∧ (k ≤ zs.length)) (_) (fun a ha => ⟨0, ha.sub (Sub.c 0 rfl (.c 1 rfl (.c 12 rfl (.c 13 (look_int (t := 13) rfl (by first | omega | simp)) .nil)))), Chg.refl _ _ _, rfl, by omega⟩) ?_
 rintro mm aa wl6 ⟨k, hAwl6, cwl6, hm, hk⟩
 refine (show cw Try.prog 26 _ _ _ wl6 from ?_) aa hAwl6
 clear hAwl6
 have zwl6 := cwl6.size
 refine sx_seq fun K7 k7 => sx_region ?_
 refine sp rfl (px_lt rfl rfl) ?_
 refine wl_nil (q_n (k7 _ _ ?_))
 refine sx_seq fun K8 k8 => ?_
 refine sx_condP rfl (fun h172 => ?_) (fun h172 => ?_)
 ·
  refine sx_skip ?_
  refine q_n (k8 _ _ ?_)
  refine sx_seq fun K9 k9 => ?_
  refine sx_block ?_
  refine sx_seq fun K10 k10 => sx_region ?_
  refine mv rfl rfl (av rfl rfl (wl_nil (q_n (k10 _ _ ?_))))
  refine sx_seq fun K11 k11 => ?_
  have f12 := hva0.ext cwl6
  have f13 := hvb0.ext cwl6
  refine dx_region (fun w' => Chg 0 0 wl6 w') (by kernel_rfl) (Chg.zero (Chg.drew _)) ?_
  have d14 := Chg.drew wl6
  have s14 : Chg 0 0 wl6 (World.drew wl6) := Chg.zero (Chg.drew _)
  have y14 : (World.drew wl6).heap.size = wl6.heap.size := rfl
  generalize World.drew wl6 = w14 at *
  have zw14 := d14.size
  refine dt 0 rfl rfl rfl rfl s14 (fun _ hS => px_move rfl) ?_
  refine dt 1 rfl rfl rfl rfl s14 (fun _ hS => px_move rfl) ?_
  refine dt 2 rfl rfl rfl rfl s14 (fun _ hS => px_index1 (j := k) rfl rfl (by omega) Try.underlying23 Try.sizeOf3 ((f12).chg hS (by omega)) (by omega)) ?_
  refine dt 3 rfl rfl rfl rfl s14 (fun _ hS => px_load rfl (((f12).chg hS (by omega)).load1 (at_int (by omega)) Try.isAgg3)) ?_
  refine dt 4 rfl rfl rfl rfl s14 (fun _ hS => px_move rfl) ?_
  refine dt 5 rfl rfl rfl rfl s14 (fun _ hS => px_move rfl) ?_
  refine dt 6 rfl rfl rfl rfl s14 (fun _ hS => px_index1 (j := k) rfl rfl (by omega) Try.underlying23 Try.sizeOf3 ((f13).chg hS (by omega)) (by omega)) ?_
  refine dt 7 rfl rfl rfl rfl s14 (fun _ hS => px_load rfl (((f13).chg hS (by omega)).load1 (at_int (by omega)) Try.isAgg3)) ?_
  refine dt 8 rfl rfl rfl rfl s14 (fun _ hS => px_ne rfl rfl) ?_
  refine dx_done (by kernel_rfl) ?_
  refine q_n (k11 _ _ ?_)
  refine sx_sub (Sub.c 0 rfl (.c 1 rfl (.c 12 rfl (.c 13 rfl (.c 24 rfl .nil))))) ?_
  have h173 : ¬ (((zs).getD k 0 : Int) ≠ (zs).getD k 0) := fun h => h rfl
  refine sx_condPF rfl h173 ?_
  refine sx_skip ?_
  refine q_bn (q_n (k9 _ _ ?_))
  refine sx_region ?_
  refine sp rfl (px_add rfl rfl (by omega)) ?_
  refine mv rfl rfl (wl_nil ?_)
  exact fun a ha => ⟨_, by omega, (k + 1), ha.sub (Sub.c 0 rfl (.c 1 rfl (.c 12 rfl (.c 13 (look_int (t := 13) rfl (by first | omega | simp)) .nil)))), (cwl6.t d14), rfl, by omega⟩
 refine sx_exit ?_
 refine q_e (q_e (q_bx (q_n (k4 _ _ ?_))))
 refine sx_seq fun K15 k15 => sx_region ?_
 refine av rfl rfl (wl_nil (q_n (k15 _ _ ?_)))
 refine sx_retc ?_
 refine sx_ret1 Try.results72 rfl ?_
 exact ⟨rfl, cwl6⟩

theorem c_intSame {w : World} {va : Value} {lva uva : Nat} {x : Int} {vb : Value} {lvb uvb : Nat} (hva : Sl w lva uva va (dg x.natAbs)) (hvb : Sl w lvb uvb vb (dg x.natAbs)) (hbx : (dg x.natAbs).length ≤ 1000) :
  Ret Try.prog 44 [.agg #[.bool (ng x), va], .agg #[.bool (ng x), vb]] w fun v w' => v = .bool (true) ∧ Chg 0 0 w w' := by
 have hva0 := hva.fit
 have hvb0 := hvb.fit
 refine sx_enter Try.func44 rfl Try.ntmps44 (nbl rfl) ?_
 refine sx_seq fun K1 k1 => sx_region ?_
 refine sx_box [.bool (ng x), va] rfl rfl rfl (fun b2 w3 eb2 sb2 fb2 cb2 => ?_)
 have zw3 := cb2.size
 refine sx_box [.bool (ng x), vb] rfl rfl rfl (fun b4 w5 eb4 sb4 fb4 cb4 => ?_)
 have zw5 := cb4.size
 refine av rfl rfl (wl_nil (q_n (k1 _ _ ?_)))
 refine sx_seq fun K6 k6 => sx_region ?_
 refine sp rfl (px_field rfl xfld25x0) ?_
 have f7 := fb2.ext cb4
 refine sp rfl (px_load rfl (f7.load1 rfl Try.isAgg4)) ?_
 refine sp rfl (px_field rfl xfld25x0) ?_
 refine sp rfl (px_load rfl (fb4.load1 rfl Try.isAgg4)) ?_
 refine sp rfl (px_eqB Try.underlying4 rfl rfl) ?_
 refine mv rfl rfl ?_
 have h165 : ((ng x) == (ng x)) = true := beq_self_eq_true _
 refine sx_tmpBT (t := 10) rfl h165 ?_
 refine sx_guardT rfl rfl rfl ?_
 refine sp rfl (px_field rfl xfld25x1) ?_
 refine sx_guardT rfl rfl rfl ?_
 refine sp rfl (px_load rfl (f7.load1 rfl Try.isAgg23)) ?_
 refine sx_guardT rfl rfl rfl ?_
 refine sp rfl (px_field rfl xfld25x1) ?_
 refine sx_guardT rfl rfl rfl ?_
 refine sp rfl (px_load rfl (fb4.load1 rfl Try.isAgg23)) ?_
 refine sx_guardT rfl rfl rfl ?_
 have f8 := hva0.ext cb2
 have f9 := f8.ext cb4
 have f10 := hvb0.ext cb2
 have f11 := f10.ext cb4
 refine sx_call rfl rfl Try.call72 (c_sameInts f9 f11 (by omega)) (fun v12 w12 p12 => ?_)
 obtain ⟨rfl, c12⟩ := p12
 have zw12 := c12.size
 refine sp rfl (px_pick rfl rfl) ?_
 refine av rfl rfl (wl_nil (q_n (k6 _ _ ?_)))
 refine sx_sub (Sub.c 4 rfl .nil) ?_
 refine sx_retc ?_
 refine sx_ret1 Try.results44 rfl ?_
 exact ⟨rfl, ((cb2.t cb4).t c12)⟩

theorem c_equalFunc {w : World} {va : Value} {lva uva : Nat} {zs : List Int} {vva : List Value} {vb : Value} {lvb uvb : Nat} {ys : List Int} {vvb : List Value} (hva : SgS w lva uva va zs vva) (hvb : SgS w lvb uvb vb ys vvb) (hy : ys = zs) (hn : zs.length ≤ 1000) (hbl : ∀ i, i < zs.length → (dg (zs.getD i 0).natAbs).length ≤ 10) :
  Ret Try.prog 43 [va, vb, .func (.func 44) #[] #[]] w fun v w' => v = .bool (true) ∧ Chg 0 0 w w' := by
 have hva0 := hva.fit
 have hvb0 := hvb.fit
 subst hy
 refine sx_enter Try.func43 rfl Try.ntmps43 (nbl rfl) ?_
 refine sx_seq fun K1 k1 => sx_region ?_
 refine av rfl rfl (wl_nil (q_n (k1 _ _ ?_)))
 refine sx_seq fun K2 k2 => ?_
 refine sx_seq fun K3 k3 => sx_region ?_
 refine mv rfl rfl (sp rfl (px_len rfl Try.underlying28 hva0.sv) ?_)
 refine mv rfl rfl (sp rfl (px_len rfl Try.underlying28 hvb0.sv) ?_)
 refine sp rfl (px_ne rfl rfl) ?_
 refine wl_nil (q_n (k3 _ _ ?_))
 have h38 : ¬ ((↑((ys).length) : Int) ≠ ↑((ys).length)) := fun h => h rfl
 refine sx_condPF rfl h38 ?_
 refine sx_skip ?_
 refine q_n (k2 _ _ ?_)
 refine sx_seq fun K4 k4 => ?_
 refine sx_seq fun K5 k5 => sx_region ?_
 refine mv rfl rfl (sp rfl (px_len rfl Try.underlying28 hva0.sv) ?_)
 refine mv rfl rfl (wl_nil (q_n (k5 _ _ ?_)))
 refine sx_block ?_
 refine sx_loop (fun mm aa w' => ∃ (k : Nat), Agr 32 [(0, va), (1, vb), (2, .func (.func 44) #[] #[]), (15, va), (16, .int .i64 (↑(ys).length)), (17, .int .i64 ↑k)] aa ∧ Chg 0 0 w w' ∧ (mm = ys.length - k) ∧ (k ≤ ys.length)) (_) (fun a ha => ⟨0, ha.sub (Sub.c 0 rfl (.c 1 rfl (.c 2 rfl (.c 15 rfl (.c 16 (look_int (t := 16) rfl (by first | omega | simp)) (.c 17 (look_int (t := 17) rfl (by first | omega | simp)) .nil)))))), Chg.refl _ _ _, rfl, by omega⟩) ?_
 rintro mm aa wl6 ⟨k, hAwl6, cwl6, hm, hk⟩
 refine (show cw Try.prog 32 _ _ _ wl6 from ?_) aa hAwl6
 clear hAwl6
 have zwl6 := cwl6.size
 refine sx_seq fun K7 k7 => sx_region ?_
 refine sp rfl (px_lt rfl rfl) ?_
 refine wl_nil (q_n (k7 _ _ ?_))
 refine sx_seq fun K8 k8 => ?_
 refine sx_condP rfl (fun h41 => ?_) (fun h41 => ?_)
 ·
  refine sx_skip ?_
  refine q_n (k8 _ _ ?_)
  refine sx_seq fun K9 k9 => ?_
  refine sx_block ?_
  refine sx_seq fun K10 k10 => sx_region ?_
  refine mv rfl rfl ?_
  have f11 := hva0.ext cwl6
  refine sp rfl (px_indexK (j := k) rfl rfl (by omega) Try.underlying28 Try.sizeOf25 f11.sv (by omega)) ?_
  refine sp rfl (px_load rfl (f11.sv.loadA (sg_look (by omega)) Try.isAgg25 Try.sizeOf25)) ?_
  refine sx_alloc [.bool false, (.slice none 0 0)] rfl Try.zeroValue25 rfl (fun b12 w13 eb12 sb12 fb12 cb12 => ?_)
  have zw13 := cb12.size
  refine av rfl rfl ?_
  have f15 := (f11.nest k (by omega)).ext cb12
  refine sx_store (vs := [.bool (ng (ys.getD k 0)), (vva.getD k vz)]) rfl rfl fb12 rfl Try.sizeOf25 (nbl rfl) (one_cons rfl (one_cons f15.one one_nil)) (fun w14 sw14 fw14 cw14 => ?_)
  have zw14 := cw14.size
  have gw14 : Blk w14 b12 [.bool (ng (ys.getD k 0)), (vva.getD k vz)] 25 := fw14
  refine wl_nil (q_n (k10 _ _ ?_))
  refine sx_seq fun K16 k16 => sx_region ?_
  refine mv rfl rfl (mv rfl rfl ?_)
  have f17 := hvb0.ext cwl6
  have f18 := f17.ext cb12
  have f19 := f18.chg cw14 (by omega)
  refine sp rfl (px_indexK (j := k) rfl rfl (by omega) Try.underlying28 Try.sizeOf25 f19.sv (by omega)) ?_
  refine sp rfl (px_load rfl (f19.sv.loadA (sg_look (by omega)) Try.isAgg25 Try.sizeOf25)) ?_
  refine sx_alloc [.bool false, (.slice none 0 0)] rfl Try.zeroValue25 rfl (fun b20 w21 eb20 sb20 fb20 cb20 => ?_)
  have zw21 := cb20.size
  have f23 := (f19.nest k (by omega)).ext cb20
  refine sx_store (vs := [.bool (ng (ys.getD k 0)), (vvb.getD k vz)]) rfl rfl fb20 rfl Try.sizeOf25 (nbl rfl) (one_cons rfl (one_cons f23.one one_nil)) (fun w22 sw22 fw22 cw22 => ?_)
  have zw22 := cw22.size
  have gw22 : Blk w22 b20 [.bool (ng (ys.getD k 0)), (vvb.getD k vz)] 25 := fw22
  refine wl_nil (q_n (k16 _ _ ?_))
  refine sx_sub (Sub.c 0 rfl (.c 1 rfl (.c 2 rfl (.c 8 rfl (.c 9 rfl (.c 15 rfl (.c 16 rfl (.c 17 rfl .nil)))))))) ?_
  refine sx_seq fun K24 k24 => sx_region ?_
  refine mv rfl rfl ?_
  have f25 := gw14.ext cb20
  have f26 := f25.chg cw22 (by omega)
  refine sp rfl (px_load rfl (f26.loadA (vs := [.bool (ng (ys.getD k 0)), (vva.getD k vz)]) (look_lit rfl) Try.isAgg25 Try.sizeOf25)) ?_
  refine sp rfl (px_load rfl (gw22.loadA (vs := [.bool (ng (ys.getD k 0)), (vvb.getD k vz)]) (look_lit rfl) Try.isAgg25 Try.sizeOf25)) ?_
  have f27 := f15.chg cw14 (by omega)
  have f28 := f27.ext cb20
  have f29 := f28.chg cw22 (by omega)
  have f30 := f23.chg cw22 (by omega)
  refine sx_callV rfl rfl rfl Try.call44 (c_intSame f29 f30 (by have := hbl k (by omega); omega)) (fun v31 w31 p31 => ?_)
  obtain ⟨rfl, c31⟩ := p31
  have zw31 := c31.size
  refine sp rfl (px_not rfl) ?_
  refine wl_nil (q_n (k24 _ _ ?_))
  refine sx_condF rfl ?_
  refine sx_skip ?_
  refine q_bn (q_n (k9 _ _ ?_))
  refine sx_region ?_
  refine sp rfl (px_add rfl rfl (by omega)) ?_
  refine mv rfl rfl (wl_nil ?_)
  have q32 := Chg.step (l := 0) (h := 0) (Chg.zero (l := 0) (h := 0) (cwl6.t cb12)) cw14 (by omega)
  have q33 := Chg.step (l := 0) (h := 0) q32 cb20 (by omega)
  have q34 := Chg.step (l := 0) (h := 0) q33 cw22 (by omega)
  have q35 := Chg.step (l := 0) (h := 0) q34 c31 (by omega)
  exact fun a ha => ⟨_, by omega, (k + 1), ha.sub (Sub.c 0 rfl (.c 1 rfl (.c 2 rfl (.c 15 rfl (.c 16 rfl (.c 17 (look_int (t := 17) rfl (by first | omega | simp)) .nil)))))), q35, rfl, by omega⟩
 refine sx_exit ?_
 refine q_e (q_e (q_bx (q_n (k4 _ _ ?_))))
 refine sx_seq fun K36 k36 => sx_region ?_
 refine av rfl rfl (wl_nil (q_n (k36 _ _ ?_)))
 refine sx_retc ?_
 refine sx_ret1 Try.results43 rfl ?_
 exact ⟨rfl, cwl6⟩

theorem c_iSharesOk {w : World} {va : Value} {lva uva : Nat} {x : Int} {vw : Value} {lvw uvw : Nat} {ws : List Int} {vl : Value} {lvl uvl : Nat} {zs : List Int} {vvl : List Value} (hva : Sl w lva uva va (dg x.natAbs)) (hvw : Sl w lvw uvw vw (ws)) (hvl : SgS w lvl uvl vl zs vvl) (hW : WOk ws) (hx : (dg x.natAbs).length ≤ 8) (hor : ws.length ≤ 19 ∨ SortTo (sR x.natAbs ws) (List.range ws.length) ws.length) (hz : zs = shrs x ws) :
  Ret Try.prog 10 [.agg #[.bool (ng x), va], vw, vl] w fun v w' => v = .bool (true) ∧ Chg 0 0 w w' := by
 have hva0 := hva.fit
 have hvw0 := hvw.fit
 have hvl0 := hvl.fit
 have hn2 := hW.2.1
 have hsl := shrs_len (x := x) (ws := ws)
 refine sx_enter Try.func10 rfl Try.ntmps10 (nbl rfl) ?_
 refine sx_seq fun K1 k1 => sx_region ?_
 refine sx_box [.bool (ng x), va] rfl rfl rfl (fun b2 w3 eb2 sb2 fb2 cb2 => ?_)
 have zw3 := cb2.size
 refine av rfl rfl (wl_nil (q_n (k1 _ _ ?_)))
 refine sx_seq fun K4 k4 => sx_region ?_
 refine sp rfl (px_load rfl (fb2.loadA (vs := [.bool (ng x), va]) (look_lit rfl) Try.isAgg25 Try.sizeOf25)) ?_
 refine mv rfl rfl ?_
 have f5 := hva0.ext cb2
 have f6 := hvw0.ext cb2
 refine sx_call rfl rfl Try.call7 (c_iShares f5 f6 (by assumption) (by omega) (by omega)) (fun v7 w7 p7 => ?_)
 obtain ⟨s7, us7, rfl, os_7, hix7, c7⟩ := p7
 have zw7 := c7.size
 refine mv rfl rfl (sp rfl (px_ex2 rfl rfl) ?_)
 refine sp rfl (px_ex2 rfl rfl) ?_
 refine av rfl rfl (av rfl rfl (wl_nil (q_n (k4 _ _ ?_))))
 refine sx_seq fun K8 k8 => sx_region ?_
 refine mv rfl rfl (mv rfl rfl ?_)
 refine sx_guardT rfl rfl rfl ?_
 refine mv rfl rfl ?_
 refine sx_guardT rfl rfl rfl ?_
 refine mv rfl rfl ?_
 refine sx_guardT rfl rfl rfl ?_
 have f9 := hvl0.ext cb2
 have f10 := f9.ext c7
 refine sx_call rfl rfl Try.call43 (c_equalFunc os_7 f10 (hz) (by omega) (fun i hi => by rw [shrs_len] at hi; rw [shrs_get hi, shr_abs]; exact Nat.le_trans (mg_len hW hi hx) (by decide))) (fun v11 w11 p11 => ?_)
 obtain ⟨rfl, c11⟩ := p11
 have zw11 := c11.size
 refine sp rfl (px_pick rfl rfl) ?_
 refine av rfl rfl (wl_nil (q_n (k8 _ _ ?_)))
 refine sx_sub (Sub.c 6 rfl .nil) ?_
 refine sx_retc ?_
 refine sx_ret1 Try.results10 rfl ?_
 exact ⟨rfl, ((cb2.t c7).t c11)⟩

theorem c_iRatOk {w : World} {n1 : Bool} {v1 : Value} {lv1 uv1 : Nat} {z1 : List Int} {d1 : Value} {ld1 ud1 : Nat} {y1 : List Int} (hv1 : Sl w lv1 uv1 v1 (z1)) (hd1 : Sl w ld1 ud1 d1 (y1)) (h63 : z1.length ≤ 4611686018427387904 ∧ y1.length ≤ 4611686018427387904) :
  Ret Try.prog 46 [.agg #[.bool n1, v1, d1]] w fun v w' => v = .bool (decide (ROk n1 z1 y1)) ∧ Chg 0 0 w w' := by
 have hv10 := hv1.fit
 have hd10 := hd1.fit
 refine sx_enter Try.func46 rfl Try.ntmps46 (nbl rfl) ?_
 refine sx_seq fun K1 k1 => sx_region ?_
 refine sx_box [.bool n1, v1, d1] rfl rfl rfl (fun b2 w3 eb2 sb2 fb2 cb2 => ?_)
 have zw3 := cb2.size
 refine av rfl rfl (wl_nil (q_n (k1 _ _ ?_)))
 refine sx_seq fun K4 k4 => ?_
 refine sx_seq fun K5 k5 => sx_region ?_
 refine sp rfl (px_field rfl xfld35x0) ?_
 refine sp rfl (px_load rfl (fb2.loadA (vs := [.bool n1, v1]) (look_lit rfl) Try.isAgg25 Try.sizeOf25)) ?_
 have f6 := hv10.ext cb2
 refine sx_call rfl rfl Try.call25 (c_iIntOk f6 (by omega)) (fun v7 w7 p7 => ?_)
 obtain ⟨rfl, c7⟩ := p7
 have zw7 := c7.size
 refine sp rfl (px_notP rfl) ?_
 refine mv rfl rfl ?_
 refine sx_tmpP (t := 8) rfl (fun h14 => ?_) (fun h14 => ?_)
 ·
  refine sx_guardF rfl rfl rfl rfl rfl rfl ?_
  refine sx_guardF rfl rfl rfl rfl rfl rfl ?_
  refine sx_guardF rfl rfl rfl rfl rfl rfl ?_
  refine sx_guardF rfl rfl rfl rfl rfl rfl ?_
  refine sp rfl (px_pick rfl rfl) ?_
  refine mv rfl rfl ?_
  refine sx_guardF rfl rfl rfl rfl rfl rfl ?_
  refine sx_guardF rfl rfl rfl rfl rfl rfl ?_
  refine sx_guardF rfl rfl rfl rfl rfl rfl ?_
  refine sx_guardF rfl rfl rfl rfl rfl rfl ?_
  refine sp rfl (px_pick rfl rfl) ?_
  refine mv rfl rfl ?_
  refine sx_guardF rfl rfl rfl rfl rfl rfl ?_
  refine sx_guardF rfl rfl rfl rfl rfl rfl ?_
  refine sx_guardF rfl rfl rfl rfl rfl rfl ?_
  refine sx_guardF rfl rfl rfl rfl rfl rfl ?_
  refine sp rfl (px_pick rfl rfl) ?_
  refine mv rfl rfl ?_
  refine sx_guardF rfl rfl rfl rfl rfl rfl ?_
  refine sx_guardF rfl rfl rfl rfl rfl rfl ?_
  refine sx_guardF rfl rfl rfl rfl rfl rfl ?_
  refine sx_guardF rfl rfl rfl rfl rfl rfl ?_
  refine sx_guardF rfl rfl rfl rfl rfl rfl ?_
  refine sp rfl (px_pick rfl rfl) ?_
  refine wl_nil (q_n (k5 _ _ ?_))
  refine sx_sub (Sub.c 1 rfl (.c 2 rfl (.c 32 rfl .nil))) ?_
  refine sx_condT rfl ?_
  refine sx_seq fun K8 k8 => sx_region ?_
  refine av rfl rfl (wl_nil (q_n (k8 _ _ ?_)))
  refine sx_retc ?_
  refine q_r (sx_ret1 Try.results46 rfl ?_)
  exact ⟨(bFalse (by grind [ROk])), (cb2.t c7)⟩
 refine sx_guardT rfl rfl rfl ?_
 refine sp rfl (px_field rfl xfld35x1) ?_
 refine sx_guardT rfl rfl rfl ?_
 have f9 := fb2.ext c7
 refine sp rfl (px_load rfl (f9.load1 rfl Try.isAgg23)) ?_
 refine sx_guardT rfl rfl rfl ?_
 have f10 := hd10.ext cb2
 have f11 := f10.ext c7
 refine sx_call rfl rfl Try.call65 (c_iNatOk f11 (by omega)) (fun v12 w12 p12 => ?_)
 obtain ⟨rfl, c12⟩ := p12
 have zw12 := c12.size
 refine sx_guardT rfl rfl rfl ?_
 refine sp rfl (px_notP rfl) ?_
 refine sp rfl (px_pick rfl rfl) ?_
 refine mv rfl rfl ?_
 refine sx_tmpP (t := 14) rfl (fun h14x1 => ?_) (fun h14x1 => ?_)
 ·
  refine sx_guardF rfl rfl rfl rfl rfl rfl ?_
  refine sx_guardF rfl rfl rfl rfl rfl rfl ?_
  refine sx_guardF rfl rfl rfl rfl rfl rfl ?_
  refine sx_guardF rfl rfl rfl rfl rfl rfl ?_
  refine sp rfl (px_pick rfl rfl) ?_
  refine mv rfl rfl ?_
  refine sx_guardF rfl rfl rfl rfl rfl rfl ?_
  refine sx_guardF rfl rfl rfl rfl rfl rfl ?_
  refine sx_guardF rfl rfl rfl rfl rfl rfl ?_
  refine sx_guardF rfl rfl rfl rfl rfl rfl ?_
  refine sp rfl (px_pick rfl rfl) ?_
  refine mv rfl rfl ?_
  refine sx_guardF rfl rfl rfl rfl rfl rfl ?_
  refine sx_guardF rfl rfl rfl rfl rfl rfl ?_
  refine sx_guardF rfl rfl rfl rfl rfl rfl ?_
  refine sx_guardF rfl rfl rfl rfl rfl rfl ?_
  refine sx_guardF rfl rfl rfl rfl rfl rfl ?_
  refine sp rfl (px_pick rfl rfl) ?_
  refine wl_nil (q_n (k5 _ _ ?_))
  refine sx_sub (Sub.c 1 rfl (.c 2 rfl (.c 32 rfl .nil))) ?_
  refine sx_condT rfl ?_
  refine sx_seq fun K13 k13 => sx_region ?_
  refine av rfl rfl (wl_nil (q_n (k13 _ _ ?_)))
  refine sx_retc ?_
  refine q_r (sx_ret1 Try.results46 rfl ?_)
  exact ⟨(bFalse (by grind [ROk])), ((cb2.t c7).t c12)⟩
 refine sx_guardT rfl rfl rfl ?_
 refine sp rfl (px_field rfl xfld35x1) ?_
 refine sx_guardT rfl rfl rfl ?_
 have f14 := f9.ext c12
 refine sp rfl (px_load rfl (f14.load1 rfl Try.isAgg23)) ?_
 refine sx_guardT rfl rfl rfl ?_
 have f15 := f11.ext c12
 refine sp rfl (px_len rfl Try.underlying23 f15) ?_
 refine sx_guardT rfl rfl rfl ?_
 refine sp rfl (px_eq rfl rfl) ?_
 refine sp rfl (px_pick rfl rfl) ?_
 refine mv rfl rfl ?_
 refine sx_tmpP (t := 20) rfl (fun h14x2 => ?_) (fun h14x2 => ?_)
 ·
  refine sx_guardF rfl rfl rfl rfl rfl rfl ?_
  refine sx_guardF rfl rfl rfl rfl rfl rfl ?_
  refine sx_guardF rfl rfl rfl rfl rfl rfl ?_
  refine sx_guardF rfl rfl rfl rfl rfl rfl ?_
  refine sp rfl (px_pick rfl rfl) ?_
  refine mv rfl rfl ?_
  refine sx_guardF rfl rfl rfl rfl rfl rfl ?_
  refine sx_guardF rfl rfl rfl rfl rfl rfl ?_
  refine sx_guardF rfl rfl rfl rfl rfl rfl ?_
  refine sx_guardF rfl rfl rfl rfl rfl rfl ?_
  refine sx_guardF rfl rfl rfl rfl rfl rfl ?_
  refine sp rfl (px_pick rfl rfl) ?_
  refine wl_nil (q_n (k5 _ _ ?_))
  refine sx_sub (Sub.c 1 rfl (.c 2 rfl (.c 32 rfl .nil))) ?_
  refine sx_condT rfl ?_
  refine sx_seq fun K16 k16 => sx_region ?_
  refine av rfl rfl (wl_nil (q_n (k16 _ _ ?_)))
  refine sx_retc ?_
  refine q_r (sx_ret1 Try.results46 rfl ?_)
  exact ⟨(bFalse (by grind [ROk])), ((cb2.t c7).t c12)⟩
 refine sx_guardT rfl rfl rfl ?_
 refine sp rfl (px_field rfl xfld35x1) ?_
 refine sx_guardT rfl rfl rfl ?_
 refine sp rfl (px_load rfl (f14.load1 rfl Try.isAgg23)) ?_
 refine sx_guardT rfl rfl rfl ?_
 refine sp rfl (px_len rfl Try.underlying23 f15) ?_
 refine sx_guardT rfl rfl rfl ?_
 refine sp rfl (px_gt rfl rfl) ?_
 refine sp rfl (px_pick rfl rfl) ?_
 refine mv rfl rfl ?_
 refine sx_tmpP (t := 26) rfl (fun h14x3 => ?_) (fun h14x3 => ?_)
 ·
  refine sx_guardF rfl rfl rfl rfl rfl rfl ?_
  refine sx_guardF rfl rfl rfl rfl rfl rfl ?_
  refine sx_guardF rfl rfl rfl rfl rfl rfl ?_
  refine sx_guardF rfl rfl rfl rfl rfl rfl ?_
  refine sx_guardF rfl rfl rfl rfl rfl rfl ?_
  refine sp rfl (px_pick rfl rfl) ?_
  refine wl_nil (q_n (k5 _ _ ?_))
  refine sx_sub (Sub.c 1 rfl (.c 2 rfl (.c 32 rfl .nil))) ?_
  refine sx_condT rfl ?_
  refine sx_seq fun K17 k17 => sx_region ?_
  refine av rfl rfl (wl_nil (q_n (k17 _ _ ?_)))
  refine sx_retc ?_
  refine q_r (sx_ret1 Try.results46 rfl ?_)
  exact ⟨(bFalse (by grind [ROk])), ((cb2.t c7).t c12)⟩
 refine sx_guardT rfl rfl rfl ?_
 refine sp rfl (px_field rfl xfld35x0) ?_
 refine sx_guardT rfl rfl rfl ?_
 refine sp rfl (px_field rfl xfld25x1) ?_
 refine sx_guardT rfl rfl rfl ?_
 refine sp rfl (px_load rfl (f14.load1 rfl Try.isAgg23)) ?_
 refine sx_guardT rfl rfl rfl ?_
 have f19 := (f6.ext c7).ext c12
 refine sp rfl (px_len rfl Try.underlying23 f19) ?_
 refine sx_guardT rfl rfl rfl ?_
 refine sp rfl (px_gt rfl rfl) ?_
 refine sp rfl (px_pick rfl rfl) ?_
 refine wl_nil (q_n (k5 _ _ ?_))
 refine sx_sub (Sub.c 1 rfl (.c 2 rfl (.c 32 rfl .nil))) ?_
 refine sx_condP rfl (fun h14x4 => ?_) (fun h14x4 => ?_)
 ·
  refine sx_seq fun K20 k20 => sx_region ?_
  refine av rfl rfl (wl_nil (q_n (k20 _ _ ?_)))
  refine sx_retc ?_
  refine q_r (sx_ret1 Try.results46 rfl ?_)
  exact ⟨(bFalse (by grind [ROk])), ((cb2.t c7).t c12)⟩
 have hR1 := Decidable.not_not.1 h14
 have hR2 := Decidable.not_not.1 h14x1
 obtain ⟨x1, rfl, rfl, hx1⟩ := hR1.int
 obtain ⟨e1, rfl, he1⟩ := hR2.dg
 have he0 : 0 < e1 := len_pos.1 (by omega)
 have hk : ROk (ng x1) (dg x1.natAbs) (dg e1) ↔ dg (Nat.gcd x1.natAbs e1) = [1] := by rw [ROk_iff, dg_is_one]; exact ⟨fun h => h.2.2.2, fun h => ⟨he0, by omega, by omega, h⟩⟩
 refine sx_skip ?_
 refine q_n (k4 _ _ ?_)
 refine sx_seq fun K21 k21 => sx_region ?_
 refine sp rfl (px_field rfl xfld35x0) ?_
 refine sp rfl (px_field rfl xfld25x1) ?_
 refine sp rfl (px_load rfl (f14.load1 rfl Try.isAgg23)) ?_
 refine sp rfl (px_field rfl xfld35x1) ?_
 refine sp rfl (px_load rfl (f14.load1 rfl Try.isAgg23)) ?_
 refine sx_call rfl rfl Try.call73 (c_natGcd f19 f15 (by omega) (by omega)) (fun v22 w22 p22 => ?_)
 obtain ⟨s22, rfl, os_22, c22⟩ := p22
 have zw22 := c22.size
 refine av rfl rfl (wl_nil (q_n (k21 _ _ ?_)))
 refine sx_seq fun K23 k23 => sx_region ?_
 refine mv rfl rfl (sp rfl (px_len rfl Try.underlying23 os_22.sv) ?_)
 refine sp rfl (px_eq rfl rfl) ?_
 refine mv rfl rfl ?_
 refine sx_tmpP (t := 42) rfl (fun h18 => ?_) (fun h18 => ?_)
 ·
  refine sx_guardT rfl rfl rfl ?_
  refine mv rfl rfl ?_
  refine sx_guardT rfl rfl rfl ?_
  refine sp rfl (px_index1 (j := 0) rfl rfl (by omega) Try.underlying23 Try.sizeOf3 os_22.sv (by omega)) ?_
  refine sx_guardT rfl rfl rfl ?_
  refine sp rfl (px_load rfl (os_22.sv.load1 (at_int (by omega)) Try.isAgg3)) ?_
  refine sx_guardT rfl rfl rfl ?_
  refine sp rfl (px_eq rfl rfl) ?_
  refine sp rfl (px_pick rfl rfl) ?_
  refine av rfl rfl (wl_nil (q_n (k23 _ _ ?_)))
  refine sx_sub (Sub.c 2 rfl .nil) ?_
  refine sx_retc ?_
  refine sx_ret1 Try.results46 rfl ?_
  rw [one_iff] at hk
  exact ⟨(by first | exact bFalse (fun h => by have := hk.1 h; omega) | exact bIff ⟨fun h => hk.2 ⟨by omega, h⟩, fun h => (hk.1 h).2⟩), (((cb2.t c7).t c12).t c22)⟩
 refine sx_guardF rfl rfl rfl rfl rfl rfl ?_
 refine sx_guardF rfl rfl rfl rfl rfl rfl ?_
 refine sx_guardF rfl rfl rfl rfl rfl rfl ?_
 refine sx_guardF rfl rfl rfl rfl rfl rfl ?_
 refine sp rfl (px_pick rfl rfl) ?_
 refine av rfl rfl (wl_nil (q_n (k23 _ _ ?_)))
 refine sx_sub (Sub.c 2 rfl .nil) ?_
 refine sx_retc ?_
 refine sx_ret1 Try.results46 rfl ?_
 rw [one_iff] at hk
 exact ⟨(by first | exact bFalse (fun h => by have := hk.1 h; omega) | exact bIff ⟨fun h => hk.2 ⟨by omega, h⟩, fun h => (hk.1 h).2⟩), (((cb2.t c7).t c12).t c22)⟩

theorem c_isMode {w : World} {m : Int} :
  Ret Try.prog 47 [.int .i64 m] w fun v w' => v = .bool (decide (0 ≤ m ∧ m ≤ 6)) ∧ Chg 0 0 w w' := by
 refine sx_enter Try.func47 rfl Try.ntmps47 (nbl rfl) ?_
 refine sx_seq fun K1 k1 => sx_region ?_
 refine av rfl rfl (wl_nil (q_n (k1 _ _ ?_)))
 refine sx_seq fun K2 k2 => sx_region ?_
 refine mv rfl rfl (sp rfl (px_ge rfl rfl) ?_)
 refine mv rfl rfl ?_
 refine sx_tmpP (t := 5) rfl (fun h34 => ?_) (fun h34 => ?_)
 ·
  refine sx_guardT rfl rfl rfl ?_
  refine mv rfl rfl ?_
  refine sx_guardT rfl rfl rfl ?_
  refine sp rfl (px_le rfl rfl) ?_
  refine sp rfl (px_pick rfl rfl) ?_
  refine av rfl rfl (wl_nil (q_n (k2 _ _ ?_)))
  refine sx_retc ?_
  refine sx_ret1 Try.results47 rfl ?_
  exact ⟨(by first | exact bTrue (by grind) | exact bFalse (by grind) | exact bIff (by grind)), (Chg.refl 0 0 _)⟩
 refine sx_guardF rfl rfl rfl rfl rfl rfl ?_
 refine sx_guardF rfl rfl rfl rfl rfl rfl ?_
 refine sp rfl (px_pick rfl rfl) ?_
 refine av rfl rfl (wl_nil (q_n (k2 _ _ ?_)))
 refine sx_retc ?_
 refine sx_ret1 Try.results47 rfl ?_
 exact ⟨(by first | exact bTrue (by grind) | exact bFalse (by grind) | exact bIff (by grind)), (Chg.refl 0 0 _)⟩

theorem c_rm1 {w : World} {n : Bool} {c : Int} {o : Bool} :
  Ret Try.prog 90 [.bool n, .int .i64 c, .bool o] w fun v w' => v = .bool (awayB 0 n c o) ∧ Chg 0 0 w w' := by
 refine sx_enter Try.func90 rfl Try.ntmps90 (nbl rfl) ?_
 refine sx_seq fun K1 k1 => sx_region ?_
 refine av rfl rfl (wl_nil (q_n (k1 _ _ ?_)))
 refine sx_seq fun K2 k2 => sx_region ?_
 refine av rfl rfl (wl_nil (q_n (k2 _ _ ?_)))
 refine sx_retc ?_
 refine sx_ret1 Try.results90 rfl ?_
 exact ⟨(by first | rfl | (simp_all [awayB]; done) | grind [awayB]), (Chg.refl 0 0 _)⟩

theorem c_rm2 {w : World} {n : Bool} {c : Int} {o : Bool} :
  Ret Try.prog 91 [.bool n, .int .i64 c, .bool o] w fun v w' => v = .bool (awayB 1 n c o) ∧ Chg 0 0 w w' := by
 refine sx_enter Try.func91 rfl Try.ntmps91 (nbl rfl) ?_
 refine sx_seq fun K1 k1 => sx_region ?_
 refine av rfl rfl (wl_nil (q_n (k1 _ _ ?_)))
 refine sx_seq fun K2 k2 => sx_region ?_
 refine av rfl rfl (wl_nil (q_n (k2 _ _ ?_)))
 refine sx_retc ?_
 refine sx_ret1 Try.results91 rfl ?_
 exact ⟨(by first | rfl | (simp_all [awayB]; done) | grind [awayB]), (Chg.refl 0 0 _)⟩

theorem c_rm3 {w : World} {n : Bool} {c : Int} {o : Bool} :
  Ret Try.prog 92 [.bool n, .int .i64 c, .bool o] w fun v w' => v = .bool (awayB 2 n c o) ∧ Chg 0 0 w w' := by
 refine sx_enter Try.func92 rfl Try.ntmps92 (nbl rfl) ?_
 refine sx_seq fun K1 k1 => sx_region ?_
 refine av rfl rfl (wl_nil (q_n (k1 _ _ ?_)))
 refine sx_seq fun K2 k2 => sx_region ?_
 refine mv rfl rfl (av rfl rfl (wl_nil (q_n (k2 _ _ ?_))))
 refine sx_retc ?_
 refine sx_ret1 Try.results92 rfl ?_
 exact ⟨(by first | rfl | (simp_all [awayB]; done) | grind [awayB]), (Chg.refl 0 0 _)⟩

theorem c_rm4 {w : World} {n : Bool} {c : Int} {o : Bool} :
  Ret Try.prog 93 [.bool n, .int .i64 c, .bool o] w fun v w' => v = .bool (awayB 3 n c o) ∧ Chg 0 0 w w' := by
 refine sx_enter Try.func93 rfl Try.ntmps93 (nbl rfl) ?_
 refine sx_seq fun K1 k1 => sx_region ?_
 refine av rfl rfl (wl_nil (q_n (k1 _ _ ?_)))
 refine sx_seq fun K2 k2 => sx_region ?_
 refine mv rfl rfl (sp rfl (px_not rfl) ?_)
 refine av rfl rfl (wl_nil (q_n (k2 _ _ ?_)))
 refine sx_retc ?_
 refine sx_ret1 Try.results93 rfl ?_
 exact ⟨(by first | rfl | (simp_all [awayB]; done) | grind [awayB]), (Chg.refl 0 0 _)⟩

theorem c_rm5 {w : World} {n : Bool} {c : Int} {o : Bool} :
  Ret Try.prog 94 [.bool n, .int .i64 c, .bool o] w fun v w' => v = .bool (awayB 4 n c o) ∧ Chg 0 0 w w' := by
 refine sx_enter Try.func94 rfl Try.ntmps94 (nbl rfl) ?_
 refine sx_seq fun K1 k1 => sx_region ?_
 refine av rfl rfl (wl_nil (q_n (k1 _ _ ?_)))
 refine sx_seq fun K2 k2 => sx_region ?_
 refine mv rfl rfl (sp rfl (px_gt rfl rfl) ?_)
 refine av rfl rfl (wl_nil (q_n (k2 _ _ ?_)))
 refine sx_retc ?_
 refine sx_ret1 Try.results94 rfl ?_
 exact ⟨(by first | rfl | (simp_all [awayB]; done) | grind [awayB]), (Chg.refl 0 0 _)⟩

theorem c_rm6 {w : World} {n : Bool} {c : Int} {o : Bool} :
  Ret Try.prog 95 [.bool n, .int .i64 c, .bool o] w fun v w' => v = .bool (awayB 5 n c o) ∧ Chg 0 0 w w' := by
 refine sx_enter Try.func95 rfl Try.ntmps95 (nbl rfl) ?_
 refine sx_seq fun K1 k1 => sx_region ?_
 refine av rfl rfl (wl_nil (q_n (k1 _ _ ?_)))
 refine sx_seq fun K2 k2 => sx_region ?_
 refine mv rfl rfl (sp rfl (px_ge rfl rfl) ?_)
 refine av rfl rfl (wl_nil (q_n (k2 _ _ ?_)))
 refine sx_retc ?_
 refine sx_ret1 Try.results95 rfl ?_
 exact ⟨(by first | rfl | (simp_all [awayB]; done) | grind [awayB]), (Chg.refl 0 0 _)⟩

theorem c_rm7 {w : World} {n : Bool} {c : Int} {o : Bool} :
  Ret Try.prog 96 [.bool n, .int .i64 c, .bool o] w fun v w' => v = .bool (awayB 6 n c o) ∧ Chg 0 0 w w' := by
 refine sx_enter Try.func96 rfl Try.ntmps96 (nbl rfl) ?_
 refine sx_seq fun K1 k1 => sx_region ?_
 refine av rfl rfl (wl_nil (q_n (k1 _ _ ?_)))
 refine sx_seq fun K2 k2 => sx_region ?_
 refine mv rfl rfl (sp rfl (px_gt rfl rfl) ?_)
 refine mv rfl rfl ?_
 refine sx_tmpP (t := 9) rfl (fun h29 => ?_) (fun h29 => ?_)
 ·
  refine sx_guardF rfl rfl rfl rfl rfl rfl ?_
  refine sx_guardF rfl rfl rfl rfl rfl rfl ?_
  refine sx_guardF rfl rfl rfl rfl rfl rfl ?_
  refine sx_guardFU rfl rfl rfl rfl rfl ?_
  refine sx_guardF rfl rfl rfl rfl rfl rfl ?_
  refine sp rfl (px_pick rfl rfl) ?_
  refine av rfl rfl (wl_nil (q_n (k2 _ _ ?_)))
  refine sx_retc ?_
  refine sx_ret1 Try.results96 rfl ?_
  exact ⟨(by first | rfl | (simp_all [awayB]; done) | grind [awayB]), (Chg.refl 0 0 _)⟩
 refine sx_guardT rfl rfl rfl ?_
 refine mv rfl rfl ?_
 refine sx_guardT rfl rfl rfl ?_
 refine sp rfl (px_eq rfl rfl) ?_
 refine sx_guardT rfl rfl rfl ?_
 refine mv rfl rfl ?_
 refine sx_tmpP (t := 12) rfl (fun h29x1 => ?_) (fun h29x1 => ?_)
 ·
  refine sx_guardT rfl rfl rfl ?_
  refine mv rfl rfl ?_
  refine sx_guardT rfl rfl rfl ?_
  refine sp rfl (px_pick rfl rfl) ?_
  refine sp rfl (px_pick rfl rfl) ?_
  refine av rfl rfl (wl_nil (q_n (k2 _ _ ?_)))
  refine sx_retc ?_
  refine sx_ret1 Try.results96 rfl ?_
  exact ⟨(by first | rfl | (simp_all [awayB]; done) | grind [awayB]), (Chg.refl 0 0 _)⟩
 refine sx_guardF rfl rfl rfl rfl rfl rfl ?_
 refine sx_guardT rfl rfl rfl ?_
 refine sp rfl (px_pick rfl rfl) ?_
 refine sp rfl (px_pick rfl rfl) ?_
 refine av rfl rfl (wl_nil (q_n (k2 _ _ ?_)))
 refine sx_retc ?_
 refine sx_ret1 Try.results96 rfl ?_
 exact ⟨(by first | rfl | (simp_all [awayB]; done) | grind [awayB]), (Chg.refl 0 0 _)⟩

theorem c_away {w : World} {n o : Bool} {c m : Int} (hm : 0 ≤ m ∧ m ≤ 6) :
  Ret Try.prog (rmF m) [.bool n, .int .i64 c, .bool o] w fun v w' => v = .bool (awayB m n c o) ∧ Chg 0 0 w w' := by
 rcases rm_cases hm with h | h | h | h | h | h | h
 · subst h; exact c_rm1
 · subst h; exact c_rm2
 · subst h; exact c_rm3
 · subst h; exact c_rm4
 · subst h; exact c_rm5
 · subst h; exact c_rm6
 · subst h; exact c_rm7

theorem c_roundModes {w : World} :
  Ret Try.prog 74 [] w fun v w' => v = .agg #[.string ⟨#[100, 111, 119, 110]⟩, .func (.func 90) #[] #[], .string ⟨#[117, 112]⟩, .func (.func 91) #[] #[], .string ⟨#[102, 108, 111, 111, 114]⟩, .func (.func 92) #[] #[], .string ⟨#[99, 101, 105, 108]⟩, .func (.func 93) #[] #[], .string ⟨#[104, 97, 108, 102, 100, 111, 119, 110]⟩, .func (.func 94) #[] #[], .string ⟨#[104, 97, 108, 102, 117, 112]⟩, .func (.func 95) #[] #[], .string ⟨#[104, 97, 108, 102, 101, 118, 101, 110]⟩, .func (.func 96) #[] #[]] ∧ Chg 0 0 w w' := by
 refine sx_enter Try.func74 rfl Try.ntmps74 (nbl rfl) ?_
 refine sx_seq fun K1 k1 => sx_region ?_
 refine sx_alloc [.string (⟨#[]⟩), .nilFunc, .string (⟨#[]⟩), .nilFunc, .string (⟨#[]⟩), .nilFunc, .string (⟨#[]⟩), .nilFunc, .string (⟨#[]⟩), .nilFunc, .string (⟨#[]⟩), .nilFunc, .string (⟨#[]⟩), .nilFunc] rfl Try.zeroValue100 rfl (fun b2 w3 eb2 sb2 fb2 cb2 => ?_)
 have zw3 := cb2.size
 refine wl_nil (q_n (k1 _ _ ?_))
 refine sx_seq fun K4 k4 => sx_region ?_
 refine sp rfl (px_build rfl (xbld99x0x1 rfl rfl _)) ?_
 refine sp rfl (px_build rfl (xbld99x0x1 rfl rfl _)) ?_
 refine sp rfl (px_build rfl (xbld99x0x1 rfl rfl _)) ?_
 refine sp rfl (px_build rfl (xbld99x0x1 rfl rfl _)) ?_
 refine sp rfl (px_build rfl (xbld99x0x1 rfl rfl _)) ?_
 refine sp rfl (px_build rfl (xbld99x0x1 rfl rfl _)) ?_
 refine sp rfl (px_build rfl (xbld99x0x1 rfl rfl _)) ?_
 refine sp rfl (px_build rfl (xbld100x0x1x2x3x4x5x6 _)) ?_
 refine sx_store (vs := [.string (⟨#[100, 111, 119, 110]⟩), .func (.func 90) #[] #[], .string (⟨#[117, 112]⟩), .func (.func 91) #[] #[], .string (⟨#[102, 108, 111, 111, 114]⟩), .func (.func 92) #[] #[], .string (⟨#[99, 101, 105, 108]⟩), .func (.func 93) #[] #[], .string (⟨#[104, 97, 108, 102, 100, 111, 119, 110]⟩), .func (.func 94) #[] #[], .string (⟨#[104, 97, 108, 102, 117, 112]⟩), .func (.func 95) #[] #[], .string (⟨#[104, 97, 108, 102, 101, 118, 101, 110]⟩), .func (.func 96) #[] #[]]) rfl rfl fb2 rfl Try.sizeOf100 (nbl rfl) (one_cons rfl (one_cons rfl (one_cons rfl (one_cons rfl (one_cons rfl (one_cons rfl (one_cons rfl (one_cons rfl (one_cons rfl (one_cons rfl (one_cons rfl (o3 rfl rfl rfl)))))))))))) (fun w5 sw5 fw5 cw5 => ?_)
 have zw5 := cw5.size
 have gw5 : Blk w5 b2 [.string (⟨#[100, 111, 119, 110]⟩), .func (.func 90) #[] #[], .string (⟨#[117, 112]⟩), .func (.func 91) #[] #[], .string (⟨#[102, 108, 111, 111, 114]⟩), .func (.func 92) #[] #[], .string (⟨#[99, 101, 105, 108]⟩), .func (.func 93) #[] #[], .string (⟨#[104, 97, 108, 102, 100, 111, 119, 110]⟩), .func (.func 94) #[] #[], .string (⟨#[104, 97, 108, 102, 117, 112]⟩), .func (.func 95) #[] #[], .string (⟨#[104, 97, 108, 102, 101, 118, 101, 110]⟩), .func (.func 96) #[] #[]] 100 := fw5
 refine wl_nil (q_n (k4 _ _ ?_))
 refine sx_retc ?_
 refine sx_ret1 Try.results74 ⟨_, rfl, gw5.loadA (vs := [.string (⟨#[100, 111, 119, 110]⟩), .func (.func 90) #[] #[], .string (⟨#[117, 112]⟩), .func (.func 91) #[] #[], .string (⟨#[102, 108, 111, 111, 114]⟩), .func (.func 92) #[] #[], .string (⟨#[99, 101, 105, 108]⟩), .func (.func 93) #[] #[], .string (⟨#[104, 97, 108, 102, 100, 111, 119, 110]⟩), .func (.func 94) #[] #[], .string (⟨#[104, 97, 108, 102, 117, 112]⟩), .func (.func 95) #[] #[], .string (⟨#[104, 97, 108, 102, 101, 118, 101, 110]⟩), .func (.func 96) #[] #[]]) (look_lit rfl) Try.isAgg100 Try.sizeOf100⟩ ?_
 have q6 := Chg.step (l := 0) (h := 0) (Chg.zero (l := 0) (h := 0) cb2) cw5 (by omega)
 exact ⟨rfl, q6⟩

theorem c_iNatEven {w : World} {va : Value} {lva uva : Nat} {m : Nat} (hva : Sl w lva uva va (dg m)) (hbm : (dg m).length ≤ 50) :
  Ret Try.prog 75 [va] w fun v w' => v = .bool (decide (¬ m % 2 = 1)) ∧ Chg 0 0 w w' := by
 have hva0 := hva.fit
 refine sx_enter Try.func75 rfl Try.ntmps75 (nbl rfl) ?_
 refine sx_seq fun K1 k1 => sx_region ?_
 refine av rfl rfl (wl_nil (q_n (k1 _ _ ?_)))
 refine sx_seq fun K2 k2 => sx_region ?_
 refine mv rfl rfl (sx_call rfl rfl Try.call65 (c_iNatOk hva0 (by omega)) (fun v3 w3 p3 => ?_))
 obtain ⟨rfl, c3⟩ := p3
 have zw3 := c3.size
 refine mv rfl rfl ?_
 have h151 : NOk (dg m) := NOk_dg (by omega)
 refine sx_tmpPT (t := 5) rfl h151 ?_
 refine sx_guardT rfl rfl rfl ?_
 refine mv rfl rfl ?_
 refine sx_guardT rfl rfl rfl ?_
 have f4 := hva0.ext c3
 refine sp rfl (px_len rfl Try.underlying23 f4) ?_
 refine sx_guardT rfl rfl rfl ?_
 refine sp rfl (px_eq rfl rfl) ?_
 refine sx_guardT rfl rfl rfl ?_
 refine mv rfl rfl ?_
 refine sx_tmpP (t := 9) rfl (fun h151x1 => ?_) (fun h151x1 => ?_)
 ·
  refine sx_guardF rfl rfl rfl rfl rfl rfl ?_
  refine sx_guardF rfl rfl rfl rfl rfl rfl ?_
  refine sx_guardF rfl rfl rfl rfl rfl rfl ?_
  refine sx_guardF rfl rfl rfl rfl rfl rfl ?_
  refine sx_guardF rfl rfl rfl rfl rfl rfl ?_
  refine sx_guardT rfl rfl rfl ?_
  refine sp rfl (px_pick rfl rfl) ?_
  refine sp rfl (px_pick rfl rfl) ?_
  refine av rfl rfl (wl_nil (q_n (k2 _ _ ?_)))
  refine sx_sub (Sub.c 2 rfl .nil) ?_
  refine sx_retc ?_
  refine sx_ret1 Try.results75 rfl ?_
  exact ⟨(by have hk := odd_dg (q := m); first | exact bTrue (hk.1 (.inl (by omega))) | exact bIff ⟨fun h => hk.1 (.inr h), fun h => (hk.2 h).resolve_left (by omega)⟩), c3⟩
 refine sx_guardT rfl rfl rfl ?_
 refine mv rfl rfl ?_
 refine sx_guardT rfl rfl rfl ?_
 refine sp rfl (px_index1 (j := 0) rfl rfl (by omega) Try.underlying23 Try.sizeOf3 f4 (by omega)) ?_
 refine sx_guardT rfl rfl rfl ?_
 refine sp rfl (px_load rfl (f4.load1 (at_int (by omega)) Try.isAgg3)) ?_
 refine sx_guardT rfl rfl rfl ?_
 refine sp rfl (px_rem rfl rfl (by have := (Lm_dg m).getD 0; omega) (by omega)) ?_
 refine sx_guardT rfl rfl rfl ?_
 refine sp rfl (px_eq rfl rfl) ?_
 refine sx_guardT rfl rfl rfl ?_
 refine sp rfl (px_pick rfl rfl) ?_
 refine sp rfl (px_pick rfl rfl) ?_
 refine av rfl rfl (wl_nil (q_n (k2 _ _ ?_)))
 refine sx_sub (Sub.c 2 rfl .nil) ?_
 refine sx_retc ?_
 refine sx_ret1 Try.results75 rfl ?_
 exact ⟨(by have hk := odd_dg (q := m); first | exact bTrue (hk.1 (.inl (by omega))) | exact bIff ⟨fun h => hk.1 (.inr h), fun h => (hk.2 h).resolve_left (by omega)⟩), c3⟩

theorem c_roundQuotient {w : World} {va : Value} {lva uva : Nat} {x : Int} {vb : Value} {lvb uvb : Nat} {d : Nat} {m : Int} (hva : Sl w lva uva va (dg x.natAbs)) (hvb : Sl w lvb uvb vb (dg d)) (hbx : (dg x.natAbs).length ≤ 49) (hbd : (dg d).length ≤ 390) (hd0 : 0 < d) (hm : 0 ≤ m ∧ m ≤ 6) :
  Ret Try.prog 48 [.agg #[.bool (ng x), va], vb, .int .i64 m] w fun v w' => ∃ s, v = .agg #[.bool (ng (rqI x d m)), s] ∧ OwnI w' w.heap.size w'.heap.size s intT (dg (rqI x d m).natAbs) ∧ Chg 0 0 w w' := by
 have hva0 := hva.fit
 have hvb0 := hvb.fit
 have lq := len_div x.natAbs d
 have lr := len_mod (m := x.natAbs) hd0
 have lrr := len_add (x.natAbs % d) (x.natAbs % d)
 refine sx_enter Try.func48 rfl Try.ntmps48 (nbl rfl) ?_
 refine sx_seq fun K1 k1 => sx_region ?_
 refine sx_box [.bool (ng x), va] rfl rfl rfl (fun b2 w3 eb2 sb2 fb2 cb2 => ?_)
 have zw3 := cb2.size
 refine sx_alloc [.bool false, (.slice none 0 0)] rfl Try.zeroValue25 rfl (fun b4 w5 eb4 sb4 fb4 cb4 => ?_)
 have zw5 := cb4.size
 refine wl_nil (q_n (k1 _ _ ?_))
 refine sx_seq fun K6 k6 => sx_region ?_
 refine sp rfl (px_field rfl xfld25x1) ?_
 have f7 := fb2.ext cb4
 refine sp rfl (px_load rfl (f7.load1 rfl Try.isAgg23)) ?_
 refine mv rfl rfl ?_
 have f8 := hva0.ext cb2
 have f9 := f8.ext cb4
 have f10 := hvb0.ext cb2
 have f11 := f10.ext cb4
 refine sx_call rfl rfl Try.call29 (c_natDiv f9 f11 (by omega) (by omega) (hd0)) (fun v12 w12 p12 => ?_)
 obtain ⟨s12, t12, rfl, os_12, ot_12, c12⟩ := p12
 have zw12 := c12.size
 refine mv rfl rfl (sp rfl (px_ex2 rfl rfl) ?_)
 refine sp rfl (px_ex2 rfl rfl) ?_
 refine av rfl rfl (av rfl rfl (wl_nil (q_n (k6 _ _ ?_))))
 refine sx_seq fun K13 k13 => ?_
 refine sx_seq fun K14 k14 => ?_
 by_cases ph57 : 0 < (dg (x.natAbs % d)).length
 ·
  have f15 := f7.ext c12
  have f16 := fb4.ext c12
  have f17 := f9.ext c12
  refine dx_region (fun w' => Chg 0 0 w12 w') (by kernel_rfl) (Chg.zero (Chg.drew _)) ?_
  have d19 := Chg.drew w12
  have s19 : Chg 0 0 w12 (World.drew w12) := Chg.zero (Chg.drew _)
  have y19 : (World.drew w12).heap.size = w12.heap.size := rfl
  generalize World.drew w12 = w19 at *
  have zw19 := d19.size
  refine dt 0 rfl rfl rfl rfl s19 (fun _ hS => px_move rfl) ?_
  refine dt 1 rfl rfl rfl rfl s19 (fun _ hS => px_len rfl Try.underlying23 ((ot_12.sv).chg hS (by omega))) ?_
  refine dt 2 rfl rfl rfl rfl s19 (fun _ hS => px_gt rfl rfl) ?_
  refine dt 3 rfl rfl rfl rfl s19 (fun _ hS => px_move rfl) ?_
  have h57 : (0 : Int) < ↑((dg (x.natAbs % d)).length) := by first | omega | exact ph57
  refine dx_tmpPT (t := 19) rfl h57 ?_
  refine dx_takeG 5 rfl rfl rfl rfl rfl rfl (by kernel_rfl) (by kernel_rfl) (by kernel_rfl) s19 (fun _ hS => px_move rfl) ?_
  refine dx_takeG 8 rfl rfl rfl rfl rfl rfl (by kernel_rfl) (by kernel_rfl) (by kernel_rfl) s19 (fun _ hS => px_field rfl xfld25x0) ?_
  refine dx_takeG 9 rfl rfl rfl rfl rfl rfl (by kernel_rfl) (by kernel_rfl) (by kernel_rfl) s19 (fun _ hS => px_load rfl ((f15.chg hS (by omega)).load1 rfl Try.isAgg4)) ?_
  refine dx_takeG 10 rfl rfl rfl rfl rfl rfl (by kernel_rfl) (by kernel_rfl) (by kernel_rfl) s19 (fun _ hS => px_move rfl) ?_
  refine dx_takeG 11 rfl rfl rfl rfl rfl rfl (by kernel_rfl) (by kernel_rfl) (by kernel_rfl) s19 (fun _ hS => px_move rfl) ?_
  refine dx_takeG 13 rfl rfl rfl rfl rfl rfl (by kernel_rfl) (by kernel_rfl) (by kernel_rfl) s19 (fun _ hS => px_move rfl) ?_
  refine dx_takeG 15 rfl rfl rfl rfl rfl rfl (by kernel_rfl) (by kernel_rfl) (by kernel_rfl) s19 (fun _ hS => px_move rfl) ?_
  refine dx_eff 4 rfl (by kernel_rfl) ?_
  refine sx_guardT rfl rfl rfl ?_
  refine sx_call rfl rfl Try.call74 (c_roundModes) (fun v20 w20 p20 => ?_)
  obtain ⟨rfl, c20⟩ := p20
  have zw20 := c20.size
  have s21 : Chg 0 0 w12 w20 := (d19.t c20)
  refine wl_nil ?_
  refine dx_next s21 ?_
  refine dx_takeG 6 rfl rfl rfl rfl rfl rfl (by kernel_rfl) (by kernel_rfl) (by kernel_rfl) s21 (fun _ hS => px_indexRm rfl rfl (by omega)) ?_
  refine dx_takeG 7 rfl rfl rfl rfl rfl rfl (by kernel_rfl) (by kernel_rfl) (by kernel_rfl) s21 (fun _ hS => px_fieldv rfl (xfv99x1 _)) ?_
  refine dx_eff 12 rfl (by kernel_rfl) ?_
  refine sx_guardT rfl rfl rfl ?_
  have f23 := (ot_12.ext d19).ext c20
  refine sx_call rfl rfl Try.call38 (c_natAdd f23.sv f23.sv (by omega) (by omega)) (fun v24 w24 p24 => ?_)
  obtain ⟨s24, rfl, os_24, c24⟩ := p24
  have zw24 := c24.size
  have s25 : Chg 0 0 w12 w24 := ((d19.t c20).t c24)
  refine wl_nil ?_
  refine dx_next s25 ?_
  refine dx_eff 14 rfl (by kernel_rfl) ?_
  refine sx_guardT rfl rfl rfl ?_
  have f28 := (((f11.ext c12).ext d19).ext c20).ext c24
  refine sx_call rfl rfl Try.call35 (c_natCmp os_24.sv f28 (by omega)) (fun v29 w29 p29 => ?_)
  obtain ⟨rfl, c29⟩ := p29
  have zw29 := c29.size
  have s30 : Chg 0 0 w12 w29 := (((d19.t c20).t c24).t c29)
  refine wl_nil ?_
  refine dx_next s30 ?_
  refine dx_eff 16 rfl (by kernel_rfl) ?_
  refine sx_guardT rfl rfl rfl ?_
  have f34 := (((os_12.ext d19).ext c20).ext c24).ext c29
  refine sx_call rfl rfl Try.call75 (c_iNatEven f34.sv (by omega)) (fun v35 w35 p35 => ?_)
  obtain ⟨rfl, c35⟩ := p35
  have zw35 := c35.size
  have s36 : Chg 0 0 w12 w35 := ((((d19.t c20).t c24).t c29).t c35)
  refine wl_nil ?_
  refine dx_next s36 ?_
  refine dx_takeG 17 rfl rfl rfl rfl rfl rfl (by kernel_rfl) (by kernel_rfl) (by kernel_rfl) s36 (fun _ hS => px_notP rfl) ?_
  refine dx_eff 18 rfl (by kernel_rfl) ?_
  refine sx_guardT rfl rfl rfl ?_
  refine sx_callV rfl rfl rfl (rm_call (m := m) (by omega)) (c_away (m := m) (by omega)) (fun v37 w37 p37 => ?_)
  obtain ⟨rfl, c37⟩ := p37
  have zw37 := c37.size
  have s38 : Chg 0 0 w12 w37 := (((((d19.t c20).t c24).t c29).t c35).t c37)
  refine wl_nil ?_
  refine dx_next s38 ?_
  refine dt 19 rfl rfl rfl rfl s38 (fun _ hS => px_pick rfl rfl) ?_
  refine dx_done (by kernel_rfl) ?_
  refine q_n (k14 _ _ ?_)
  refine sx_sub (Sub.c 3 rfl (.c 6 rfl (.c 7 rfl (.c 35 rfl .nil)))) ?_
  refine sx_condB rfl (fun h57x1 => ?_) (fun h57x1 => ?_)
  ·
   try rw [cmpL_dg] at h57x1
   try simp only [Decidable.not_not] at h57x1
   have e := rq_up (x := x) (d := d) (m := m) (len_pos.1 (by omega)) h57x1
   refine sx_region ?_
   refine mv rfl rfl ?_
   refine sx_lit1 rfl xelt23 rfl rfl (fun s39 ws39 ss39 fs39 cs39 => ?_)
   have ns39 := Own.norm (f := (Value.int .i64)) (zs := [1]) fs39
   have zws39 := cs39.size
   have f42 := ((f34.ext c35).ext c37).ext cs39
   refine sx_call rfl rfl Try.call38 (c_natAdd1 f42.sv ns39.sv (by omega) (rfl)) (fun v43 w43 p43 => ?_)
   obtain ⟨s43, rfl, os_43, c43⟩ := p43
   have zw43 := c43.size
   refine av rfl rfl (wl_nil (q_n (k13 _ _ ?_)))
   refine sx_seq fun K44 k44 => sx_region ?_
   refine sp rfl (px_field rfl xfld25x0) ?_
   have f51 := ((((((f15.ext d19).ext c20).ext c24).ext c29).ext c35).ext c37).ext cs39
   have f52 := f51.ext c43
   refine sp rfl (px_load rfl (f52.load1 rfl Try.isAgg4)) ?_
   refine mv rfl rfl (sx_call rfl rfl Try.call39 (c_signed os_43.sv (by have h9 := rq_len (x := x) (d := d) (m := m) hbx; rw [e] at h9; omega)) (fun v53 w53 p53 => ?_))
   obtain ⟨rfl, c53⟩ := p53
   have zw53 := c53.size
   have f61 := ((((((f16.ext d19).ext c20).ext c24).ext c29).ext c35).ext c37).ext cs39
   have f63 := (f61.ext c43).ext c53
   have f64 := os_43.ext c53
   refine sx_store (vs := [.bool (nz (ng x) (dg ((x.natAbs / d) + 1))), v43]) rfl rfl f63 rfl Try.sizeOf25 (nbl rfl) (one_cons rfl (one_cons f64.one one_nil)) (fun w54 sw54 fw54 cw54 => ?_)
   have zw54 := cw54.size
   have gw54 : Blk w54 b4 [.bool (nz (ng x) (dg ((x.natAbs / d) + 1))), v43] 25 := fw54
   refine wl_nil (q_n (k44 _ _ ?_))
   refine sx_retc ?_
   refine sx_ret1 Try.results48 ⟨_, rfl, gw54.loadA (vs := [.bool (nz (ng x) (dg ((x.natAbs / d) + 1))), v43]) (look_lit rfl) Try.isAgg25 Try.sizeOf25⟩ ?_
   have hh := rqI_sg x d m
   rw [e] at hh
   rw [← hh.1, ← hh.2]
   have q65 := Chg.step (l := 0) (h := 0) (Chg.zero (l := 0) (h := 0) (((((((((((cb2.t cb4).t c12).t d19).t c20).t c24).t c29).t c35).t c37).t cs39).t c43).t c53)) cw54 (by omega)
   have f66 := f64.chg cw54 (by omega)
   exact ⟨_, rfl, (Own.mono f66 (by omega) (by omega)), q65⟩
  try rw [cmpL_dg] at h57x1
  try simp only [Decidable.not_not] at h57x1
  have e := rq_dn (x := x) (d := d) (m := m) (fun hh => by have h9 := hh.2; rw [h57x1] at h9; cases h9)
  refine sx_skip ?_
  refine q_n (k13 _ _ ?_)
  refine sx_seq fun K67 k67 => sx_region ?_
  refine sp rfl (px_field rfl xfld25x0) ?_
  have f73 := (((((f15.ext d19).ext c20).ext c24).ext c29).ext c35).ext c37
  refine sp rfl (px_load rfl (f73.load1 rfl Try.isAgg4)) ?_
  refine mv rfl rfl ?_
  have f75 := (f34.ext c35).ext c37
  refine sx_call rfl rfl Try.call39 (c_signed f75.sv (by have h9 := rq_len (x := x) (d := d) (m := m) hbx; rw [e] at h9; omega)) (fun v76 w76 p76 => ?_)
  obtain ⟨rfl, c76⟩ := p76
  have zw76 := c76.size
  have f84 := ((((((f16.ext d19).ext c20).ext c24).ext c29).ext c35).ext c37).ext c76
  have f85 := f75.ext c76
  refine sx_store (vs := [.bool (nz (ng x) (dg (x.natAbs / d))), s12]) rfl rfl f84 rfl Try.sizeOf25 (nbl rfl) (one_cons rfl (one_cons f85.one one_nil)) (fun w77 sw77 fw77 cw77 => ?_)
  have zw77 := cw77.size
  have gw77 : Blk w77 b4 [.bool (nz (ng x) (dg (x.natAbs / d))), s12] 25 := fw77
  refine wl_nil (q_n (k67 _ _ ?_))
  refine sx_retc ?_
  refine sx_ret1 Try.results48 ⟨_, rfl, gw77.loadA (vs := [.bool (nz (ng x) (dg (x.natAbs / d))), s12]) (look_lit rfl) Try.isAgg25 Try.sizeOf25⟩ ?_
  have hh := rqI_sg x d m
  rw [e] at hh
  rw [← hh.1, ← hh.2]
  have q86 := Chg.step (l := 0) (h := 0) (Chg.zero (l := 0) (h := 0) (((((((((cb2.t cb4).t c12).t d19).t c20).t c24).t c29).t c35).t c37).t c76)) cw77 (by omega)
  have f87 := f85.chg cw77 (by omega)
  exact ⟨_, rfl, (Own.mono f87 (by omega) (by omega)), q86⟩
 have e := rq_dn (x := x) (d := d) (m := m) (fun hh => by have h9 := len_pos.2 hh.1; omega)
 have f90 := f9.ext c12
 have f91 := f11.ext c12
 refine dx_region (fun w' => Chg 0 0 w12 w') (by kernel_rfl) (Chg.zero (Chg.drew _)) ?_
 have d92 := Chg.drew w12
 have s92 : Chg 0 0 w12 (World.drew w12) := Chg.zero (Chg.drew _)
 have y92 : (World.drew w12).heap.size = w12.heap.size := rfl
 generalize World.drew w12 = w92 at *
 have zw92 := d92.size
 refine dt 0 rfl rfl rfl rfl s92 (fun _ hS => px_move rfl) ?_
 refine dt 1 rfl rfl rfl rfl s92 (fun _ hS => px_len rfl Try.underlying23 ((ot_12.sv).chg hS (by omega))) ?_
 refine dt 2 rfl rfl rfl rfl s92 (fun _ hS => px_gt rfl rfl) ?_
 refine dt 3 rfl rfl rfl rfl s92 (fun _ hS => px_move rfl) ?_
 have h57 : ¬ ((0 : Int) < ↑((dg (x.natAbs % d)).length)) := by first | omega | exact ph57
 refine dx_tmpPF (t := 19) rfl h57 ?_
 refine dx_skip 4 rfl rfl rfl rfl rfl rfl rfl (by kernel_rfl) (by kernel_rfl) (by kernel_rfl) s92 ?_
 refine dx_skip 5 rfl rfl rfl rfl rfl rfl rfl (by kernel_rfl) (by kernel_rfl) (by kernel_rfl) s92 ?_
 refine dx_skip 6 rfl rfl rfl rfl rfl rfl rfl (by kernel_rfl) (by kernel_rfl) (by kernel_rfl) s92 ?_
 refine dx_skip 7 rfl rfl rfl rfl rfl rfl rfl (by kernel_rfl) (by kernel_rfl) (by kernel_rfl) s92 ?_
 refine dx_skip 8 rfl rfl rfl rfl rfl rfl rfl (by kernel_rfl) (by kernel_rfl) (by kernel_rfl) s92 ?_
 refine dx_skip 9 rfl rfl rfl rfl rfl rfl rfl (by kernel_rfl) (by kernel_rfl) (by kernel_rfl) s92 ?_
 refine dx_skip 10 rfl rfl rfl rfl rfl rfl rfl (by kernel_rfl) (by kernel_rfl) (by kernel_rfl) s92 ?_
 refine dx_skip 11 rfl rfl rfl rfl rfl rfl rfl (by kernel_rfl) (by kernel_rfl) (by kernel_rfl) s92 ?_
 refine dx_skip 12 rfl rfl rfl rfl rfl rfl rfl (by kernel_rfl) (by kernel_rfl) (by kernel_rfl) s92 ?_
 refine dx_skip 13 rfl rfl rfl rfl rfl rfl rfl (by kernel_rfl) (by kernel_rfl) (by kernel_rfl) s92 ?_
 refine dx_skip 14 rfl rfl rfl rfl rfl rfl rfl (by kernel_rfl) (by kernel_rfl) (by kernel_rfl) s92 ?_
 refine dx_skip 15 rfl rfl rfl rfl rfl rfl rfl (by kernel_rfl) (by kernel_rfl) (by kernel_rfl) s92 ?_
 refine dx_skip 16 rfl rfl rfl rfl rfl rfl rfl (by kernel_rfl) (by kernel_rfl) (by kernel_rfl) s92 ?_
 refine dx_skip 17 rfl rfl rfl rfl rfl rfl rfl (by kernel_rfl) (by kernel_rfl) (by kernel_rfl) s92 ?_
 refine dx_skip 18 rfl rfl rfl rfl rfl rfl rfl (by kernel_rfl) (by kernel_rfl) (by kernel_rfl) s92 ?_
 refine dt 19 rfl rfl rfl rfl s92 (fun _ hS => px_pick rfl rfl) ?_
 refine dx_done (by kernel_rfl) ?_
 refine q_n (k14 _ _ ?_)
 refine sx_sub (Sub.c 3 rfl (.c 6 rfl (.c 7 rfl (.c 35 rfl .nil)))) ?_
 refine sx_condF rfl ?_
 refine sx_skip ?_
 refine q_n (k13 _ _ ?_)
 refine sx_seq fun K93 k93 => sx_region ?_
 refine sp rfl (px_field rfl xfld25x0) ?_
 have f94 := (f7.ext c12).ext d92
 refine sp rfl (px_load rfl (f94.load1 rfl Try.isAgg4)) ?_
 refine mv rfl rfl ?_
 have f95 := os_12.ext d92
 refine sx_call rfl rfl Try.call39 (c_signed f95.sv (by have h9 := rq_len (x := x) (d := d) (m := m) hbx; rw [e] at h9; omega)) (fun v96 w96 p96 => ?_)
 obtain ⟨rfl, c96⟩ := p96
 have zw96 := c96.size
 have f99 := ((fb4.ext c12).ext d92).ext c96
 have f100 := f95.ext c96
 refine sx_store (vs := [.bool (nz (ng x) (dg (x.natAbs / d))), s12]) rfl rfl f99 rfl Try.sizeOf25 (nbl rfl) (one_cons rfl (one_cons f100.one one_nil)) (fun w97 sw97 fw97 cw97 => ?_)
 have zw97 := cw97.size
 have gw97 : Blk w97 b4 [.bool (nz (ng x) (dg (x.natAbs / d))), s12] 25 := fw97
 refine wl_nil (q_n (k93 _ _ ?_))
 refine sx_retc ?_
 refine sx_ret1 Try.results48 ⟨_, rfl, gw97.loadA (vs := [.bool (nz (ng x) (dg (x.natAbs / d))), s12]) (look_lit rfl) Try.isAgg25 Try.sizeOf25⟩ ?_
 have hh := rqI_sg x d m
 rw [e] at hh
 rw [← hh.1, ← hh.2]
 have q101 := Chg.step (l := 0) (h := 0) (Chg.zero (l := 0) (h := 0) ((((cb2.t cb4).t c12).t d92).t c96)) cw97 (by omega)
 have f102 := f100.chg cw97 (by omega)
 exact ⟨_, rfl, (Own.mono f102 (by omega) (by omega)), q101⟩

theorem c_iRatRound {w : World} {n1 : Bool} {v1 : Value} {lv1 uv1 : Nat} {z1 : List Int} {d1 : Value} {ld1 ud1 : Nat} {y1 : List Int} {m : Int} (hv1 : Sl w lv1 uv1 v1 (z1)) (hd1 : Sl w ld1 ud1 d1 (y1)) (h63 : z1.length ≤ 4611686018427387904 ∧ y1.length ≤ 4611686018427387904) :
  Ret Try.prog 12 [.agg #[.bool n1, v1, d1], .int .i64 m] w fun v w' => ∃ s, v = .tuple #[.agg #[.bool ((rRound n1 z1 y1 m).1), s], .bool ((rRound n1 z1 y1 m).2.2)] ∧ OwnI w' w.heap.size w'.heap.size s intT ((rRound n1 z1 y1 m).2.1) ∧ ((rRound n1 z1 y1 m).2.1.length ≤ 19) ∧ Chg 0 0 w w' := by
 have hv10 := hv1.fit
 have hd10 := hd1.fit
 refine sx_enter Try.func12 rfl Try.ntmps12 (nbl rfl) ?_
 refine sx_seq fun K1 k1 => sx_region ?_
 refine sx_box [.bool n1, v1, d1] rfl rfl rfl (fun b2 w3 eb2 sb2 fb2 cb2 => ?_)
 have zw3 := cb2.size
 refine sx_alloc [.bool false, (.slice none 0 0)] rfl Try.zeroValue25 rfl (fun b4 w5 eb4 sb4 fb4 cb4 => ?_)
 have zw5 := cb4.size
 refine av rfl rfl (wl_nil (q_n (k1 _ _ ?_)))
 refine sx_seq fun K6 k6 => ?_
 refine sx_seq fun K7 k7 => sx_region ?_
 have f8 := fb2.ext cb4
 refine sp rfl (px_load rfl (f8.loadA (vs := [.bool n1, v1, d1]) (look_lit rfl) Try.isAgg35 Try.sizeOf35)) ?_
 have f9 := hv10.ext cb2
 have f10 := f9.ext cb4
 have f11 := hd10.ext cb2
 have f12 := f11.ext cb4
 refine sx_call rfl rfl Try.call46 (c_iRatOk f10 f12 (by omega)) (fun v13 w13 p13 => ?_)
 obtain ⟨rfl, c13⟩ := p13
 have zw13 := c13.size
 refine sp rfl (px_notP rfl) ?_
 refine mv rfl rfl ?_
 refine sx_tmpP (t := 9) rfl (fun h74 => ?_) (fun h74 => ?_)
 ·
  refine sx_guardF rfl rfl rfl rfl rfl rfl ?_
  refine sx_guardF rfl rfl rfl rfl rfl rfl ?_
  refine sx_guardF rfl rfl rfl rfl rfl rfl ?_
  refine sp rfl (px_pick rfl rfl) ?_
  refine wl_nil (q_n (k7 _ _ ?_))
  refine sx_condT rfl ?_
  refine sx_seq fun K14 k14 => sx_region ?_
  refine sp rfl (px_build rfl (xbld25x  _)) ?_
  have f16 := fb4.ext c13
  refine sx_store (vs := [.bool false, (.slice none 0 0)]) rfl rfl f16 rfl Try.sizeOf25 (nbl rfl) (o2 rfl rfl) (fun w15 sw15 fw15 cw15 => ?_)
  have zw15 := cw15.size
  have gw15 : Blk w15 b4 [.bool false, (.slice none 0 0)] 25 := fw15
  refine av rfl rfl (wl_nil (q_n (k14 _ _ ?_)))
  refine sx_retc ?_
  refine q_r (sx_ret2 Try.results12 ⟨_, rfl, gw15.loadA (vs := [.bool false, (.slice none 0 0)]) (look_lit rfl) Try.isAgg25 Try.sizeOf25⟩ rfl ?_)
  rw [rRound_no (by grind)]
  have q17 := Chg.step (l := 0) (h := 0) (Chg.zero (l := 0) (h := 0) ((cb2.t cb4).t c13)) cw15 (by omega)
  exact ⟨_, rfl, Own.nil _ _ _ _ _, by simp [noS], q17⟩
 refine sx_guardT rfl rfl rfl ?_
 refine mv rfl rfl ?_
 refine sx_guardT rfl rfl rfl ?_
 refine sx_call rfl rfl Try.call47 (c_isMode) (fun v18 w18 p18 => ?_)
 obtain ⟨rfl, c18⟩ := p18
 have zw18 := c18.size
 refine sx_guardT rfl rfl rfl ?_
 refine sp rfl (px_notP rfl) ?_
 refine sp rfl (px_pick rfl rfl) ?_
 refine wl_nil (q_n (k7 _ _ ?_))
 refine sx_condP rfl (fun h74x1 => ?_) (fun h74x1 => ?_)
 ·
  refine sx_seq fun K19 k19 => sx_region ?_
  refine sp rfl (px_build rfl (xbld25x  _)) ?_
  have f22 := (fb4.ext c13).ext c18
  refine sx_store (vs := [.bool false, (.slice none 0 0)]) rfl rfl f22 rfl Try.sizeOf25 (nbl rfl) (o2 rfl rfl) (fun w20 sw20 fw20 cw20 => ?_)
  have zw20 := cw20.size
  have gw20 : Blk w20 b4 [.bool false, (.slice none 0 0)] 25 := fw20
  refine av rfl rfl (wl_nil (q_n (k19 _ _ ?_)))
  refine sx_retc ?_
  refine q_r (sx_ret2 Try.results12 ⟨_, rfl, gw20.loadA (vs := [.bool false, (.slice none 0 0)]) (look_lit rfl) Try.isAgg25 Try.sizeOf25⟩ rfl ?_)
  rw [rRound_no (by grind)]
  have q23 := Chg.step (l := 0) (h := 0) (Chg.zero (l := 0) (h := 0) (((cb2.t cb4).t c13).t c18)) cw20 (by omega)
  exact ⟨_, rfl, Own.nil _ _ _ _ _, by simp [noS], q23⟩
 have hR := Decidable.not_not.1 h74
 have hM := Decidable.not_not.1 h74x1
 obtain ⟨x1, e1, rfl, rfl, rfl, he0, hx1, he1, hg1⟩ := hR.rat
 refine sx_skip ?_
 refine q_n (k6 _ _ ?_)
 refine sx_seq fun K24 k24 => sx_region ?_
 refine sp rfl (px_field rfl xfld35x0) ?_
 have f26 := (f8.ext c13).ext c18
 refine sp rfl (px_load rfl (f26.loadA (vs := [.bool (ng x1), v1]) (look_lit rfl) Try.isAgg25 Try.sizeOf25)) ?_
 refine sp rfl (px_field rfl xfld35x1) ?_
 refine sp rfl (px_load rfl (f26.load1 rfl Try.isAgg23)) ?_
 refine mv rfl rfl ?_
 have f28 := (f10.ext c13).ext c18
 have f30 := (f12.ext c13).ext c18
 refine sx_call rfl rfl Try.call48 (c_roundQuotient f28 f30 (by omega) (by omega) (by omega) (by omega)) (fun v31 w31 p31 => ?_)
 obtain ⟨s31, rfl, os_31, c31⟩ := p31
 have zw31 := c31.size
 have f35 := ((fb4.ext c13).ext c18).ext c31
 refine sx_store (vs := [.bool (ng (rqI x1 e1 m)), s31]) rfl rfl f35 rfl Try.sizeOf25 (nbl rfl) (one_cons rfl (one_cons os_31.one one_nil)) (fun w32 sw32 fw32 cw32 => ?_)
 have zw32 := cw32.size
 have gw32 : Blk w32 b4 [.bool (ng (rqI x1 e1 m)), s31] 25 := fw32
 refine av rfl rfl (wl_nil (q_n (k24 _ _ ?_)))
 refine sx_sub (Sub.c 4 rfl (.c 5 rfl .nil)) ?_
 refine sx_retc ?_
 refine sx_ret2 Try.results12 ⟨_, rfl, gw32.loadA (vs := [.bool (ng (rqI x1 e1 m)), s31]) (look_lit rfl) Try.isAgg25 Try.sizeOf25⟩ rfl ?_
 have hrl := rRound_len (n := ng x1) (z := dg x1.natAbs) (y := dg e1) (m := m)
 rw [rRound_ok ⟨hR, hM⟩] at hrl ⊢
 have q36 := Chg.step (l := 0) (h := 0) (Chg.zero (l := 0) (h := 0) ((((cb2.t cb4).t c13).t c18).t c31)) cw32 (by omega)
 have f37 := os_31.chg cw32 (by omega)
 exact ⟨_, rfl, (Own.mono f37 (by omega) (by omega)), hrl, q36⟩

theorem c_iRatRoundK {w : World} {va : Value} {lva uva : Nat} {x : Int} {vd : Value} {lvd uvd : Nat} {e : Nat} {m : Int} (hva : Sl w lva uva va (dg x.natAbs)) (hvd : Sl w lvd uvd vd (dg e)) (hR : ROk (ng x) (dg x.natAbs) (dg e)) (hm : 0 ≤ m ∧ m ≤ 6) :
  Ret Try.prog 12 [.agg #[.bool (ng x), va, vd], .int .i64 m] w fun v w' => ∃ s, v = .tuple #[.agg #[.bool (ng (rqI x e m)), s], .bool (true)] ∧ OwnI w' w.heap.size w'.heap.size s intT (dg (rqI x e m).natAbs) ∧ ((dg (rqI x e m).natAbs).length ≤ 19) ∧ Chg 0 0 w w' := by
 have hi := ROk_iff.1 hR; have h := c_iRatRound (n1 := ng x) hva hvd (m := m) (by omega); rw [rRound_ok ⟨hR, hm⟩] at h; exact h

theorem c_iIntOf {w : World} {n : Int} (hn : -9223372036854775808 ≤ n ∧ n ≤ 9223372036854775807) :
  Ret Try.prog 20 [.int .i64 n] w fun v w' => ∃ s, v = .agg #[.bool (ng n), s] ∧ OwnI w' w.heap.size w'.heap.size s intT (dg (n).natAbs) ∧ Chg 0 0 w w' := by
 refine sx_enter Try.func20 rfl Try.ntmps20 (nbl rfl) ?_
 refine sx_seq fun K1 k1 => sx_region ?_
 refine sx_alloc [.bool false, (.slice none 0 0)] rfl Try.zeroValue25 rfl (fun b2 w3 eb2 sb2 fb2 cb2 => ?_)
 have zw3 := cb2.size
 refine wl_nil (q_n (k1 _ _ ?_))
 refine sx_seq fun K4 k4 => ?_
 refine sx_seq fun K5 k5 => sx_region ?_
 refine mv rfl rfl (sp rfl (px_lt rfl rfl) ?_)
 refine wl_nil (q_n (k5 _ _ ?_))
 refine sx_condP rfl (fun h23 => ?_) (fun h23 => ?_)
 ·
  refine sx_seq fun K6 k6 => sx_region ?_
  refine mv rfl rfl (sp rfl (px_convUn Try.underlying3 Try.underlying88 rfl (by omega)) ?_)
  refine sp rfl (px_negU rfl (by omega)) ?_
  refine sx_call rfl rfl Try.call59 (c_natOf (by omega)) (fun v7 w7 p7 => ?_)
  obtain ⟨s7, rfl, os_7, c7⟩ := p7
  have zw7 := c7.size
  refine sp rfl (px_build rfl (xbld25x0x1 rfl os_7.one _)) ?_
  have f9 := fb2.ext c7
  refine sx_store (vs := [.bool true, v7]) rfl rfl f9 rfl Try.sizeOf25 (nbl rfl) (one_cons rfl (one_cons os_7.one one_nil)) (fun w8 sw8 fw8 cw8 => ?_)
  have zw8 := cw8.size
  have gw8 : Blk w8 b2 [.bool true, v7] 25 := fw8
  refine wl_nil (q_n (k6 _ _ ?_))
  refine sx_retc ?_
  refine q_r (sx_ret1 Try.results20 ⟨_, rfl, gw8.loadA (vs := [.bool true, v7]) (look_lit rfl) Try.isAgg25 Try.sizeOf25⟩ ?_)
  have e1 : (18446744073709551616 - (n + 18446744073709551616)).toNat = n.natAbs := by omega
  have e2 : ng n = true := ng_true.2 (by omega)
  rw [e2, ← e1]
  have q10 := Chg.step (l := 0) (h := 0) (Chg.zero (l := 0) (h := 0) (cb2.t c7)) cw8 (by omega)
  have f11 := os_7.chg cw8 (by omega)
  exact ⟨_, rfl, (Own.mono f11 (by omega) (by omega)), q10⟩
 refine sx_skip ?_
 refine q_n (k4 _ _ ?_)
 refine sx_seq fun K12 k12 => sx_region ?_
 refine mv rfl rfl (sp rfl (px_convU Try.underlying3 Try.underlying88 rfl (by omega)) ?_)
 refine sx_call rfl rfl Try.call59 (c_natOf (by omega)) (fun v13 w13 p13 => ?_)
 obtain ⟨s13, rfl, os_13, c13⟩ := p13
 have zw13 := c13.size
 refine sp rfl (px_build rfl (xbld25x0x1 rfl os_13.one _)) ?_
 have f15 := fb2.ext c13
 refine sx_store (vs := [.bool false, v13]) rfl rfl f15 rfl Try.sizeOf25 (nbl rfl) (one_cons rfl (one_cons os_13.one one_nil)) (fun w14 sw14 fw14 cw14 => ?_)
 have zw14 := cw14.size
 have gw14 : Blk w14 b2 [.bool false, v13] 25 := fw14
 refine wl_nil (q_n (k12 _ _ ?_))
 refine sx_retc ?_
 refine sx_ret1 Try.results20 ⟨_, rfl, gw14.loadA (vs := [.bool false, v13]) (look_lit rfl) Try.isAgg25 Try.sizeOf25⟩ ?_
 have e1 : n.toNat = n.natAbs := by omega
 have e2 : ng n = false := ng_false.2 (by omega)
 rw [e2, ← e1]
 have q16 := Chg.step (l := 0) (h := 0) (Chg.zero (l := 0) (h := 0) (cb2.t c13)) cw14 (by omega)
 have f17 := os_13.chg cw14 (by omega)
 exact ⟨_, rfl, (Own.mono f17 (by omega) (by omega)), q16⟩

theorem c_iRatMake {w : World} {n1 : Bool} {v1 : Value} {lv1 uv1 : Nat} {z1 : List Int} {n2 : Bool} {v2 : Value} {lv2 uv2 : Nat} {z2 : List Int} (hv1 : Sl w lv1 uv1 v1 (z1)) (hv2 : Sl w lv2 uv2 v2 (z2)) (h63 : z1.length ≤ 4611686018427387904 ∧ z2.length ≤ 4611686018427387904) :
  Ret Try.prog 97 [.agg #[.bool n1, v1], .agg #[.bool n2, v2]] w fun v w' => ∃ s t ls us lt ut, v = .tuple #[.agg #[.bool ((rMake n1 z1 n2 z2).1), s, t], .bool ((rMake n1 z1 n2 z2).2.2.2)] ∧ OwnI w' (ls) (us) s intT ((rMake n1 z1 n2 z2).2.1) ∧ OwnI w' (lt) (ut) t intT ((rMake n1 z1 n2 z2).2.2.1) ∧ (w.heap.size ≤ ls ∧ us ≤ w'.heap.size ∧ w.heap.size ≤ lt ∧ ut ≤ w'.heap.size ∧ (us ≤ lt ∨ ut ≤ ls)) ∧ ((rMake n1 z1 n2 z2).2.1.length ≤ 18 ∧ (rMake n1 z1 n2 z2).2.2.1.length ≤ 18) ∧ Chg 0 0 w w' := by
 have hv10 := hv1.fit
 have hv20 := hv2.fit
 refine sx_enter Try.func97 rfl Try.ntmps97 (nbl rfl) ?_
 refine sx_seq fun K1 k1 => sx_region ?_
 refine sx_box [.bool n1, v1] rfl rfl rfl (fun b2 w3 eb2 sb2 fb2 cb2 => ?_)
 have zw3 := cb2.size
 refine sx_box [.bool n2, v2] rfl rfl rfl (fun b4 w5 eb4 sb4 fb4 cb4 => ?_)
 have zw5 := cb4.size
 refine sx_alloc [.bool false, (.slice none 0 0), (.slice none 0 0)] rfl Try.zeroValue35 rfl (fun b6 w7 eb6 sb6 fb6 cb6 => ?_)
 have zw7 := cb6.size
 refine av rfl rfl (wl_nil (q_n (k1 _ _ ?_)))
 refine sx_seq fun K8 k8 => ?_
 refine sx_seq fun K9 k9 => sx_region ?_
 have f10 := fb2.ext cb4
 have f11 := f10.ext cb6
 refine sp rfl (px_load rfl (f11.loadA (vs := [.bool n1, v1]) (look_lit rfl) Try.isAgg25 Try.sizeOf25)) ?_
 have f12 := fb4.ext cb6
 refine sp rfl (px_load rfl (f12.loadA (vs := [.bool n2, v2]) (look_lit rfl) Try.isAgg25 Try.sizeOf25)) ?_
 have f13 := hv10.ext cb2
 have f14 := f13.ext cb4
 have f15 := f14.ext cb6
 have f16 := hv20.ext cb2
 have f17 := f16.ext cb4
 have f18 := f17.ext cb6
 refine sx_call rfl rfl Try.call40 (c_intsOk f15 f18 (by omega)) (fun v19 w19 p19 => ?_)
 obtain ⟨rfl, c19⟩ := p19
 have zw19 := c19.size
 refine sp rfl (px_notP rfl) ?_
 refine mv rfl rfl ?_
 refine sx_tmpP (t := 10) rfl (fun h37 => ?_) (fun h37 => ?_)
 ·
  refine sx_guardF rfl rfl rfl rfl rfl rfl ?_
  refine sx_guardF rfl rfl rfl rfl rfl rfl ?_
  refine sx_guardF rfl rfl rfl rfl rfl rfl ?_
  refine sx_guardF rfl rfl rfl rfl rfl rfl ?_
  refine sp rfl (px_pick rfl rfl) ?_
  refine wl_nil (q_n (k9 _ _ ?_))
  refine sx_sub (Sub.c 2 rfl (.c 3 rfl (.c 4 rfl (.c 5 rfl (.c 15 rfl .nil))))) ?_
  refine sx_condT rfl ?_
  refine sx_seq fun K20 k20 => sx_region ?_
  refine sp rfl (px_build rfl (xbld35x  _)) ?_
  have f22 := fb6.ext c19
  refine sx_store (vs := [.bool false, (.slice none 0 0), (.slice none 0 0)]) rfl rfl f22 rfl Try.sizeOf35 (nbl rfl) (o3 rfl rfl rfl) (fun w21 sw21 fw21 cw21 => ?_)
  have zw21 := cw21.size
  have gw21 : Blk w21 b6 [.bool false, (.slice none 0 0), (.slice none 0 0)] 35 := fw21
  refine av rfl rfl (wl_nil (q_n (k20 _ _ ?_)))
  refine sx_retc ?_
  refine q_r (sx_ret2 Try.results97 ⟨_, rfl, gw21.loadA (vs := [.bool false, (.slice none 0 0), (.slice none 0 0)]) (look_lit rfl) Try.isAgg35 Try.sizeOf35⟩ rfl ?_)
  first | rw [rMake_no (by assumption)] | rw [rMake_ok hI.1 hI.2, rR_zero (len_zero.1 (by omega))]
  have q23 := Chg.step (l := 0) (h := 0) (Chg.zero (l := 0) (h := 0) (((cb2.t cb4).t cb6).t c19)) cw21 (by omega)
  exact ⟨_, _, w.heap.size, w.heap.size, w.heap.size, w.heap.size, rfl, Own.nil _ _ _ _ _, Own.nil _ _ _ _ _, by omega, ⟨by simp [noR], by simp [noR]⟩, q23⟩
 have hI := Decidable.not_not.1 h37
 obtain ⟨x1, rfl, rfl, hx1⟩ := hI.1.int
 obtain ⟨x2, rfl, rfl, hx2⟩ := hI.2.int
 refine sx_guardT rfl rfl rfl ?_
 refine sp rfl (px_field rfl xfld25x1) ?_
 refine sx_guardT rfl rfl rfl ?_
 have f24 := f12.ext c19
 refine sp rfl (px_load rfl (f24.load1 rfl Try.isAgg23)) ?_
 refine sx_guardT rfl rfl rfl ?_
 have f25 := f18.ext c19
 refine sp rfl (px_len rfl Try.underlying23 f25) ?_
 refine sx_guardT rfl rfl rfl ?_
 refine sp rfl (px_eq rfl rfl) ?_
 refine sp rfl (px_pick rfl rfl) ?_
 refine wl_nil (q_n (k9 _ _ ?_))
 refine sx_sub (Sub.c 2 rfl (.c 3 rfl (.c 4 rfl (.c 5 rfl (.c 15 rfl .nil))))) ?_
 refine sx_condP rfl (fun h37x1 => ?_) (fun h37x1 => ?_)
 ·
  refine sx_seq fun K26 k26 => sx_region ?_
  refine sp rfl (px_build rfl (xbld35x  _)) ?_
  have f28 := fb6.ext c19
  refine sx_store (vs := [.bool false, (.slice none 0 0), (.slice none 0 0)]) rfl rfl f28 rfl Try.sizeOf35 (nbl rfl) (o3 rfl rfl rfl) (fun w27 sw27 fw27 cw27 => ?_)
  have zw27 := cw27.size
  have gw27 : Blk w27 b6 [.bool false, (.slice none 0 0), (.slice none 0 0)] 35 := fw27
  refine av rfl rfl (wl_nil (q_n (k26 _ _ ?_)))
  refine sx_retc ?_
  refine q_r (sx_ret2 Try.results97 ⟨_, rfl, gw27.loadA (vs := [.bool false, (.slice none 0 0), (.slice none 0 0)]) (look_lit rfl) Try.isAgg35 Try.sizeOf35⟩ rfl ?_)
  first | rw [rMake_no (by assumption)] | rw [rMake_ok hI.1 hI.2, rR_zero (len_zero.1 (by omega))]
  have q29 := Chg.step (l := 0) (h := 0) (Chg.zero (l := 0) (h := 0) (((cb2.t cb4).t cb6).t c19)) cw27 (by omega)
  exact ⟨_, _, w.heap.size, w.heap.size, w.heap.size, w.heap.size, rfl, Own.nil _ _ _ _ _, Own.nil _ _ _ _ _, by omega, ⟨by simp [noR], by simp [noR]⟩, q29⟩
 refine sx_skip ?_
 refine q_n (k8 _ _ ?_)
 refine sx_seq fun K30 k30 => ?_
 have f31 := f11.ext c19
 refine dx_region (fun w' => Chg b6 (b6 + 1) w19 w') (by kernel_rfl) (Chg.zero (Chg.drew _)) ?_
 have d33 := Chg.drew w19
 have s33 : Chg b6 (b6 + 1) w19 (World.drew w19) := Chg.zero (Chg.drew _)
 have y33 : (World.drew w19).heap.size = w19.heap.size := rfl
 generalize World.drew w19 = w33 at *
 have zw33 := d33.size
 refine dt 0 rfl rfl rfl rfl s33 (fun _ hS => px_field rfl xfld25x0) ?_
 refine dt 1 rfl rfl rfl rfl s33 (fun _ hS => px_load rfl ((f31.chg hS (by omega)).load1 rfl Try.isAgg4)) ?_
 refine dt 2 rfl rfl rfl rfl s33 (fun _ hS => px_field rfl xfld25x0) ?_
 refine dt 3 rfl rfl rfl rfl s33 (fun _ hS => px_load rfl ((f24.chg hS (by omega)).load1 rfl Try.isAgg4)) ?_
 refine dt 4 rfl rfl rfl rfl s33 (fun _ hS => px_neB Try.underlying4 rfl rfl) ?_
 refine dt 5 rfl rfl rfl rfl s33 (fun _ hS => px_field rfl xfld25x1) ?_
 refine dt 6 rfl rfl rfl rfl s33 (fun _ hS => px_load rfl ((f31.chg hS (by omega)).load1 rfl Try.isAgg23)) ?_
 refine dt 8 rfl rfl rfl rfl s33 (fun _ hS => px_field rfl xfld25x1) ?_
 refine dt 9 rfl rfl rfl rfl s33 (fun _ hS => px_load rfl ((f24.chg hS (by omega)).load1 rfl Try.isAgg23)) ?_
 refine dx_eff 7 rfl (by kernel_rfl) ?_
 have f34 := (f15.ext c19).ext d33
 refine sx_call rfl rfl Try.call39 (c_signed f34 (by omega)) (fun v35 w35 p35 => ?_)
 obtain ⟨rfl, c35⟩ := p35
 have zw35 := c35.size
 have s36 : Chg b6 (b6 + 1) w19 w35 := (Chg.zero (l := b6) (h := (b6 + 1)) (d33.t c35))
 refine wl_nil ?_
 refine dx_next s36 ?_
 refine dx_eff 10 rfl (by kernel_rfl) ?_
 have f37 := f34.ext c35
 have f39 := (f25.ext d33).ext c35
 refine sx_call rfl rfl Try.call45 (c_reduce f37 f39 (by omega) (by omega) (len_pos.1 (by omega))) (fun v40 w40 p40 => ?_)
 obtain ⟨s40, t40, ls40, us40, lt40, ut40, rfl, os_40, ot_40, hd40, hl40, c40⟩ := p40
 have zw40 := c40.size
 have s41 : Chg b6 (b6 + 1) w19 w40 := (Chg.zero (l := b6) (h := (b6 + 1)) ((d33.t c35).t c40))
 refine wl_nil ?_
 refine dx_next s41 ?_
 refine dt 11 rfl rfl rfl rfl s41 (fun _ hS => px_ex2 rfl rfl) ?_
 refine dt 12 rfl rfl rfl rfl s41 (fun _ hS => px_ex2 rfl rfl) ?_
 refine dx_eff 13 rfl (by kernel_rfl) ?_
 have f46 := (((fb6.ext c19).ext d33).ext c35).ext c40
 refine sx_store (vs := [.bool ((rR (sgI (nz ((ng x1) != (ng x2)) (dg x1.natAbs)) x1.natAbs) x2.natAbs).1), s40, t40]) rfl rfl f46 rfl Try.sizeOf35 (nbl rfl) (one_cons rfl (one_cons os_40.one (one_cons ot_40.one one_nil))) (fun w42 sw42 fw42 cw42 => ?_)
 have zw42 := cw42.size
 have gw42 : Blk w42 b6 [.bool ((rR (sgI (nz ((ng x1) != (ng x2)) (dg x1.natAbs)) x1.natAbs) x2.natAbs).1), s40, t40] 35 := fw42
 have q48 := Chg.step (l := b6) (h := (b6 + 1)) (Chg.zero (l := b6) (h := (b6 + 1)) ((d33.t c35).t c40)) cw42 (by omega)
 have s47 : Chg b6 (b6 + 1) w19 w42 := q48
 refine wl_nil ?_
 refine dx_next s47 ?_
 refine dt 14 rfl rfl rfl rfl s47 (fun _ hS => px_assign rfl) ?_
 refine dx_done (by kernel_rfl) ?_
 refine q_n (k30 _ _ ?_)
 refine sx_sub (Sub.c 4 rfl (.c 5 rfl .nil)) ?_
 refine sx_retc ?_
 refine sx_ret2 Try.results97 ⟨_, rfl, gw42.loadA (vs := [.bool ((rR (sgI (nz ((ng x1) != (ng x2)) (dg x1.natAbs)) x1.natAbs) x2.natAbs).1), s40, t40]) (look_lit rfl) Try.isAgg35 Try.sizeOf35⟩ rfl ?_
 have hrl := rMake_len (n1 := ng x1) (z1 := dg x1.natAbs) (n2 := ng x2) (z2 := dg x2.natAbs)
 have hre : rMake (ng x1) (dg x1.natAbs) (ng x2) (dg x2.natAbs) = rR (sgI (nz (ng x1 != ng x2) (dg x1.natAbs)) x1.natAbs) x2.natAbs := by rw [rMake_ok hI.1 hI.2, sgI_nz]
 rw [hre] at hrl ⊢
 have q49 := Chg.step (l := 0) (h := 0) (Chg.zero (l := 0) (h := 0) ((((((cb2.t cb4).t cb6).t c19).t d33).t c35).t c40)) cw42 (by omega)
 have f50 := os_40.chg cw42 (by omega)
 have f51 := ot_40.chg cw42 (by omega)
 exact ⟨_, _, _, _, _, _, rfl, f50, f51, by omega, hrl, q49⟩

end Go.Proofs.Ytjkeefmpjocilaa
