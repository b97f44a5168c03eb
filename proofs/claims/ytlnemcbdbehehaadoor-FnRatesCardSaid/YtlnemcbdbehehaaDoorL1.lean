/- Contracts of functions of the program: what each call returns, and that it changes nothing that was. Conditions: as each says. -/
import Derived.Test.YtlnemcbdbehehaaDoorTy
import Derived.Test.YtlnemcbdbehehaaDoorNatN
import Derived.Test.YtlnemcbdbehehaaDoorSxD
import Derived.Test.YtlnemcbdbehehaaDoorPair
import Derived.Test.YtlnemcbdbehehaaDoorSxW
import Derived.Test.YtlnemcbdbehehaaDoorNatS
import Derived.Test.YtlnemcbdbehehaaDoorSxG
import Derived.Test.YtlnemcbdbehehaaDoorNatT
import Derived.Test.YtlnemcbdbehehaaDoorNatO
import Derived.Test.YtlnemcbdbehehaaDoorNatV
import Derived.Test.YtlnemcbdbehehaaDoorSxP
import Derived.Test.YtlnemcbdbehehaaDoorL0
set_option linter.unusedVariables false
set_option linter.unusedSimpArgs false
namespace Go.Proofs.YtlnemcbdbehehaaDoor
open Go Go.RowKit
set_option maxRecDepth 100000
theorem c_l01Byte {w : World} {c : Nat} {vb : Value} {lvb uvb : Nat} {bs : List Int} {i : Int} {h : Int} (hc : Blk w c [vb, .int .i64 i, .int .i64 h] 116) (hvb : SlB w lvb uvb vb (bs)) (hb8 : ∀ j, j < bs.length → 0 ≤ bs.getD j 0 ∧ bs.getD j 0 ≤ 255) (hbl : bs.length ≤ 1048576) (hi : 0 ≤ i ∧ i ≤ bs.length) (hdis : uvb ≤ c) :
  Ret Tryd.prog 102 [.pointer (some ⟨c, 0, none⟩)] w fun v w' => ∃ x i2 h2, v = .int .i64 (x) ∧ Blk w' c [vb, .int .i64 (i2), .int .i64 (h2)] 116 ∧ (0 ≤ x ∧ x ≤ 255) ∧ (0 ≤ i2 ∧ i2 ≤ (bs).length) ∧ Chg c (c + 1) w w' := by
 have clt := hc.lt
 refine sx_enter Tryd.func102 rfl Tryd.ntmps102 (nbl rfl) ?_
 refine sx_seq fun K1 k1 => sx_region ?_
 refine av rfl rfl (wl_nil (q_n (k1 _ _ ?_)))
 refine sx_seq fun K2 k2 => sx_region ?_
 refine mv rfl rfl (mv rfl rfl (sp rfl (px_nil rfl) ?_))
 refine sp rfl (px_field rfl xfld116x2) ?_
 refine sp rfl (px_load rfl (hc.load1 rfl Tryd.isAgg3)) ?_
 refine sp rfl (px_mulW rfl rfl) ?_
 refine sp rfl (px_addW rfl rfl) ?_
 refine sp rfl (px_nil rfl) ?_
 refine sp rfl (px_field rfl xfld116x2) ?_
 refine sx_store (vs := [.int .i64 (i64w ((i64w (h * 6364136223846793005)) + 1442695040888963407))]) rfl rfl hc rfl Tryd.sizeOf3 (nbl rfl) (o1 rfl) (fun w3 sw3 fw3 cw3 => ?_)
 have zw3 := cw3.size
 have gw3 : Blk w3 c [vb, .int .i64 i, .int .i64 (i64w ((i64w (h * 6364136223846793005)) + 1442695040888963407))] 116 := fw3
 refine wl_nil (q_n (k2 _ _ ?_))
 refine sx_seq fun K4 k4 => ?_
 have f5 := hvb.chg cw3 (by omega)
 refine dx_region (fun w' => Chg 0 0 w3 w') (by kernel_rfl) (Chg.zero (Chg.drew _)) ?_
 have d6 := Chg.drew w3
 have s6 : Chg 0 0 w3 (World.drew w3) := Chg.zero (Chg.drew _)
 have y6 : (World.drew w3).heap.size = w3.heap.size := rfl
 generalize World.drew w3 = w6 at *
 have zw6 := d6.size
 refine dt 0 rfl rfl rfl rfl s6 (fun _ hS => px_move rfl) ?_
 refine dt 1 rfl rfl rfl rfl s6 (fun _ hS => px_nil rfl) ?_
 refine dt 2 rfl rfl rfl rfl s6 (fun _ hS => px_field rfl xfld116x2) ?_
 refine dt 3 rfl rfl rfl rfl s6 (fun _ hS => px_load rfl ((gw3.chg hS (by omega)).load1 rfl Tryd.isAgg3)) ?_
 refine dt 4 rfl rfl rfl rfl s6 (fun _ hS => px_shrW rfl rfl (by decide)) ?_
 refine dt 5 rfl rfl rfl rfl s6 (fun _ hS => px_move rfl) ?_
 refine dt 6 rfl rfl rfl rfl s6 (fun _ hS => px_nil rfl) ?_
 refine dt 7 rfl rfl rfl rfl s6 (fun _ hS => px_field rfl xfld116x2) ?_
 refine dt 8 rfl rfl rfl rfl s6 (fun _ hS => px_load rfl ((gw3.chg hS (by omega)).load1 rfl Tryd.isAgg3)) ?_
 refine dt 9 rfl rfl rfl rfl s6 (fun _ hS => px_shrW rfl rfl (by decide)) ?_
 refine dt 10 rfl rfl rfl rfl s6 (fun _ hS => px_xorW rfl rfl) ?_
 have hm7 := andI_mask (xorI ((i64w ((i64w (h * 6364136223846793005)) + 1442695040888963407)).fdiv (2 ^ min (33 : Int).toNat 64)) ((i64w ((i64w (h * 6364136223846793005)) + 1442695040888963407)).fdiv (2 ^ min (45 : Int).toNat 64))) (m := 255) (by decide) (by decide)
 refine dt 11 rfl rfl rfl rfl s6 (fun _ hS => px_andW rfl rfl) ?_
 refine dt 12 rfl rfl rfl rfl s6 (fun _ hS => px_assign rfl) ?_
 refine dx_done (by kernel_rfl) ?_
 refine q_n (k4 _ _ ?_)
 refine sx_sub (Sub.c 0 rfl (.c 2 rfl (.c 3 rfl .nil))) ?_
 refine sx_seq fun K8 k8 => ?_
 refine sx_seq fun K9 k9 => ?_
 have f10 := gw3.ext d6
 have f11 := f5.ext d6
 refine dx_region (fun w' => Chg 0 0 w6 w') (by kernel_rfl) (Chg.zero (Chg.drew _)) ?_
 have d12 := Chg.drew w6
 have s12 : Chg 0 0 w6 (World.drew w6) := Chg.zero (Chg.drew _)
 have y12 : (World.drew w6).heap.size = w6.heap.size := rfl
 generalize World.drew w6 = w12 at *
 have zw12 := d12.size
 refine dt 0 rfl rfl rfl rfl s12 (fun _ hS => px_move rfl) ?_
 refine dt 1 rfl rfl rfl rfl s12 (fun _ hS => px_nil rfl) ?_
 refine dt 2 rfl rfl rfl rfl s12 (fun _ hS => px_field rfl xfld116x1) ?_
 refine dt 3 rfl rfl rfl rfl s12 (fun _ hS => px_load rfl ((f10.chg hS (by omega)).load1 rfl Tryd.isAgg3)) ?_
 refine dt 4 rfl rfl rfl rfl s12 (fun _ hS => px_move rfl) ?_
 refine dt 5 rfl rfl rfl rfl s12 (fun _ hS => px_nil rfl) ?_
 refine dt 6 rfl rfl rfl rfl s12 (fun _ hS => px_field rfl xfld116x0) ?_
 refine dt 7 rfl rfl rfl rfl s12 (fun _ hS => px_load rfl ((f10.chg hS (by omega)).load1 rfl Tryd.isAgg51)) ?_
 refine dt 8 rfl rfl rfl rfl s12 (fun _ hS => px_len rfl Tryd.underlying51 ((f11).chg hS (by omega))) ?_
 refine dt 9 rfl rfl rfl rfl s12 (fun _ hS => px_lt rfl rfl) ?_
 refine dx_done (by kernel_rfl) ?_
 refine q_n (k9 _ _ ?_)
 refine sx_condP rfl (fun h144 => ?_) (fun h144 => ?_)
 ·
  refine sx_seq fun K13 k13 => ?_
  have f14 := f10.ext d12
  have f15 := f11.ext d12
  refine dx_region (fun w' => Chg 0 0 w12 w') (by kernel_rfl) (Chg.zero (Chg.drew _)) ?_
  have d16 := Chg.drew w12
  have s16 : Chg 0 0 w12 (World.drew w12) := Chg.zero (Chg.drew _)
  have y16 : (World.drew w12).heap.size = w12.heap.size := rfl
  generalize World.drew w12 = w16 at *
  have zw16 := d16.size
  refine dt 0 rfl rfl rfl rfl s16 (fun _ hS => px_move rfl) ?_
  refine dt 1 rfl rfl rfl rfl s16 (fun _ hS => px_move rfl) ?_
  refine dt 2 rfl rfl rfl rfl s16 (fun _ hS => px_nil rfl) ?_
  refine dt 3 rfl rfl rfl rfl s16 (fun _ hS => px_field rfl xfld116x0) ?_
  refine dt 4 rfl rfl rfl rfl s16 (fun _ hS => px_load rfl ((f14.chg hS (by omega)).load1 rfl Tryd.isAgg51)) ?_
  refine dt 5 rfl rfl rfl rfl s16 (fun _ hS => px_move rfl) ?_
  refine dt 6 rfl rfl rfl rfl s16 (fun _ hS => px_nil rfl) ?_
  refine dt 7 rfl rfl rfl rfl s16 (fun _ hS => px_field rfl xfld116x1) ?_
  refine dt 8 rfl rfl rfl rfl s16 (fun _ hS => px_load rfl ((f14.chg hS (by omega)).load1 rfl Tryd.isAgg3)) ?_
  refine dt 9 rfl rfl rfl rfl s16 (fun _ hS => px_index1 (j := i.toNat) rfl rfl (by omega) Tryd.underlying51 Tryd.sizeOf5 ((f15).chg hS (by omega)) (by omega)) ?_
  refine dt 10 rfl rfl rfl rfl s16 (fun _ hS => px_load rfl (((f15).chg hS (by omega)).load1 (at_u8 (by omega)) Tryd.isAgg5)) ?_
  refine dt 11 rfl rfl rfl rfl s16 (fun _ hS => px_conv8 Tryd.underlying5 Tryd.underlying3 rfl (hb8 _ (by omega))) ?_
  refine dt 12 rfl rfl rfl rfl s16 (fun _ hS => px_addW rfl rfl) ?_
  have hm17 := andI_mask (i64w ((andI (xorI ((i64w ((i64w (h * 6364136223846793005)) + 1442695040888963407)).fdiv (2 ^ min (33 : Int).toNat 64)) ((i64w ((i64w (h * 6364136223846793005)) + 1442695040888963407)).fdiv (2 ^ min (45 : Int).toNat 64))) 255) + ((bs).getD i.toNat 0))) (m := 255) (by decide) (by decide)
  refine dt 13 rfl rfl rfl rfl s16 (fun _ hS => px_andW rfl rfl) ?_
  refine dt 14 rfl rfl rfl rfl s16 (fun _ hS => px_assign rfl) ?_
  refine dx_done (by kernel_rfl) ?_
  refine q_n (k13 _ _ ?_)
  refine sx_sub (Sub.c 0 rfl (.c 2 rfl (.c 3 rfl .nil))) ?_
  refine sx_region ?_
  refine mv rfl rfl (mv rfl rfl (sp rfl (px_nil rfl) ?_))
  refine sp rfl (px_field rfl xfld116x1) ?_
  have f18 := f14.ext d16
  refine sp rfl (px_load rfl (f18.load1 rfl Tryd.isAgg3)) ?_
  refine sp rfl (px_add rfl rfl (by omega)) ?_
  refine sp rfl (px_nil rfl) ?_
  refine sp rfl (px_field rfl xfld116x1) ?_
  refine sx_store (vs := [.int .i64 (i + 1)]) rfl rfl f18 rfl Tryd.sizeOf3 (nbl rfl) (o1 rfl) (fun w19 sw19 fw19 cw19 => ?_)
  have zw19 := cw19.size
  have gw19 : Blk w19 c [vb, .int .i64 (i + 1), .int .i64 (i64w ((i64w (h * 6364136223846793005)) + 1442695040888963407))] 116 := fw19
  refine wl_nil (q_n (k8 _ _ ?_))
  refine sx_seq fun K20 k20 => sx_region ?_
  refine mv rfl rfl (av rfl rfl (wl_nil (q_n (k20 _ _ ?_))))
  refine sx_retc ?_
  refine sx_ret1 Tryd.results102 rfl ?_
  have q21 := Chg.step (l := c) (h := (c + 1)) cw3 ((d6.t d12).t d16) (by omega)
  have q22 := Chg.step (l := c) (h := (c + 1)) q21 cw19 (by omega)
  exact ⟨_, _, _, rfl, gw19, by omega, by omega, q22⟩
 refine sx_skip ?_
 refine q_n (k8 _ _ ?_)
 refine sx_seq fun K23 k23 => sx_region ?_
 refine mv rfl rfl (av rfl rfl (wl_nil (q_n (k23 _ _ ?_))))
 refine sx_retc ?_
 refine sx_ret1 Tryd.results102 rfl ?_
 have f24 := f10.ext d12
 have q25 := Chg.step (l := c) (h := (c + 1)) cw3 (d6.t d12) (by omega)
 exact ⟨_, _, _, rfl, f24, by omega, by omega, q25⟩

theorem c_l01Below {w : World} {c : Nat} {vb : Value} {lvb uvb : Nat} {bs : List Int} {i : Int} {h : Int} {n : Int} (hc : Blk w c [vb, .int .i64 i, .int .i64 h] 116) (hvb : SlB w lvb uvb vb (bs)) (hb8 : ∀ j, j < bs.length → 0 ≤ bs.getD j 0 ∧ bs.getD j 0 ≤ 255) (hbl : bs.length ≤ 1048576) (hi : 0 ≤ i ∧ i ≤ bs.length) (hdis : uvb ≤ c) (hn : 1 ≤ n ∧ n ≤ 1000000000) :
  Ret Tryd.prog 77 [.pointer (some ⟨c, 0, none⟩), .int .i64 n] w fun v w' => ∃ x i2 h2, v = .int .i64 (x) ∧ Blk w' c [vb, .int .i64 (i2), .int .i64 (h2)] 116 ∧ (0 ≤ x ∧ x < n) ∧ (0 ≤ i2 ∧ i2 ≤ (bs).length) ∧ Chg c (c + 1) w w' := by
 have clt := hc.lt
 refine sx_enter Tryd.func77 rfl Tryd.ntmps77 (nbl rfl) ?_
 refine sx_seq fun K1 k1 => sx_region ?_
 refine av rfl rfl (wl_nil (q_n (k1 _ _ ?_)))
 refine sx_seq fun K2 k2 => ?_
 refine sx_seq fun K3 k3 => sx_region ?_
 refine mv rfl rfl (sp rfl (px_le rfl rfl) ?_)
 refine wl_nil (q_n (k3 _ _ ?_))
 have h153 : ¬ ((n : Int) ≤ 0) := by omega
 refine sx_condPF rfl h153 ?_
 refine sx_skip ?_
 refine q_n (k2 _ _ ?_)
 refine sx_seq fun K4 k4 => ?_
 refine sx_seq fun K5 k5 => sx_region ?_
 refine mv rfl rfl (sp rfl (px_le rfl rfl) ?_)
 refine wl_nil (q_n (k5 _ _ ?_))
 refine sx_condP rfl (fun h156 => ?_) (fun h156 => ?_)
 ·
  refine sx_seq fun K6 k6 => sx_region ?_
  refine mv rfl rfl (sx_call rfl rfl Tryd.call102 (c_l01Byte hc hvb (by assumption) (by omega) (by omega) (by omega)) (fun v7 w7 p7 => ?_))
  obtain ⟨x7, i27, h27, rfl, xc_7, hx7, hi27, c7⟩ := p7
  have zw7 := c7.size
  refine mv rfl rfl (sp rfl (px_rem rfl rfl (by omega) (by omega)) ?_)
  refine av rfl rfl (wl_nil (q_n (k6 _ _ ?_)))
  refine sx_retc ?_
  refine q_r (sx_ret1 Tryd.results77 rfl ?_)
  have hmp := Int.emod_nonneg x7 (show n ≠ 0 by omega)
  have hml := Int.emod_lt_of_pos x7 (show 0 < n by omega)
  exact ⟨_, _, _, rfl, xc_7, by omega, by omega, c7⟩
 refine sx_skip ?_
 refine q_n (k4 _ _ ?_)
 refine sx_seq fun K8 k8 => sx_region ?_
 refine mv rfl rfl (sx_call rfl rfl Tryd.call102 (c_l01Byte hc hvb (by assumption) (by omega) (by omega) (by omega)) (fun v9 w9 p9 => ?_))
 obtain ⟨x9, i29, h29, rfl, xc_9, hx9, hi29, c9⟩ := p9
 have zw9 := c9.size
 refine av rfl rfl (wl_nil (q_n (k8 _ _ ?_)))
 refine sx_seq fun K10 k10 => sx_region ?_
 refine mv rfl rfl ?_
 have f11 := hvb.chg c9 (by omega)
 refine sx_call rfl rfl Tryd.call102 (c_l01Byte xc_9 f11 (by assumption) (by omega) (by omega) (by omega)) (fun v12 w12 p12 => ?_)
 obtain ⟨x12, i212, h212, rfl, xc_12, hx12, hi212, c12⟩ := p12
 have zw12 := c12.size
 refine av rfl rfl (wl_nil (q_n (k10 _ _ ?_)))
 refine sx_seq fun K13 k13 => sx_region ?_
 refine mv rfl rfl ?_
 have f14 := f11.chg c12 (by omega)
 refine sx_call rfl rfl Tryd.call102 (c_l01Byte xc_12 f14 (by assumption) (by omega) (by omega) (by omega)) (fun v15 w15 p15 => ?_)
 obtain ⟨x15, i215, h215, rfl, xc_15, hx15, hi215, c15⟩ := p15
 have zw15 := c15.size
 refine av rfl rfl (wl_nil (q_n (k13 _ _ ?_)))
 refine sx_sub (Sub.c 0 rfl (.c 1 rfl (.c 4 rfl (.c 5 rfl (.c 6 rfl (.c 7 rfl .nil)))))) ?_
 refine sx_seq fun K16 k16 => sx_region ?_
 refine mv rfl rfl ?_
 have f17 := f14.chg c15 (by omega)
 refine sx_call rfl rfl Tryd.call102 (c_l01Byte xc_15 f17 (by assumption) (by omega) (by omega) (by omega)) (fun v18 w18 p18 => ?_)
 obtain ⟨x18, i218, h218, rfl, xc_18, hx18, hi218, c18⟩ := p18
 have zw18 := c18.size
 refine av rfl rfl (wl_nil (q_n (k16 _ _ ?_)))
 refine sx_seq fun K19 k19 => sx_region ?_
 refine mv rfl rfl (sp rfl (px_mul rfl rfl (by omega)) ?_)
 refine mv rfl rfl (sp rfl (px_mul rfl rfl (by omega)) ?_)
 refine sp rfl (px_add rfl rfl (by omega)) ?_
 refine mv rfl rfl (sp rfl (px_mul rfl rfl (by omega)) ?_)
 refine sp rfl (px_add rfl rfl (by omega)) ?_
 refine mv rfl rfl (sp rfl (px_add rfl rfl (by omega)) ?_)
 refine mv rfl rfl (sp rfl (px_rem rfl rfl (by omega) (by omega)) ?_)
 refine av rfl rfl (wl_nil (q_n (k19 _ _ ?_)))
 refine sx_sub (Sub.c 4 rfl .nil) ?_
 refine sx_retc ?_
 refine sx_ret1 Tryd.results77 rfl ?_
 have hmp := Int.emod_nonneg ((((x9 * 16777216) + (x12 * 65536)) + (x15 * 256)) + x18) (show n ≠ 0 by omega)
 have hml := Int.emod_lt_of_pos ((((x9 * 16777216) + (x12 * 65536)) + (x15 * 256)) + x18) (show 0 < n by omega)
 have q20 := Chg.step (l := c) (h := (c + 1)) c9 c12 (by omega)
 have q21 := Chg.step (l := c) (h := (c + 1)) q20 c15 (by omega)
 have q22 := Chg.step (l := c) (h := (c + 1)) q21 c18 (by omega)
 exact ⟨_, _, _, rfl, xc_18, by omega, by omega, q22⟩

theorem c_l01Str {w : World} {c : Nat} {vb : Value} {lvb uvb : Nat} {bs : List Int} {i : Int} {h : Int} {vl : Value} {lvl uvl : Nat} {zs : List ByteArray} (hc : Blk w c [vb, .int .i64 i, .int .i64 h] 116) (hvb : SlB w lvb uvb vb (bs)) (hvl : SlS w lvl uvl vl (zs)) (hb8 : ∀ j, j < bs.length → 0 ≤ bs.getD j 0 ∧ bs.getD j 0 ≤ 255) (hbl : bs.length ≤ 1048576) (hi : 0 ≤ i ∧ i ≤ bs.length) (hdis : uvb ≤ c) (hz : 1 ≤ zs.length ∧ zs.length ≤ 1000) (hd2 : uvl ≤ c ∨ c < lvl) :
  Ret Tryd.prog 76 [.pointer (some ⟨c, 0, none⟩), vl] w fun v w' => ∃ s i2 h2, v = .string (s) ∧ Blk w' c [vb, .int .i64 (i2), .int .i64 (h2)] 116 ∧ (s ∈ zs) ∧ (0 ≤ i2 ∧ i2 ≤ (bs).length) ∧ Chg c (c + 1) w w' := by
 have clt := hc.lt
 refine sx_enter Tryd.func76 rfl Tryd.ntmps76 (nbl rfl) ?_
 refine sx_seq fun K1 k1 => sx_region ?_
 refine av rfl rfl (wl_nil (q_n (k1 _ _ ?_)))
 refine sx_seq fun K2 k2 => sx_region ?_
 refine mv rfl rfl (mv rfl rfl (mv rfl rfl (sp rfl (px_len rfl Tryd.underlying59 hvl) ?_)))
 refine sx_call rfl rfl Tryd.call77 (c_l01Below hc hvb (by assumption) (by omega) (by omega) (by omega) (by omega)) (fun v3 w3 p3 => ?_)
 obtain ⟨x3, i23, h23, rfl, xc_3, hx3, hi23, c3⟩ := p3
 have zw3 := c3.size
 have f4 := hvl.chg c3 (by omega)
 refine sp rfl (px_index1 (j := x3.toNat) rfl rfl (by omega) Tryd.underlying59 Tryd.sizeOf9 f4 (by omega)) ?_
 refine sp rfl (px_load rfl (f4.load1 (at_str (by omega)) Tryd.isAgg9)) ?_
 refine av rfl rfl (wl_nil (q_n (k2 _ _ ?_)))
 refine sx_retc ?_
 refine sx_ret1 Tryd.results76 rfl ?_
 exact ⟨_, _, _, rfl, xc_3, mem_getDS (by omega), by omega, c3⟩

theorem c_l08Cur {w : World} {c : Nat} {vb : Value} {lvb uvb : Nat} {bs : List Int} {i : Int} {h : Int} (hc : Blk w c [vb, .int .i64 i, .int .i64 h] 116) (hvb : SlB w lvb uvb vb (bs)) (hb8 : ∀ j, j < bs.length → 0 ≤ bs.getD j 0 ∧ bs.getD j 0 ≤ 255) (hbl : bs.length ≤ 1048576) (hi : 0 ≤ i ∧ i ≤ bs.length) (hdis : uvb ≤ c) :
  Ret Tryd.prog 81 [.pointer (some ⟨c, 0, none⟩)] w fun v w' => ∃ s i2 h2, v = .string (s) ∧ Blk w' c [vb, .int .i64 (i2), .int .i64 (h2)] 116 ∧ (Known s) ∧ (0 ≤ i2 ∧ i2 ≤ (bs).length) ∧ Chg c (c + 1) w w' := by
 have clt := hc.lt
 have clt := hc.lt
 have hkn : ∀ s ∈ ([⟨#[67, 72, 70]⟩, ⟨#[69, 85, 82]⟩, ⟨#[85, 83, 68]⟩, ⟨#[74, 80, 89]⟩, ⟨#[75, 87, 68]⟩, ⟨#[72, 85, 70]⟩, ⟨#[67, 76, 70]⟩] : List ByteArray), Known s := by decide
 refine sx_enter Tryd.func81 rfl Tryd.ntmps81 (nbl rfl) ?_
 refine sx_seq fun K1 k1 => sx_region ?_
 refine av rfl rfl (wl_nil (q_n (k1 _ _ ?_)))
 refine sx_seq fun K2 k2 => sx_region ?_
 refine mv rfl rfl ?_
 refine sx_lit7 rfl xelt59 rfl rfl rfl rfl rfl rfl rfl rfl rfl rfl rfl rfl rfl rfl (fun s3 ws3 ss3 fs3 cs3 => ?_)
 have ns3 := Own.norm (f := Value.string) (zs := [⟨#[67, 72, 70]⟩, ⟨#[69, 85, 82]⟩, ⟨#[85, 83, 68]⟩, ⟨#[74, 80, 89]⟩, ⟨#[75, 87, 68]⟩, ⟨#[72, 85, 70]⟩, ⟨#[67, 76, 70]⟩]) fs3
 have zws3 := cs3.size
 have f4 := hc.ext cs3
 have f5 := hvb.ext cs3
 refine sx_call rfl rfl Tryd.call76 (c_l01Str f4 f5 ns3.sv (by assumption) (by omega) (by omega) (by omega) (by first | omega | decide | simp) (by omega)) (fun v6 w6 p6 => ?_)
 obtain ⟨s6, i26, h26, rfl, xc_6, hx6, hi26, c6⟩ := p6
 have zw6 := c6.size
 refine av rfl rfl (wl_nil (q_n (k2 _ _ ?_)))
 refine sx_retc ?_
 refine sx_ret1 Tryd.results81 rfl ?_
 have q7 := Chg.step (l := c) (h := (c + 1)) (Chg.zero (l := c) (h := (c + 1)) cs3) c6 (by omega)
 exact ⟨_, _, _, rfl, xc_6, hkn _ (by assumption), by omega, q7⟩

theorem c_sNatOf {w : World} {n : Int} (hn : 0 ≤ n ∧ n ≤ 9223372036854775807) :
  Ret Tryd.prog 117 [.int .i64 n] w fun v w' => ∃ s, v = s ∧ OwnI w' w.heap.size w'.heap.size s intT (dg (n).toNat) ∧ Chg 0 0 w w' := by
 have l0 := len_u64 (n := n) (by omega)
 refine sx_enter Tryd.func117 rfl Tryd.ntmps117 (nbl rfl) ?_
 refine sx_seq fun K1 k1 => sx_region ?_
 refine av rfl rfl (wl_nil (q_n (k1 _ _ ?_)))
 refine sx_seq fun K2 k2 => sx_region ?_
 refine sx_lit0 rfl xelt25 (fun s3 ws3 ss3 fs3 cs3 => ?_)
 have zws3 := cs3.size
 refine av rfl rfl (wl_nil (q_n (k2 _ _ ?_)))
 refine sx_seq fun K4 k4 => ?_
 refine sx_block ?_
 refine sx_loop (fun mm aa w' => ∃ (s : Value) (os : List Int) (m : Int), Agr 15 [(0, .int .i64 m), (3, s)] aa ∧ Chg w.heap.size ws3.heap.size ws3 w' ∧ Own w' w.heap.size w'.heap.size s intT os.length 1 (os.map (Value.int .i64)) ∧ (mm = m.toNat) ∧ (Lm os) ∧ (0 ≤ m ∧ m ≤ n) ∧ (vl os + Bs ^ os.length * m.toNat = n.toNat) ∧ (os.length + (dg m.toNat).length = (dg n.toNat).length) ∧ (os.length = 0 ∨ Bs ^ (os.length - 1) ≤ n.toNat)) (_) (fun a ha => ⟨s3, [], n, ha.sub (Sub.c 0 (look_int (t := 0) rfl (by first | omega | simp)) (.c 3 rfl .nil)), Chg.refl _ _ _, (fs3.mono (by omega) (by omega)), rfl, Lm.nil, by omega, by simp [vl], by simp, .inl rfl⟩) ?_
 rintro mm aa wl5 ⟨s, os, m, hAwl5, cwl5, hs_s, hm, hlm, hb, hv, hln, hl⟩
 refine (show cw Tryd.prog 15 _ _ _ wl5 from ?_) aa hAwl5
 clear hAwl5
 have zwl5 := cwl5.size
 refine sx_seq fun K6 k6 => ?_
 refine sx_seq fun K7 k7 => sx_region ?_
 refine mv rfl rfl (sp rfl (px_gt rfl rfl) ?_)
 refine wl_nil (q_n (k7 _ _ ?_))
 refine sx_condP rfl (fun h34 => ?_) (fun h34 => ?_)
 ·
  refine sx_skip ?_
  refine q_n (k6 _ _ ?_)
  refine sx_block ?_
  refine sx_seq fun K8 k8 => sx_region ?_
  refine mv rfl rfl (mv rfl rfl (sp rfl (px_rem rfl rfl (by omega) (by omega)) ?_))
  refine sx_lit1 rfl xelt25 rfl rfl (fun s9 ws9 ss9 fs9 cs9 => ?_)
  have ns9 := Own.norm (f := (Value.int .i64)) (zs := [m % 1000000000]) fs9
  have zws9 := cs9.size
  have f11 := hs_s.ext cs9
  refine sx_append rfl xelt25 rfl rfl f11 ns9.sv one_int (by omega) (by simp only [List.length_cons, List.length_nil]; omega) (by unfold maxLen; simp only [List.length_cons, List.length_nil]; omega) (fun a10 w10 fw10 cw10 => ?_)
  have nw10 := Own.app (f := (Value.int .i64)) (a := os) (b := [m % 1000000000]) fw10
  have zw10 := cw10.size
  refine av rfl rfl (wl_nil (q_n (k8 _ _ ?_)))
  refine sx_region ?_
  refine mv rfl rfl (sp rfl (px_quo rfl rfl (by omega) (by omega) (by omega)) ?_)
  refine av rfl rfl (wl_nil ?_)
  have q12 := Chg.step (l := w.heap.size) (h := ws3.heap.size) cwl5 cs9 (by omega)
  have q13 := Chg.step (l := w.heap.size) (h := ws3.heap.size) q12 cw10 (by omega)
  have hmd := mod_bd (s := m) (by omega)
  have hm0 : m / 1000000000 < m := by omega
  exact q_bn (fun a ha => ⟨_, by omega, a10, (os ++ ([m % 1000000000])), (m / 1000000000), ha.sub (Sub.c 0 (look_int (t := 0) rfl (by first | omega | simp)) (.c 3 rfl .nil)), q13, (nw10.mono (by omega) (by omega)), rfl, hlm.append (Lm.single hmd.1 hmd.2), by omega, of_stepI (by omega) hv, by have h9 := of_ln (m := m) (by omega); simp only [List.length_append, List.length_singleton]; omega, .inr (of_len (by omega) hv)⟩)
 refine sx_exit ?_
 refine q_e (q_e (q_bx (q_n (k4 _ _ ?_))))
 refine sx_seq fun K14 k14 => sx_region ?_
 refine mv rfl rfl (av rfl rfl (wl_nil (q_n (k14 _ _ ?_))))
 refine sx_retc ?_
 refine sx_ret1 Tryd.results117 rfl ?_
 have hm0 : m = 0 := by omega
 subst hm0
 have hd : os = dg n.toNat := dg_of hlm (by simpa using hv) hl
 subst hd
 have q15 := Chg.step (l := 0) (h := 0) (Chg.zero (l := 0) (h := 0) cs3) cwl5 (by omega)
 exact ⟨_, rfl, (Own.mono hs_s (by omega) (by omega)), q15⟩

theorem c_sIntOf {w : World} {n : Int} (hn : -9223372036854775808 ≤ n ∧ n ≤ 9223372036854775807) :
  Ret Tryd.prog 103 [.int .i64 n] w fun v w' => ∃ s, v = .agg #[.bool (ng n), s] ∧ OwnI w' w.heap.size w'.heap.size s intT (dg (n).natAbs) ∧ Chg 0 0 w w' := by
 refine sx_enter Tryd.func103 rfl Tryd.ntmps103 (nbl rfl) ?_
 refine sx_seq fun K1 k1 => sx_region ?_
 refine sx_alloc [.bool false, (.slice none 0 0)] rfl Tryd.zeroValue40 rfl (fun b2 w3 eb2 sb2 fb2 cb2 => ?_)
 have zw3 := cb2.size
 refine wl_nil (q_n (k1 _ _ ?_))
 refine sx_seq fun K4 k4 => ?_
 refine sx_seq fun K5 k5 => sx_region ?_
 refine mv rfl rfl (sp rfl (px_eq rfl rfl) ?_)
 refine wl_nil (q_n (k5 _ _ ?_))
 refine sx_condP rfl (fun h15 => ?_) (fun h15 => ?_)
 ·
  subst h15
  refine sx_seq fun K6 k6 => sx_region ?_
  refine sx_lit3 rfl xelt25 rfl rfl rfl rfl rfl rfl (fun s7 ws7 ss7 fs7 cs7 => ?_)
  have ns7 := Own.norm (f := (Value.int .i64)) (zs := [854775808, 223372036, 9]) fs7
  have zws7 := cs7.size
  refine sx_call rfl rfl Tryd.call68 (c_l04MakeMin ns7.sv (dg_min.symm)) (fun v8 w8 p8 => ?_)
  obtain ⟨s8, rfl, os_8, c8⟩ := p8
  have zw8 := c8.size
  have f10 := fb2.ext cs7
  have f11 := f10.ext c8
  refine sx_store (vs := [.bool (ng (capI true (-9223372036854775808 : Int).natAbs)), s8]) rfl rfl f11 rfl Tryd.sizeOf40 (nbl rfl) (one_cons rfl (one_cons os_8.one one_nil)) (fun w9 sw9 fw9 cw9 => ?_)
  have zw9 := cw9.size
  have gw9 : Blk w9 b2 [.bool (ng (capI true (-9223372036854775808 : Int).natAbs)), s8] 40 := fw9
  refine wl_nil (q_n (k6 _ _ ?_))
  refine sx_retc ?_
  refine q_r (sx_ret1 Tryd.results103 ⟨_, rfl, gw9.loadA (vs := [.bool (ng (capI true (-9223372036854775808 : Int).natAbs)), s8]) (look_lit rfl) Tryd.isAgg40 Tryd.sizeOf40⟩ ?_)
  have e : capI true (-9223372036854775808 : Int).natAbs = -9223372036854775808 := capI_min
  have f12 := os_8.chg cw9 (by omega)
  have hr := f12
  rw [e] at hr
  have q13 := Chg.step (l := 0) (h := 0) (Chg.zero (l := 0) (h := 0) ((cb2.t cs7).t c8)) cw9 (by omega)
  exact ⟨_, by rw [e], hr.mono (by omega) (by omega), q13⟩
 refine sx_skip ?_
 refine q_n (k4 _ _ ?_)
 refine sx_seq fun K14 k14 => ?_
 refine sx_seq fun K15 k15 => sx_region ?_
 refine mv rfl rfl (sp rfl (px_lt rfl rfl) ?_)
 refine wl_nil (q_n (k15 _ _ ?_))
 refine sx_condP rfl (fun h18 => ?_) (fun h18 => ?_)
 ·
  refine sx_seq fun K16 k16 => sx_region ?_
  refine mv rfl rfl (sp rfl (px_neg rfl (by omega)) ?_)
  refine sx_call rfl rfl Tryd.call117 (c_sNatOf (by omega)) (fun v17 w17 p17 => ?_)
  obtain ⟨s17, rfl, os_17, c17⟩ := p17
  have zw17 := c17.size
  refine sx_call rfl rfl Tryd.call68 (c_l04Make os_17.sv (by first | (have h9 := len_u64 (n := -n) (by omega); omega) | (have h9 := len_u64 (n := n) (by omega); omega))) (fun v18 w18 p18 => ?_)
  obtain ⟨s18, rfl, os_18, c18⟩ := p18
  have zw18 := c18.size
  have f21 := (fb2.ext c17).ext c18
  refine sx_store (vs := [.bool (ng (capI true (((-n)).toNat))), s18]) rfl rfl f21 rfl Tryd.sizeOf40 (nbl rfl) (one_cons rfl (one_cons os_18.one one_nil)) (fun w19 sw19 fw19 cw19 => ?_)
  have zw19 := cw19.size
  have gw19 : Blk w19 b2 [.bool (ng (capI true (((-n)).toNat))), s18] 40 := fw19
  refine wl_nil (q_n (k16 _ _ ?_))
  refine sx_retc ?_
  refine q_r (sx_ret1 Tryd.results103 ⟨_, rfl, gw19.loadA (vs := [.bool (ng (capI true (((-n)).toNat))), s18]) (look_lit rfl) Tryd.isAgg40 Tryd.sizeOf40⟩ ?_)
  have e : capI true (-n).toNat = n := capI_neg (by omega)
  have f22 := os_18.chg cw19 (by omega)
  have hr := f22
  rw [e] at hr
  have q23 := Chg.step (l := 0) (h := 0) (Chg.zero (l := 0) (h := 0) ((cb2.t c17).t c18)) cw19 (by omega)
  exact ⟨_, by rw [e], hr.mono (by omega) (by omega), q23⟩
 refine sx_skip ?_
 refine q_n (k14 _ _ ?_)
 refine sx_seq fun K24 k24 => sx_region ?_
 refine mv rfl rfl (sx_call rfl rfl Tryd.call117 (c_sNatOf (by omega)) (fun v25 w25 p25 => ?_))
 obtain ⟨s25, rfl, os_25, c25⟩ := p25
 have zw25 := c25.size
 refine sx_call rfl rfl Tryd.call68 (c_l04Make os_25.sv (by first | (have h9 := len_u64 (n := -n) (by omega); omega) | (have h9 := len_u64 (n := n) (by omega); omega))) (fun v26 w26 p26 => ?_)
 obtain ⟨s26, rfl, os_26, c26⟩ := p26
 have zw26 := c26.size
 have f29 := (fb2.ext c25).ext c26
 refine sx_store (vs := [.bool (ng (capI false ((n).toNat))), s26]) rfl rfl f29 rfl Tryd.sizeOf40 (nbl rfl) (one_cons rfl (one_cons os_26.one one_nil)) (fun w27 sw27 fw27 cw27 => ?_)
 have zw27 := cw27.size
 have gw27 : Blk w27 b2 [.bool (ng (capI false ((n).toNat))), s26] 40 := fw27
 refine wl_nil (q_n (k24 _ _ ?_))
 refine sx_retc ?_
 refine sx_ret1 Tryd.results103 ⟨_, rfl, gw27.loadA (vs := [.bool (ng (capI false ((n).toNat))), s26]) (look_lit rfl) Tryd.isAgg40 Tryd.sizeOf40⟩ ?_
 have e : capI false n.toNat = n := capI_pos (by omega)
 have f30 := os_26.chg cw27 (by omega)
 have hr := f30
 rw [e] at hr
 have q31 := Chg.step (l := 0) (h := 0) (Chg.zero (l := 0) (h := 0) ((cb2.t c25).t c26)) cw27 (by omega)
 exact ⟨_, by rw [e], hr.mono (by omega) (by omega), q31⟩

theorem c_l01Pick {w : World} {c : Nat} {vb : Value} {lvb uvb : Nat} {bs : List Int} {i : Int} {h : Int} {vl : Value} {lvl uvl : Nat} {zs : List Int} (hc : Blk w c [vb, .int .i64 i, .int .i64 h] 116) (hvb : SlB w lvb uvb vb (bs)) (hvl : Sl w lvl uvl vl (zs)) (hb8 : ∀ j, j < bs.length → 0 ≤ bs.getD j 0 ∧ bs.getD j 0 ≤ 255) (hbl : bs.length ≤ 1048576) (hi : 0 ≤ i ∧ i ≤ bs.length) (hdis : uvb ≤ c) (hz : 1 ≤ zs.length ∧ zs.length ≤ 1000) (hd2 : uvl ≤ c ∨ c < lvl) :
  Ret Tryd.prog 104 [.pointer (some ⟨c, 0, none⟩), vl] w fun v w' => ∃ x i2 h2, v = .int .i64 (x) ∧ Blk w' c [vb, .int .i64 (i2), .int .i64 (h2)] 116 ∧ (x ∈ zs) ∧ (0 ≤ i2 ∧ i2 ≤ (bs).length) ∧ Chg c (c + 1) w w' := by
 have clt := hc.lt
 refine sx_enter Tryd.func104 rfl Tryd.ntmps104 (nbl rfl) ?_
 refine sx_seq fun K1 k1 => sx_region ?_
 refine av rfl rfl (wl_nil (q_n (k1 _ _ ?_)))
 refine sx_seq fun K2 k2 => sx_region ?_
 refine mv rfl rfl (mv rfl rfl (mv rfl rfl (sp rfl (px_len rfl Tryd.underlying25 hvl) ?_)))
 refine sx_call rfl rfl Tryd.call77 (c_l01Below hc hvb (by assumption) (by omega) (by omega) (by omega) (by omega)) (fun v3 w3 p3 => ?_)
 obtain ⟨x3, i23, h23, rfl, xc_3, hx3, hi23, c3⟩ := p3
 have zw3 := c3.size
 have f4 := hvl.chg c3 (by omega)
 refine sp rfl (px_index1 (j := x3.toNat) rfl rfl (by omega) Tryd.underlying25 Tryd.sizeOf3 f4 (by omega)) ?_
 refine sp rfl (px_load rfl (f4.load1 (at_int (by omega)) Tryd.isAgg3)) ?_
 refine av rfl rfl (wl_nil (q_n (k2 _ _ ?_)))
 refine sx_retc ?_
 refine sx_ret1 Tryd.results104 rfl ?_
 exact ⟨_, _, _, rfl, xc_3, mem_getD (by omega), by omega, c3⟩

theorem c_l10Draw {w : World} {c : Nat} {vb : Value} {lvb uvb : Nat} {bs : List Int} {i : Int} {h : Int} (hc : Blk w c [vb, .int .i64 i, .int .i64 h] 116) (hvb : SlB w lvb uvb vb (bs)) (hb8 : ∀ j, j < bs.length → 0 ≤ bs.getD j 0 ∧ bs.getD j 0 ≤ 255) (hbl : bs.length ≤ 1048576) (hi : 0 ≤ i ∧ i ≤ bs.length) (hdis : uvb ≤ c) :
  Ret Tryd.prog 78 [.pointer (some ⟨c, 0, none⟩)] w fun v w' => ∃ s a b x p i2 h2, v = .agg #[.string (a), .string (b), .bool (ng x), s, .int .i64 (p)] ∧ OwnI w' w.heap.size w'.heap.size s intT (dg (x).natAbs) ∧ Blk w' c [vb, .int .i64 (i2), .int .i64 (h2)] 116 ∧ (Known a ∧ Known b ∧ a ≠ b) ∧ (1 ≤ x ∧ x ≤ 3000) ∧ (0 ≤ p ∧ p ≤ 4) ∧ (0 ≤ i2 ∧ i2 ≤ (bs).length) ∧ Chg c (c + 1) w w' := by
 have clt := hc.lt
 have clt := hc.lt
 have hkn2 : ∀ s ∈ ([⟨#[67, 72, 70]⟩, ⟨#[69, 85, 82]⟩] : List ByteArray), Known s ∧ s ≠ ⟨#[85, 83, 68]⟩ := by decide
 refine sx_enter Tryd.func78 rfl Tryd.ntmps78 (nbl rfl) ?_
 refine sx_seq fun K1 k1 => sx_region ?_
 refine sx_alloc [.string (⟨#[]⟩), .string (⟨#[]⟩), .bool false, (.slice none 0 0), .int .i64 0] rfl Tryd.zeroValue44 rfl (fun b2 w3 eb2 sb2 fb2 cb2 => ?_)
 have zw3 := cb2.size
 refine wl_nil (q_n (k1 _ _ ?_))
 refine sx_seq fun K4 k4 => sx_region ?_
 refine mv rfl rfl ?_
 have f5 := hc.ext cb2
 have f6 := hvb.ext cb2
 refine sx_call rfl rfl Tryd.call81 (c_l08Cur f5 f6 (by assumption) (by omega) (by omega) (by omega)) (fun v7 w7 p7 => ?_)
 obtain ⟨s7, i27, h27, rfl, xc_7, hk7, hi27, c7⟩ := p7
 have zw7 := c7.size
 refine av rfl rfl (wl_nil (q_n (k4 _ _ ?_)))
 refine sx_seq fun K8 k8 => sx_region ?_
 refine mv rfl rfl ?_
 have f9 := f6.chg c7 (by omega)
 refine sx_call rfl rfl Tryd.call81 (c_l08Cur xc_7 f9 (by assumption) (by omega) (by omega) (by omega)) (fun v10 w10 p10 => ?_)
 obtain ⟨s10, i210, h210, rfl, xc_10, hk10, hi210, c10⟩ := p10
 have zw10 := c10.size
 refine av rfl rfl (wl_nil (q_n (k8 _ _ ?_)))
 refine sx_seq fun K11 k11 => ?_
 refine sx_block ?_
 have f14 := (fb2.chg c7 (by omega)).chg c10 (by omega)
 have q15 := Chg.step (l := c) (h := (c + 1)) (Chg.zero (l := c) (h := (c + 1)) cb2) c7 (by omega)
 have q16 := Chg.step (l := c) (h := (c + 1)) q15 c10 (by omega)
 refine sx_loop (fun mm aa w' => ∃ (a : ByteArray) (b : ByteArray) (i2 : Int) (h2 : Int), Agr 28 [(0, .pointer (some ⟨c, 0, none⟩)), (2, .pointer (some ⟨b2, 0, none⟩)), (3, .string a), (4, .string b)] aa ∧ Chg c (c + 1) w w' ∧ Blk w' c [vb, .int .i64 i2, .int .i64 h2] 116 ∧ Blk w' b2 [.string (⟨#[]⟩), .string (⟨#[]⟩), .bool false, (.slice none 0 0), .int .i64 0] 44 ∧ (mm = (if a = b then 1 else 0)) ∧ (Known a) ∧ (Known b) ∧ (0 ≤ i2 ∧ i2 ≤ bs.length)) (_) (fun a ha => ⟨s7, s10, i210, h210, ha.sub (Sub.c 0 rfl (.c 2 rfl (.c 3 rfl (.c 4 rfl .nil)))), q16, xc_10, f14, rfl, by assumption, by assumption, by omega⟩) ?_
 rintro mm aa wl12 ⟨a, b, i2, h2, hAwl12, cwl12, hb_c, hb_b2, hm, hka, hkb, hi2⟩
 refine (show cw Tryd.prog 28 _ _ _ wl12 from ?_) aa hAwl12
 clear hAwl12
 have zwl12 := cwl12.size
 have lt17 := hb_c.lt
 have lt18 := hb_b2.lt
 refine sx_seq fun K19 k19 => ?_
 refine sx_seq fun K20 k20 => sx_region ?_
 refine mv rfl rfl (mv rfl rfl (sp rfl (px_eqS rfl rfl) ?_))
 refine wl_nil (q_n (k20 _ _ ?_))
 refine sx_condP rfl (fun h156 => ?_) (fun h156 => ?_)
 ·
  refine sx_skip ?_
  refine q_n (k19 _ _ ?_)
  refine sx_block ?_
  refine sx_seq fun K21 k21 => sx_region ?_
  refine mv rfl rfl ?_
  refine sx_lit2 rfl xelt59 rfl rfl rfl rfl (fun s22 ws22 ss22 fs22 cs22 => ?_)
  have ns22 := Own.norm (f := Value.string) (zs := [⟨#[67, 72, 70]⟩, ⟨#[69, 85, 82]⟩]) fs22
  have zws22 := cs22.size
  have f23 := hb_c.ext cs22
  have f24 := hvb.chg cwl12 (by omega)
  have f25 := f24.ext cs22
  refine sx_call rfl rfl Tryd.call76 (c_l01Str f23 f25 ns22.sv (by assumption) (by omega) (by omega) (by omega) (by first | omega | decide | simp) (by omega)) (fun v26 w26 p26 => ?_)
  obtain ⟨s26, i226, h226, rfl, xc_26, hx26, hi226, c26⟩ := p26
  have zw26 := c26.size
  refine av rfl rfl (wl_nil (q_n (k21 _ _ ?_)))
  refine sx_region ?_
  refine av rfl rfl (wl_nil ?_)
  have q27 := Chg.step (l := c) (h := (c + 1)) cwl12 cs22 (by omega)
  have q28 := Chg.step (l := c) (h := (c + 1)) q27 c26 (by omega)
  have f29 := hb_b2.ext cs22
  have f30 := f29.chg c26 (by omega)
  have hkk := hkn2 s26 (by assumption)
  have e1 : (if a = b then 1 else 0) = 1 := if_pos h156
  have e0 : (if s26 = (⟨#[85, 83, 68]⟩ : ByteArray) then 1 else 0) = 0 := if_neg hkk.2
  exact q_bn (fun a ha => ⟨_, by omega, s26, (⟨#[85, 83, 68]⟩), i226, h226, ha.sub (Sub.c 0 rfl (.c 2 rfl (.c 3 rfl (.c 4 rfl .nil)))), q28, xc_26, f30, rfl, hkk.1, by decide, by omega⟩)
 refine sx_exit ?_
 refine q_e (q_e (q_bx (q_n (k11 _ _ ?_))))
 refine sx_seq fun K31 k31 => sx_region ?_
 refine mv rfl rfl ?_
 have f32 := hvb.chg cwl12 (by omega)
 refine sx_call rfl rfl Tryd.call77 (c_l01Below hb_c f32 (by assumption) (by omega) (by omega) (by omega) (by omega)) (fun v33 w33 p33 => ?_)
 obtain ⟨x33, i233, h233, rfl, xc_33, hx33, hi233, c33⟩ := p33
 have zw33 := c33.size
 refine sp rfl (px_add rfl rfl (by omega)) ?_
 refine sx_call rfl rfl Tryd.call103 (c_sIntOf (by omega)) (fun v34 w34 p34 => ?_)
 obtain ⟨s34, rfl, os_34, c34⟩ := p34
 have zw34 := c34.size
 refine sx_alloc [.bool false, (.slice none 0 0)] rfl Tryd.zeroValue40 rfl (fun b35 w36 eb35 sb35 fb35 cb35 => ?_)
 have zw36 := cb35.size
 have f38 := os_34.ext cb35
 refine sx_store (vs := [.bool (ng (1 + x33)), s34]) rfl rfl fb35 rfl Tryd.sizeOf40 (nbl rfl) (one_cons rfl (one_cons f38.one one_nil)) (fun w37 sw37 fw37 cw37 => ?_)
 have zw37 := cw37.size
 have gw37 : Blk w37 b35 [.bool (ng (1 + x33)), s34] 40 := fw37
 refine wl_nil (q_n (k31 _ _ ?_))
 refine sx_seq fun K39 k39 => ?_
 have f42 := ((f32.chg c33 (by omega)).ext c34).ext cb35
 have f43 := f42.chg cw37 (by omega)
 have f44 := f38.chg cw37 (by omega)
 refine dx_region (fun w' => Chg c (b2 + 1) w37 w') (by kernel_rfl) (Chg.zero (Chg.drew _)) ?_
 have d45 := Chg.drew w37
 have s45 : Chg c (b2 + 1) w37 (World.drew w37) := Chg.zero (Chg.drew _)
 have y45 : (World.drew w37).heap.size = w37.heap.size := rfl
 generalize World.drew w37 = w45 at *
 have zw45 := d45.size
 refine dt 0 rfl rfl rfl rfl s45 (fun _ hS => px_move rfl) ?_
 refine dt 1 rfl rfl rfl rfl s45 (fun _ hS => px_move rfl) ?_
 refine dt 2 rfl rfl rfl rfl s45 (fun _ hS => px_load rfl ((gw37.chg hS (by omega)).loadA (vs := [.bool (ng (1 + x33)), s34]) (look_lit rfl) Tryd.isAgg40 Tryd.sizeOf40)) ?_
 refine dt 3 rfl rfl rfl rfl s45 (fun _ hS => px_move rfl) ?_
 refine dx_eff 4 rfl (by kernel_rfl) ?_
 refine sx_lit5 rfl xelt25 rfl rfl rfl rfl rfl rfl rfl rfl rfl rfl (fun s46 ws46 ss46 fs46 cs46 => ?_)
 have ns46 := Own.norm (f := (Value.int .i64)) (zs := [0, 1, 2, 3, 4]) fs46
 have zws46 := cs46.size
 have s47 : Chg c (b2 + 1) w37 ws46 := (Chg.zero (l := c) (h := (b2 + 1)) (d45.t cs46))
 refine wl_nil ?_
 refine dx_next s47 ?_
 refine dx_eff 5 rfl (by kernel_rfl) ?_
 have f49 := (xc_33.ext c34).ext cb35
 have f50 := f49.chg cw37 (by omega)
 have f52 := (f50.ext d45).ext cs46
 have f54 := (f43.ext d45).ext cs46
 refine sx_call rfl rfl Tryd.call104 (c_l01Pick f52 f54 ns46.sv (by assumption) (by omega) (by omega) (by omega) (by first | omega | simp) (by omega)) (fun v55 w55 p55 => ?_)
 obtain ⟨x55, i255, h255, rfl, xc_55, hx55, hi255, c55⟩ := p55
 have zw55 := c55.size
 have bx55 : 0 ≤ x55 ∧ x55 ≤ 4 := by have h9 := hx55; simp only [List.mem_cons, List.not_mem_nil, or_false] at h9; omega
 have q57 := Chg.step (l := c) (h := (b2 + 1)) (Chg.zero (l := c) (h := (b2 + 1)) (d45.t cs46)) c55 (by omega)
 have s56 : Chg c (b2 + 1) w37 w55 := q57
 refine wl_nil ?_
 refine dx_next s56 ?_
 refine dt 6 rfl rfl rfl rfl s56 (fun _ hS => px_build rfl (xbld42x0x1 rfl _)) ?_
 refine dt 7 rfl rfl rfl rfl s56 (fun _ hS => px_build rfl (xbld44x0x1x2 rfl rfl _)) ?_
 refine dx_eff 8 rfl (by kernel_rfl) ?_
 have f61 := ((hb_b2.chg c33 (by omega)).ext c34).ext cb35
 have f62 := f61.chg cw37 (by omega)
 have f64 := (f62.ext d45).ext cs46
 have f65 := f64.chg c55 (by omega)
 have f67 := (f44.ext d45).ext cs46
 have f68 := f67.chg c55 (by omega)
 refine sx_store (vs := [.string a, .string b, .bool (ng (1 + x33)), s34, .int .i64 x55]) rfl rfl f65 rfl Tryd.sizeOf44 (nbl rfl) (one_cons rfl (one_cons rfl (one_cons rfl (one_cons f68.one (o1 rfl))))) (fun w58 sw58 fw58 cw58 => ?_)
 have zw58 := cw58.size
 have gw58 : Blk w58 b2 [.string a, .string b, .bool (ng (1 + x33)), s34, .int .i64 x55] 44 := fw58
 have q70 := Chg.step (l := c) (h := (b2 + 1)) (Chg.zero (l := c) (h := (b2 + 1)) (d45.t cs46)) c55 (by omega)
 have q71 := Chg.step (l := c) (h := (b2 + 1)) q70 cw58 (by omega)
 have s69 : Chg c (b2 + 1) w37 w58 := q71
 refine wl_nil ?_
 refine dx_next s69 ?_
 refine dx_done (by kernel_rfl) ?_
 refine q_n (k39 _ _ ?_)
 refine sx_sub (Sub.c 2 rfl .nil) ?_
 refine sx_retc ?_
 refine sx_ret1 Tryd.results78 ⟨_, rfl, gw58.loadA (vs := [.string a, .string b, .bool (ng (1 + x33)), s34, .int .i64 x55]) (look_lit rfl) Tryd.isAgg44 Tryd.sizeOf44⟩ ?_
 have f72 := xc_55.chg cw58 (by omega)
 have q73 := Chg.step (l := c) (h := (c + 1)) cwl12 c33 (by omega)
 have q74 := Chg.step (l := c) (h := (c + 1)) q73 (c34.t cb35) (by omega)
 have q75 := Chg.step (l := c) (h := (c + 1)) q74 cw37 (by omega)
 have q76 := Chg.step (l := c) (h := (c + 1)) q75 (d45.t cs46) (by omega)
 have q77 := Chg.step (l := c) (h := (c + 1)) q76 c55 (by omega)
 have q78 := Chg.step (l := c) (h := (c + 1)) q77 cw58 (by omega)
 have f79 := f68.chg cw58 (by omega)
 exact ⟨_, _, _, (1 + x33), _, _, _, rfl, (Own.mono f79 (by omega) (by omega)), f72, ⟨by assumption, by assumption, by assumption⟩, by omega, by assumption, by omega, q78⟩

end Go.Proofs.YtlnemcbdbehehaaDoor
