/- Contracts of functions of the program: what each call returns, and that it changes nothing that was. Conditions: as each says. -/
import Derived.Test.YtomfgkfpihemlaaDoorTy
import Derived.Test.YtomfgkfpihemlaaDoorNatE
import Derived.Test.YtomfgkfpihemlaaDoorK0
import Derived.Test.YtomfgkfpihemlaaDoorK2
set_option linter.unusedVariables false
set_option linter.unusedSimpArgs false
namespace Go.Proofs.YtomfgkfpihemlaaDoor
open Go Go.RowKit
set_option maxRecDepth 100000
theorem law_MoneyTimes {w : World} {c1 : ByteArray} {n1 : Bool} {v1 : Value} {lv1 uv1 : Nat} {z1 : List Int} {k : Int} (hG0 : Glob w) (hv1 : Sl w lv1 uv1 v1 (z1)) (bc1 : c1.size ≤ 9223372036854775807) (bz1 : z1.length ≤ 9223372036854775807) (bik : -9223372036854775808 ≤ k ∧ k ≤ 9223372036854775807) :
  Ret Tryd.prog 9 [.agg #[.string c1, .bool n1, v1], .int .i64 k] w fun v w' => v = .bool (true) ∧ Chg 0 0 w w' := by
 have hv10 := hv1.fit
 have hG0l : 0 < w.heap.size := by obtain ⟨T, fz, h1⟩ := hG0; rcases Nat.lt_or_ge 0 w.heap.size with h2 | h2; exact h2; simp [Array.getElem?_eq_none h2] at h1
 refine sx_enter Tryd.func9 rfl Tryd.ntmps9 (Nat.le_of_ble_eq_true rfl) ?_
 refine sx_seq fun K1 k1 => sx_region ?_
 refine sx_box [.string c1, .bool n1, v1] rfl rfl rfl (fun b2 w3 eb2 sb2 fb2 cb2 => ?_)
 have zw3 := cb2.size
 refine sa rfl rfl rfl rfl ?_
 refine wl_nil (q_n (k1 _ _ ?_))
 refine sx_seq fun K4 k4 => sx_region ?_
 refine sa rfl rfl rfl rfl ?_
 refine wl_nil (q_n (k4 _ _ ?_))
 refine sx_seq fun K5 k5 => sx_region ?_
 refine sx_pure rfl rfl rfl (px_load rfl (fb2.loadA (vs := [.string c1, .bool n1, v1]) (look_lit rfl) Tryd.isAgg26 Tryd.sizeOf26)) ?_
 refine sm rfl rfl rfl rfl ?_
 have f6 := hv10.ext cb2
 refine sx_call rfl rfl Tryd.call15 (c_szMoney f6 (by omega) (by omega) (by omega)) (fun v7 w7 p7 => ?_)
 obtain ⟨r7, rfl, hr7, c7⟩ := p7
 have zw7 := c7.size
 refine sa rfl rfl rfl rfl ?_
 refine wl_nil (q_n (k5 _ _ ?_))
 refine sx_seq fun K8 k8 => ?_
 refine sx_seq fun K9 k9 => sx_region ?_
 refine sm rfl rfl rfl rfl ?_
 refine sx_pure rfl rfl rfl (px_lt rfl rfl) ?_
 refine wl_nil (q_n (k9 _ _ ?_))
 refine sx_condP rfl (fun h5145 => ?_) (fun h5145 => ?_)
 ·
  refine sx_seq fun K10 k10 => sx_region ?_
  refine sa rfl rfl rfl rfl ?_
  refine wl_nil (q_n (k10 _ _ ?_))
  refine sx_retc ?_
  refine q_r (sx_ret1 Tryd.results9 rfl ?_)
  exact ⟨rfl, (cb2.t c7)⟩
 ·
  refine sx_skip ?_
  refine q_n (k8 _ _ ?_)
  refine sx_seq fun K11 k11 => sx_region ?_
  have f12 := fb2.ext c7
  refine sx_pure rfl rfl rfl (px_load rfl (f12.loadA (vs := [.string c1, .bool n1, v1]) (look_lit rfl) Tryd.isAgg26 Tryd.sizeOf26)) ?_
  have f13 := f6.ext c7
  refine sx_call rfl rfl Tryd.call17 (c_toMoney f13 (by omega)) (fun v14 w14 p14 => ?_)
  obtain ⟨s214, rfl, os2_14, c14⟩ := p14
  have zw14 := c14.size
  refine sm rfl rfl rfl rfl ?_
  refine sx_call rfl rfl Tryd.call38 (c_sMoneyTimes os2_14.sv (by omega) (by omega)) (fun v15 w15 p15 => ?_)
  obtain ⟨s15, rfl, os_15, hl15, c15⟩ := p15
  have zw15 := c15.size
  refine sm rfl rfl rfl rfl ?_
  refine sx_pure rfl rfl rfl (px_extract (vs := [.agg #[.string ((mUn (uTimes k) c1 n1 z1).1), .bool ((mUn (uTimes k) c1 n1 z1).2.1), s15], .bool ((mUn (uTimes k) c1 n1 z1).2.2.2)]) rfl rfl) ?_
  refine sx_pure rfl rfl rfl (px_extract (vs := [.agg #[.string ((mUn (uTimes k) c1 n1 z1).1), .bool ((mUn (uTimes k) c1 n1 z1).2.1), s15], .bool ((mUn (uTimes k) c1 n1 z1).2.2.2)]) rfl rfl) ?_
  refine sx_alloc [.string (⟨#[]⟩), .bool false, (.slice none 0 0)] rfl Tryd.zeroValue31 rfl (fun b16 w17 eb16 sb16 fb16 cb16 => ?_)
  have zw17 := cb16.size
  have f19 := os_15.ext cb16
  refine sx_store (vs := [.string ((mUn (uTimes k) c1 n1 z1).1), .bool ((mUn (uTimes k) c1 n1 z1).2.1), s15]) rfl rfl fb16 rfl Tryd.sizeOf31 (Nat.le_of_ble_eq_true rfl) (one_cons rfl (one_cons rfl (one_cons f19.one one_nil))) (fun w18 sw18 fw18 cw18 => ?_)
  have zw18 := cw18.size
  have gw18 : Blk w18 b16 [.string ((mUn (uTimes k) c1 n1 z1).1), .bool ((mUn (uTimes k) c1 n1 z1).2.1), s15] 31 := fw18
  refine sa rfl rfl rfl rfl ?_
  refine wl_nil (q_n (k11 _ _ ?_))
  refine sx_sub (Sub.cons (t := 1) rfl (.cons (t := 2) rfl (.cons (t := 4) rfl (.cons (t := 6) rfl (.cons (t := 7) rfl (.nil)))))) ?_
  refine sx_seq fun K20 k20 => sx_region ?_
  have f21 := f12.ext c14
  have f22 := f21.ext c15
  have f23 := f22.ext cb16
  have f24 := f23.chg cw18 (by omega)
  refine sx_pure rfl rfl rfl (px_load rfl (f24.loadA (vs := [.string c1, .bool n1, v1]) (look_lit rfl) Tryd.isAgg26 Tryd.sizeOf26)) ?_
  have f25 := f13.ext c14
  have f26 := f25.ext c15
  have f27 := f26.ext cb16
  have f28 := f27.chg cw18 (by omega)
  refine sx_call rfl rfl Tryd.call17 (c_toMoney f28 (by omega)) (fun v29 w29 p29 => ?_)
  obtain ⟨s229, rfl, os2_29, c29⟩ := p29
  have zw29 := c29.size
  refine sx_alloc [.string (⟨#[]⟩), .bool false, (.slice none 0 0)] rfl Tryd.zeroValue31 rfl (fun b30 w31 eb30 sb30 fb30 cb30 => ?_)
  have zw31 := cb30.size
  have f33 := os2_29.ext cb30
  refine sx_store (vs := [.string c1, .bool n1, s229]) rfl rfl fb30 rfl Tryd.sizeOf31 (Nat.le_of_ble_eq_true rfl) (one_cons rfl (one_cons rfl (one_cons f33.one one_nil))) (fun w32 sw32 fw32 cw32 => ?_)
  have zw32 := cw32.size
  have gw32 : Blk w32 b30 [.string c1, .bool n1, s229] 31 := fw32
  refine wl_nil (q_n (k20 _ _ ?_))
  refine sx_seq fun K34 k34 => sx_region ?_
  refine sx_pure rfl rfl rfl (px_load rfl (gw32.loadA (vs := [.string c1, .bool n1, s229]) (look_lit rfl) Tryd.isAgg31 Tryd.sizeOf31)) ?_
  refine sm rfl rfl rfl rfl ?_
  have f35 := hG0.ext cb2
  have f36 := f35.ext c7
  have f37 := f36.ext c14
  have f38 := f37.ext c15
  have f39 := f38.ext cb16
  have f40 := f39.chg cw18 (by omega)
  have f41 := f40.ext c29
  have f42 := f41.ext cb30
  have f43 := f42.chg cw32 (by omega)
  have f44 := f33.chg cw32 (by omega)
  refine sx_call rfl rfl Tryd.call39 (c_iMoneyTimes f43 f44.sv (by omega) (by omega)) (fun v45 w45 p45 => ?_)
  obtain ⟨s45, rfl, os_45, hl45, c45⟩ := p45
  have zw45 := c45.size
  refine sm rfl rfl rfl rfl ?_
  refine sx_pure rfl rfl rfl (px_extract (vs := [.agg #[.string ((mUn (uTimes k) c1 n1 z1).1), .bool ((mUn (uTimes k) c1 n1 z1).2.1), s45], .bool ((mUn (uTimes k) c1 n1 z1).2.2.2)]) rfl rfl) ?_
  refine sx_pure rfl rfl rfl (px_extract (vs := [.agg #[.string ((mUn (uTimes k) c1 n1 z1).1), .bool ((mUn (uTimes k) c1 n1 z1).2.1), s45], .bool ((mUn (uTimes k) c1 n1 z1).2.2.2)]) rfl rfl) ?_
  refine sx_alloc [.string (⟨#[]⟩), .bool false, (.slice none 0 0)] rfl Tryd.zeroValue31 rfl (fun b46 w47 eb46 sb46 fb46 cb46 => ?_)
  have zw47 := cb46.size
  have f49 := os_45.ext cb46
  refine sx_store (vs := [.string ((mUn (uTimes k) c1 n1 z1).1), .bool ((mUn (uTimes k) c1 n1 z1).2.1), s45]) rfl rfl fb46 rfl Tryd.sizeOf31 (Nat.le_of_ble_eq_true rfl) (one_cons rfl (one_cons rfl (one_cons f49.one one_nil))) (fun w48 sw48 fw48 cw48 => ?_)
  have zw48 := cw48.size
  have gw48 : Blk w48 b46 [.string ((mUn (uTimes k) c1 n1 z1).1), .bool ((mUn (uTimes k) c1 n1 z1).2.1), s45] 31 := fw48
  refine sa rfl rfl rfl rfl ?_
  refine wl_nil (q_n (k34 _ _ ?_))
  refine sx_sub (Sub.cons (t := 1) rfl (.cons (t := 2) rfl (.cons (t := 4) rfl (.cons (t := 6) rfl (.cons (t := 7) rfl (.cons (t := 8) rfl (.cons (t := 9) rfl (.cons (t := 10) rfl (.nil))))))))) ?_
  refine sx_seq fun K50 k50 => ?_
  refine sx_seq fun K51 k51 => sx_region ?_
  refine sx_pure rfl rfl rfl (px_load rfl (gw48.loadA (vs := [.string ((mUn (uTimes k) c1 n1 z1).1), .bool ((mUn (uTimes k) c1 n1 z1).2.1), s45]) (look_lit rfl) Tryd.isAgg31 Tryd.sizeOf31)) ?_
  have f52 := gw18.ext c29
  have f53 := f52.ext cb30
  have f54 := f53.chg cw32 (by omega)
  have f55 := f54.ext c45
  have f56 := f55.ext cb46
  have f57 := f56.chg cw48 (by omega)
  refine sx_pure rfl rfl rfl (px_load rfl (f57.loadA (vs := [.string ((mUn (uTimes k) c1 n1 z1).1), .bool ((mUn (uTimes k) c1 n1 z1).2.1), s15]) (look_lit rfl) Tryd.isAgg31 Tryd.sizeOf31)) ?_
  have f58 := f49.chg cw48 (by omega)
  have f59 := f19.chg cw18 (by omega)
  have f60 := f59.ext c29
  have f61 := f60.ext cb30
  have f62 := f61.chg cw32 (by omega)
  have f63 := f62.ext c45
  have f64 := f63.ext cb46
  have f65 := f64.chg cw48 (by omega)
  refine sx_call rfl rfl Tryd.call19 (c_eqMoney f58.sv f65.sv (by omega)) (fun v66 w66 p66 => ?_)
  obtain ⟨rfl, c66⟩ := p66
  have zw66 := c66.size
  refine sx_pure rfl rfl rfl (px_notP rfl) ?_
  refine sm rfl rfl rfl rfl ?_
  have h5151 : ¬ (¬ (((mUn (uTimes k) c1 n1 z1).1) = ((mUn (uTimes k) c1 n1 z1).1) ∧ ((mUn (uTimes k) c1 n1 z1).2.1) = ((mUn (uTimes k) c1 n1 z1).2.1) ∧ ((mUn (uTimes k) c1 n1 z1).2.2.1) = ((mUn (uTimes k) c1 n1 z1).2.2.1))) := by simp [mk_length]
  refine sx_tmpPF (t := 40) rfl h5151 ?_
  refine sx_guardT rfl rfl rfl ?_
  refine sm rfl rfl rfl rfl ?_
  refine sx_guardT rfl rfl rfl ?_
  refine sm rfl rfl rfl rfl ?_
  refine sx_guardT rfl rfl rfl ?_
  refine sx_pure rfl rfl rfl (px_neB Tryd.underlying4 rfl rfl) ?_
  refine sx_pure rfl rfl rfl (px_pick rfl rfl) ?_
  refine wl_nil (q_n (k51 _ _ ?_))
  refine sx_sub (Sub.cons (t := 1) rfl (.cons (t := 2) rfl (.cons (t := 4) rfl (.cons (t := 6) rfl (.cons (t := 7) rfl (.cons (t := 8) rfl (.cons (t := 9) rfl (.cons (t := 10) rfl (.cons (t := 44) rfl (.nil)))))))))) ?_
  have h5151x1 : (((mUn (uTimes k) c1 n1 z1).2.2.2) != ((mUn (uTimes k) c1 n1 z1).2.2.2)) = false := by simp [mk_length]
  refine sx_condBF rfl h5151x1 ?_
  refine sx_skip ?_
  refine q_n (k50 _ _ ?_)
  refine sx_seq fun K67 k67 => ?_
  refine sx_seq fun K68 k68 => ?_
  have f69 := f43.ext c45
  have f70 := f69.ext cb46
  have f71 := f70.chg cw48 (by omega)
  have f72 := f71.ext c66
  have f73 := f24.ext c29
  have f74 := f73.ext cb30
  have f75 := f74.chg cw32 (by omega)
  have f76 := f75.ext c45
  have f77 := f76.ext cb46
  have f78 := f77.chg cw48 (by omega)
  have f79 := f78.ext c66
  have f80 := f57.ext c66
  have f81 := gw32.ext c45
  have f82 := f81.ext cb46
  have f83 := f82.chg cw48 (by omega)
  have f84 := f83.ext c66
  have f85 := gw48.ext c66
  have f86 := f28.ext c29
  have f87 := f86.ext cb30
  have f88 := f87.chg cw32 (by omega)
  have f89 := f88.ext c45
  have f90 := f89.ext cb46
  have f91 := f90.chg cw48 (by omega)
  have f92 := f91.ext c66
  have f93 := os2_14.ext c15
  have f94 := f93.ext cb16
  have f95 := f94.chg cw18 (by omega)
  have f96 := f95.ext c29
  have f97 := f96.ext cb30
  have f98 := f97.chg cw32 (by omega)
  have f99 := f98.ext c45
  have f100 := f99.ext cb46
  have f101 := f100.chg cw48 (by omega)
  have f102 := f101.ext c66
  have f103 := f65.ext c66
  have f104 := f44.ext c45
  have f105 := f104.ext cb46
  have f106 := f105.chg cw48 (by omega)
  have f107 := f106.ext c66
  have f108 := f58.ext c66
  refine dx_region (fun w' => Chg 0 0 w66 w') (by kernel_rfl) (Chg.zero (Chg.drew _)) ?_
  have d109 := Chg.drew w66
  have s109 : Chg 0 0 w66 (World.drew w66) := Chg.zero (Chg.drew _)
  have y109 : (World.drew w66).heap.size = w66.heap.size := rfl
  generalize World.drew w66 = w109 at *
  have zw109 := d109.size
  refine dx_take 0 rfl rfl rfl rfl (by kernel_rfl) (by kernel_rfl) (by kernel_rfl) s109 (fun _ hS => px_load rfl ((f84.chg hS (by omega)).loadA (vs := [.string c1, .bool n1, s229]) (look_lit rfl) Tryd.isAgg31 Tryd.sizeOf31)) ?_
  refine dx_take 1 rfl rfl rfl rfl (by kernel_rfl) (by kernel_rfl) (by kernel_rfl) s109 (fun _ hS => px_load rfl ((f79.chg hS (by omega)).loadA (vs := [.string c1, .bool n1, v1]) (look_lit rfl) Tryd.isAgg26 Tryd.sizeOf26)) ?_
  refine dx_eff 2 rfl (by kernel_rfl) ?_
  have f110 := f92.ext d109
  refine sx_call rfl rfl Tryd.call17 (c_toMoney f110 (by omega)) (fun v111 w111 p111 => ?_)
  obtain ⟨s2111, rfl, os2_111, c111⟩ := p111
  have zw111 := c111.size
  have s112 : Chg 0 0 w66 w111 := (d109.t c111)
  refine wl_nil ?_
  refine dx_next s112 ?_
  refine dx_eff 3 rfl (by kernel_rfl) ?_
  have f113 := f107.ext d109
  have f114 := f113.ext c111
  refine sx_call rfl rfl Tryd.call19 (c_eqMoney f114.sv os2_111.sv (by omega)) (fun v115 w115 p115 => ?_)
  obtain ⟨rfl, c115⟩ := p115
  have zw115 := c115.size
  have s116 : Chg 0 0 w66 w115 := ((d109.t c111).t c115)
  refine wl_nil ?_
  refine dx_next s116 ?_
  refine dx_take 4 rfl rfl rfl rfl (by kernel_rfl) (by kernel_rfl) (by kernel_rfl) s116 (fun _ hS => px_notP rfl) ?_
  refine dx_done (by kernel_rfl) ?_
  refine q_n (k68 _ _ ?_)
  have h5154 : ¬ (¬ (c1 = c1 ∧ n1 = n1 ∧ z1 = z1)) := by simp [mk_length]
  refine sx_condPF rfl h5154 ?_
  refine sx_skip ?_
  refine q_n (k67 _ _ ?_)
  refine sx_seq fun K117 k117 => sx_region ?_
  refine sa rfl rfl rfl rfl ?_
  refine wl_nil (q_n (k117 _ _ ?_))
  refine sx_sub (Sub.cons (t := 1) rfl (.cons (t := 2) rfl (.cons (t := 4) rfl (.cons (t := 6) rfl (.cons (t := 7) rfl (.cons (t := 8) rfl (.cons (t := 9) rfl (.cons (t := 10) rfl (.cons (t := 11) rfl (.nil)))))))))) ?_
  refine sx_seq fun K118 k118 => sx_region ?_
  have f119 := f84.ext d109
  have f120 := f119.ext c111
  have f121 := f120.ext c115
  refine sx_pure rfl rfl rfl (px_load rfl (f121.loadA (vs := [.string c1, .bool n1, s229]) (look_lit rfl) Tryd.isAgg31 Tryd.sizeOf31)) ?_
  refine sm rfl rfl rfl rfl ?_
  have f122 := f114.ext c115
  refine sx_call rfl rfl Tryd.call27 (c_markMoney f122 (by omega) (by omega)) (fun v123 w123 p123 => ?_)
  obtain ⟨rfl, ov1_123, c123⟩ := p123
  have zw123 := c123.size
  refine sa rfl rfl rfl rfl ?_
  refine wl_nil (q_n (k118 _ _ ?_))
  refine sx_seq fun K124 k124 => ?_
  refine sx_seq fun K125 k125 => sx_region ?_
  refine sm rfl rfl rfl rfl ?_
  refine sx_pure rfl rfl rfl (px_lt rfl rfl) ?_
  refine sm rfl rfl rfl rfl ?_
  have h5159 : ¬ ((1 + ↑(z1).length : Int) < 0) := by omega
  refine sx_tmpPF (t := 55) rfl h5159 ?_
  refine sx_guardT rfl rfl rfl ?_
  have f126 := f85.ext d109
  have f127 := f126.ext c111
  have f128 := f127.ext c115
  have f129 := f128.chg c123 (by omega)
  refine sx_pure rfl rfl rfl (px_load rfl (f129.loadA (vs := [.string ((mUn (uTimes k) c1 n1 z1).1), .bool ((mUn (uTimes k) c1 n1 z1).2.1), s45]) (look_lit rfl) Tryd.isAgg31 Tryd.sizeOf31)) ?_
  refine sx_guardT rfl rfl rfl ?_
  have f130 := f80.ext d109
  have f131 := f130.ext c111
  have f132 := f131.ext c115
  have f133 := f132.chg c123 (by omega)
  refine sx_pure rfl rfl rfl (px_load rfl (f133.loadA (vs := [.string ((mUn (uTimes k) c1 n1 z1).1), .bool ((mUn (uTimes k) c1 n1 z1).2.1), s15]) (look_lit rfl) Tryd.isAgg31 Tryd.sizeOf31)) ?_
  refine sx_guardT rfl rfl rfl ?_
  have f134 := f108.ext d109
  have f135 := f134.ext c111
  have f136 := f135.ext c115
  have f137 := f136.chg c123 (by omega)
  have f138 := f103.ext d109
  have f139 := f138.ext c111
  have f140 := f139.ext c115
  have f141 := f140.chg c123 (by omega)
  refine sx_call rfl rfl Tryd.call19 (c_eqMoney f137.sv f141.sv (by omega)) (fun v142 w142 p142 => ?_)
  obtain ⟨rfl, c142⟩ := p142
  have zw142 := c142.size
  refine sx_guardT rfl rfl rfl ?_
  refine sx_pure rfl rfl rfl (px_notP rfl) ?_
  refine sx_pure rfl rfl rfl (px_pick rfl rfl) ?_
  refine sm rfl rfl rfl rfl ?_
  have h5159x1 : ¬ (¬ (((mUn (uTimes k) c1 n1 z1).1) = ((mUn (uTimes k) c1 n1 z1).1) ∧ ((mUn (uTimes k) c1 n1 z1).2.1) = ((mUn (uTimes k) c1 n1 z1).2.1) ∧ ((mUn (uTimes k) c1 n1 z1).2.2.1) = ((mUn (uTimes k) c1 n1 z1).2.2.1))) := by simp [mk_length]
  refine sx_tmpPF (t := 61) rfl h5159x1 ?_
  refine sx_guardT rfl rfl rfl ?_
  refine sm rfl rfl rfl rfl ?_
  refine sx_guardT rfl rfl rfl ?_
  refine sm rfl rfl rfl rfl ?_
  refine sx_guardT rfl rfl rfl ?_
  refine sx_pure rfl rfl rfl (px_neB Tryd.underlying4 rfl rfl) ?_
  refine sx_pure rfl rfl rfl (px_pick rfl rfl) ?_
  refine wl_nil (q_n (k125 _ _ ?_))
  refine sx_sub (Sub.cons (t := 1) rfl (.cons (t := 2) rfl (.cons (t := 4) rfl (.cons (t := 6) rfl (.cons (t := 7) rfl (.cons (t := 9) rfl (.cons (t := 65) rfl (.nil)))))))) ?_
  have h5159x2 : (((mUn (uTimes k) c1 n1 z1).2.2.2) != ((mUn (uTimes k) c1 n1 z1).2.2.2)) = false := by simp [mk_length]
  refine sx_condBF rfl h5159x2 ?_
  refine sx_skip ?_
  refine q_n (k124 _ _ ?_)
  refine sx_seq fun K143 k143 => sx_region ?_
  refine sa rfl rfl rfl rfl ?_
  refine wl_nil (q_n (k143 _ _ ?_))
  refine sx_seq fun K144 k144 => sx_region ?_
  have f145 := f129.ext c142
  refine sx_pure rfl rfl rfl (px_load rfl (f145.loadA (vs := [.string ((mUn (uTimes k) c1 n1 z1).1), .bool ((mUn (uTimes k) c1 n1 z1).2.1), s45]) (look_lit rfl) Tryd.isAgg31 Tryd.sizeOf31)) ?_
  refine sm rfl rfl rfl rfl ?_
  have f146 := f137.ext c142
  refine sx_call rfl rfl Tryd.call27 (c_markMoney f146 (by omega) (by omega)) (fun v147 w147 p147 => ?_)
  obtain ⟨rfl, ov1_147, c147⟩ := p147
  have zw147 := c147.size
  refine sa rfl rfl rfl rfl ?_
  refine wl_nil (q_n (k144 _ _ ?_))
  refine sx_seq fun K148 k148 => sx_region ?_
  refine sa rfl rfl rfl rfl ?_
  refine wl_nil (q_n (k148 _ _ ?_))
  refine sx_seq fun K149 k149 => sx_region ?_
  have f150 := f145.chg c147 (by omega)
  refine sx_pure rfl rfl rfl (px_load rfl (f150.loadA (vs := [.string ((mUn (uTimes k) c1 n1 z1).1), .bool ((mUn (uTimes k) c1 n1 z1).2.1), s45]) (look_lit rfl) Tryd.isAgg31 Tryd.sizeOf31)) ?_
  refine sm rfl rfl rfl rfl ?_
  refine sx_call rfl rfl Tryd.call28 (c_heldMoney ov1_147.sv (by first | omega | (simp only [mk_length]; omega)) (by omega) (by first | assumption | simp [mk_length])) (fun v151 w151 p151 => ?_)
  obtain ⟨rfl, c151⟩ := p151
  have zw151 := c151.size
  refine sa rfl rfl rfl rfl ?_
  refine wl_nil (q_n (k149 _ _ ?_))
  refine sx_sub (Sub.cons (t := 1) rfl (.cons (t := 2) rfl (.cons (t := 4) rfl (.cons (t := 6) rfl (.cons (t := 7) rfl (.cons (t := 9) rfl (.cons (t := 12) rfl (.cons (t := 13) rfl (.nil))))))))) ?_
  refine sx_seq fun K152 k152 => ?_
  refine sx_seq fun K153 k153 => sx_region ?_
  refine sm rfl rfl rfl rfl ?_
  refine sx_pure rfl rfl rfl (px_lt rfl rfl) ?_
  refine wl_nil (q_n (k153 _ _ ?_))
  have h5166 : ¬ ((1 + ↑((mk 1 (((mUn (uTimes k) c1 n1 z1).2.2.1)).length)).length : Int) < 0) := by omega
  refine sx_condPF rfl h5166 ?_
  refine sx_skip ?_
  refine q_n (k152 _ _ ?_)
  refine sx_seq fun K154 k154 => ?_
  refine sx_seq fun K155 k155 => sx_region ?_
  refine sm rfl rfl rfl rfl ?_
  refine sm rfl rfl rfl rfl ?_
  refine sx_pure rfl rfl rfl (px_ne rfl rfl) ?_
  refine wl_nil (q_n (k155 _ _ ?_))
  have h5169 : ¬ ((1 + ↑((mk 1 (((mUn (uTimes k) c1 n1 z1).2.2.1)).length)).length : Int) ≠ 1 + ↑(((mUn (uTimes k) c1 n1 z1).2.2.1)).length) := by simp [mk_length]
  refine sx_condPF rfl h5169 ?_
  refine sx_skip ?_
  refine q_n (k154 _ _ ?_)
  refine sx_seq fun K156 k156 => sx_region ?_
  have f157 := f79.ext d109
  have f158 := f157.ext c111
  have f159 := f158.ext c115
  have f160 := f159.chg c123 (by omega)
  have f161 := f160.ext c142
  have f162 := f161.chg c147 (by omega)
  have f163 := f162.ext c151
  refine sx_pure rfl rfl rfl (px_load rfl (f163.loadA (vs := [.string c1, .bool n1, v1]) (look_lit rfl) Tryd.isAgg26 Tryd.sizeOf26)) ?_
  have f164 := f110.ext c111
  have f165 := f164.ext c115
  have f166 := f165.chg c123 (by omega)
  have f167 := f166.ext c142
  have f168 := f167.chg c147 (by omega)
  have f169 := f168.ext c151
  refine sx_call rfl rfl Tryd.call17 (c_toMoney f169 (by omega)) (fun v170 w170 p170 => ?_)
  obtain ⟨s2170, rfl, os2_170, c170⟩ := p170
  have zw170 := c170.size
  refine sm rfl rfl rfl rfl ?_
  have f171 := f72.ext d109
  have f172 := f171.ext c111
  have f173 := f172.ext c115
  have f174 := f173.chg c123 (by omega)
  have f175 := f174.ext c142
  have f176 := f175.chg c147 (by omega)
  have f177 := f176.ext c151
  have f178 := f177.ext c170
  refine sx_call rfl rfl Tryd.call39 (c_iMoneyTimes f178 os2_170.sv (by omega) (by omega)) (fun v179 w179 p179 => ?_)
  obtain ⟨s179, rfl, os_179, hl179, c179⟩ := p179
  have zw179 := c179.size
  refine sm rfl rfl rfl rfl ?_
  refine sx_pure rfl rfl rfl (px_extract (vs := [.agg #[.string ((mUn (uTimes k) c1 n1 z1).1), .bool ((mUn (uTimes k) c1 n1 z1).2.1), s179], .bool ((mUn (uTimes k) c1 n1 z1).2.2.2)]) rfl rfl) ?_
  refine sx_pure rfl rfl rfl (px_extract (vs := [.agg #[.string ((mUn (uTimes k) c1 n1 z1).1), .bool ((mUn (uTimes k) c1 n1 z1).2.1), s179], .bool ((mUn (uTimes k) c1 n1 z1).2.2.2)]) rfl rfl) ?_
  refine sx_alloc [.string (⟨#[]⟩), .bool false, (.slice none 0 0)] rfl Tryd.zeroValue31 rfl (fun b180 w181 eb180 sb180 fb180 cb180 => ?_)
  have zw181 := cb180.size
  have f183 := os_179.ext cb180
  refine sx_store (vs := [.string ((mUn (uTimes k) c1 n1 z1).1), .bool ((mUn (uTimes k) c1 n1 z1).2.1), s179]) rfl rfl fb180 rfl Tryd.sizeOf31 (Nat.le_of_ble_eq_true rfl) (one_cons rfl (one_cons rfl (one_cons f183.one one_nil))) (fun w182 sw182 fw182 cw182 => ?_)
  have zw182 := cw182.size
  have gw182 : Blk w182 b180 [.string ((mUn (uTimes k) c1 n1 z1).1), .bool ((mUn (uTimes k) c1 n1 z1).2.1), s179] 31 := fw182
  refine sa rfl rfl rfl rfl ?_
  refine wl_nil (q_n (k156 _ _ ?_))
  refine sx_sub (Sub.cons (t := 4) rfl (.cons (t := 6) rfl (.cons (t := 7) rfl (.cons (t := 9) rfl (.cons (t := 12) rfl (.cons (t := 13) rfl (.cons (t := 14) rfl (.cons (t := 15) rfl (.nil))))))))) ?_
  refine sx_seq fun K184 k184 => ?_
  refine sx_seq fun K185 k185 => sx_region ?_
  refine sx_pure rfl rfl rfl (px_load rfl (gw182.loadA (vs := [.string ((mUn (uTimes k) c1 n1 z1).1), .bool ((mUn (uTimes k) c1 n1 z1).2.1), s179]) (look_lit rfl) Tryd.isAgg31 Tryd.sizeOf31)) ?_
  have f186 := f133.ext c142
  have f187 := f186.chg c147 (by omega)
  have f188 := f187.ext c151
  have f189 := f188.ext c170
  have f190 := f189.ext c179
  have f191 := f190.ext cb180
  have f192 := f191.chg cw182 (by omega)
  refine sx_pure rfl rfl rfl (px_load rfl (f192.loadA (vs := [.string ((mUn (uTimes k) c1 n1 z1).1), .bool ((mUn (uTimes k) c1 n1 z1).2.1), s15]) (look_lit rfl) Tryd.isAgg31 Tryd.sizeOf31)) ?_
  have f193 := f183.chg cw182 (by omega)
  have f194 := f141.ext c142
  have f195 := f194.chg c147 (by omega)
  have f196 := f195.ext c151
  have f197 := f196.ext c170
  have f198 := f197.ext c179
  have f199 := f198.ext cb180
  have f200 := f199.chg cw182 (by omega)
  refine sx_call rfl rfl Tryd.call19 (c_eqMoney f193.sv f200.sv (by omega)) (fun v201 w201 p201 => ?_)
  obtain ⟨rfl, c201⟩ := p201
  have zw201 := c201.size
  refine sx_pure rfl rfl rfl (px_notP rfl) ?_
  refine sm rfl rfl rfl rfl ?_
  have h5173 : ¬ (¬ (((mUn (uTimes k) c1 n1 z1).1) = ((mUn (uTimes k) c1 n1 z1).1) ∧ ((mUn (uTimes k) c1 n1 z1).2.1) = ((mUn (uTimes k) c1 n1 z1).2.1) ∧ ((mUn (uTimes k) c1 n1 z1).2.2.1) = ((mUn (uTimes k) c1 n1 z1).2.2.1))) := by simp [mk_length]
  refine sx_tmpPF (t := 88) rfl h5173 ?_
  refine sx_guardT rfl rfl rfl ?_
  refine sm rfl rfl rfl rfl ?_
  refine sx_guardT rfl rfl rfl ?_
  refine sm rfl rfl rfl rfl ?_
  refine sx_guardT rfl rfl rfl ?_
  refine sx_pure rfl rfl rfl (px_neB Tryd.underlying4 rfl rfl) ?_
  refine sx_pure rfl rfl rfl (px_pick rfl rfl) ?_
  refine wl_nil (q_n (k185 _ _ ?_))
  refine sx_sub (Sub.cons (t := 4) rfl (.cons (t := 9) rfl (.cons (t := 12) rfl (.cons (t := 13) rfl (.cons (t := 92) rfl (.nil)))))) ?_
  have h5173x1 : (((mUn (uTimes k) c1 n1 z1).2.2.2) != ((mUn (uTimes k) c1 n1 z1).2.2.2)) = false := by simp [mk_length]
  refine sx_condBF rfl h5173x1 ?_
  refine sx_skip ?_
  refine q_n (k184 _ _ ?_)
  refine sx_seq fun K202 k202 => sx_region ?_
  refine sa rfl rfl rfl rfl ?_
  refine wl_nil (q_n (k202 _ _ ?_))
  refine sx_seq fun K203 k203 => sx_region ?_
  have f204 := f150.ext c151
  have f205 := f204.ext c170
  have f206 := f205.ext c179
  have f207 := f206.ext cb180
  have f208 := f207.chg cw182 (by omega)
  have f209 := f208.ext c201
  refine sx_pure rfl rfl rfl (px_load rfl (f209.loadA (vs := [.string ((mUn (uTimes k) c1 n1 z1).1), .bool ((mUn (uTimes k) c1 n1 z1).2.1), s45]) (look_lit rfl) Tryd.isAgg31 Tryd.sizeOf31)) ?_
  refine sm rfl rfl rfl rfl ?_
  have f210 := ov1_147.ext c151
  have f211 := f210.ext c170
  have f212 := f211.ext c179
  have f213 := f212.ext cb180
  have f214 := f213.chg cw182 (by omega)
  have f215 := f214.ext c201
  refine sx_call rfl rfl Tryd.call28 (c_heldMoney f215.sv (by first | omega | (simp only [mk_length]; omega)) (by omega) (by first | assumption | simp [mk_length])) (fun v216 w216 p216 => ?_)
  obtain ⟨rfl, c216⟩ := p216
  have zw216 := c216.size
  refine sa rfl rfl rfl rfl ?_
  refine wl_nil (q_n (k203 _ _ ?_))
  refine sx_seq fun K217 k217 => ?_
  refine sx_seq fun K218 k218 => sx_region ?_
  refine sm rfl rfl rfl rfl ?_
  refine sx_pure rfl rfl rfl (px_lt rfl rfl) ?_
  refine wl_nil (q_n (k218 _ _ ?_))
  have h5178 : ¬ ((1 + ↑((mk 1 (((mUn (uTimes k) c1 n1 z1).2.2.1)).length)).length : Int) < 0) := by omega
  refine sx_condPF rfl h5178 ?_
  refine sx_skip ?_
  refine q_n (k217 _ _ ?_)
  refine sx_seq fun K219 k219 => ?_
  refine sx_seq fun K220 k220 => sx_region ?_
  refine sm rfl rfl rfl rfl ?_
  refine sm rfl rfl rfl rfl ?_
  refine sx_pure rfl rfl rfl (px_ne rfl rfl) ?_
  refine wl_nil (q_n (k220 _ _ ?_))
  have h5181 : ¬ ((1 + ↑((mk 1 (((mUn (uTimes k) c1 n1 z1).2.2.1)).length)).length : Int) ≠ 1 + ↑(((mUn (uTimes k) c1 n1 z1).2.2.1)).length) := by simp [mk_length]
  refine sx_condPF rfl h5181 ?_
  refine sx_skip ?_
  refine q_n (k219 _ _ ?_)
  refine sx_seq fun K221 k221 => sx_region ?_
  refine sa rfl rfl rfl rfl ?_
  refine wl_nil (q_n (k221 _ _ ?_))
  refine sx_retc ?_
  refine sx_ret1 Tryd.results9 rfl ?_
  have q222 := Chg.step (l := 0) (h := 0) (Chg.zero (l := 0) (h := 0) ((((cb2.t c7).t c14).t c15).t cb16)) cw18 (by omega)
  have q223 := Chg.step (l := 0) (h := 0) q222 (c29.t cb30) (by omega)
  have q224 := Chg.step (l := 0) (h := 0) q223 cw32 (by omega)
  have q225 := Chg.step (l := 0) (h := 0) q224 (c45.t cb46) (by omega)
  have q226 := Chg.step (l := 0) (h := 0) q225 cw48 (by omega)
  have q227 := Chg.step (l := 0) (h := 0) q226 (((c66.t d109).t c111).t c115) (by omega)
  have q228 := Chg.step (l := 0) (h := 0) q227 c123 (by omega)
  have q229 := Chg.step (l := 0) (h := 0) q228 c142 (by omega)
  have q230 := Chg.step (l := 0) (h := 0) q229 c147 (by omega)
  have q231 := Chg.step (l := 0) (h := 0) q230 (((c151.t c170).t c179).t cb180) (by omega)
  have q232 := Chg.step (l := 0) (h := 0) q231 cw182 (by omega)
  have q233 := Chg.step (l := 0) (h := 0) q232 (c201.t c216) (by omega)
  exact ⟨rfl, q233⟩

end Go.Proofs.YtomfgkfpihemlaaDoor
