/- Contracts of functions of the program: what each call returns, and that it changes nothing that was. Conditions: as each says. -/
import Derived.Test.YteiifmkclokgnaaTy
import Derived.Test.YteiifmkclokgnaaNatH
import Derived.Test.YteiifmkclokgnaaSxB
import Derived.Test.YteiifmkclokgnaaRm
import Derived.Test.YteiifmkclokgnaaK0
import Derived.Test.YteiifmkclokgnaaK1
import Derived.Test.YteiifmkclokgnaaK3
import Derived.Test.YteiifmkclokgnaaK4
set_option linter.unusedVariables false
set_option linter.unusedSimpArgs false
namespace Go.Proofs.Yteiifmkclokgnaa
open Go Go.RowKit
set_option maxRecDepth 100000
theorem law_FairShare {w : World} {n1 : Bool} {v1 : Value} {lv1 uv1 : Nat} {z1 : List Int} {vw : Value} {lvw uvw : Nat} {ws : List Int} {i : Int} (hv1 : Sl w lv1 uv1 v1 (z1)) (hvw : Sl w lvw uvw vw (ws)) (bz1 : z1.length ≤ 9223372036854775807) (bws : ws.length ≤ 9223372036854775807) (bii : -9223372036854775808 ≤ i ∧ i ≤ 9223372036854775807) :
  Ret Try.prog 10 [.agg #[.bool n1, v1], vw, .int .i64 i] w fun v w' => v = .bool (true) ∧ Chg 0 0 w w' := by
 have hv10 := hv1.fit
 have hvw0 := hvw.fit
 refine sx_enter Try.func10 rfl Try.ntmps10 (Nat.le_of_ble_eq_true rfl) ?_
 refine sx_seq fun K1 k1 => sx_region ?_
 refine sx_box [.bool n1, v1] rfl rfl rfl (fun b2 w3 eb2 sb2 fb2 cb2 => ?_)
 have zw3 := cb2.size
 refine sa rfl rfl rfl rfl ?_
 refine wl_nil (q_n (k1 _ _ ?_))
 refine sx_seq fun K4 k4 => ?_
 refine sx_seq fun K5 k5 => sx_region ?_
 refine sm rfl rfl rfl rfl ?_
 have f6 := hvw0.ext cb2
 refine sx_pure rfl rfl rfl (px_len rfl Try.underlying22 f6) ?_
 refine sx_pure rfl rfl rfl (px_gt rfl rfl) ?_
 refine wl_nil (q_n (k5 _ _ ?_))
 refine sx_condP rfl (fun h6001 => ?_) (fun h6001 => ?_)
 ·
  refine sx_seq fun K7 k7 => sx_region ?_
  refine sa rfl rfl rfl rfl ?_
  refine wl_nil (q_n (k7 _ _ ?_))
  refine sx_retc ?_
  refine q_r (sx_ret1 Try.results10 rfl ?_)
  exact ⟨rfl, cb2⟩
 ·
  refine sx_skip ?_
  refine q_n (k4 _ _ ?_)
  refine sx_seq fun K8 k8 => sx_region ?_
  refine sa rfl rfl rfl rfl ?_
  refine wl_nil (q_n (k8 _ _ ?_))
  refine sx_seq fun K9 k9 => sx_region ?_
  refine sx_pure rfl rfl rfl (px_load rfl (fb2.loadA (vs := [.bool n1, v1]) (look_lit rfl) Try.isAgg24 Try.sizeOf24)) ?_
  refine sm rfl rfl rfl rfl ?_
  have f10 := hv10.ext cb2
  refine sx_call rfl rfl Try.call40 (c_szSigned f10 (by omega) (by omega)) (fun v11 w11 p11 => ?_)
  obtain ⟨r11, rfl, hr11, c11⟩ := p11
  have zw11 := c11.size
  refine sa rfl rfl rfl rfl ?_
  refine wl_nil (q_n (k9 _ _ ?_))
  refine sx_seq fun K12 k12 => ?_
  refine sx_seq fun K13 k13 => sx_region ?_
  refine sm rfl rfl rfl rfl ?_
  refine sx_pure rfl rfl rfl (px_lt rfl rfl) ?_
  refine wl_nil (q_n (k13 _ _ ?_))
  refine sx_condP rfl (fun h6006 => ?_) (fun h6006 => ?_)
  ·
   refine sx_seq fun K14 k14 => sx_region ?_
   refine sa rfl rfl rfl rfl ?_
   refine wl_nil (q_n (k14 _ _ ?_))
   refine sx_retc ?_
   refine q_r (sx_ret1 Try.results10 rfl ?_)
   exact ⟨rfl, (cb2.t c11)⟩
  ·
   refine sx_skip ?_
   refine q_n (k12 _ _ ?_)
   refine sx_seq fun K15 k15 => sx_region ?_
   have f16 := fb2.ext c11
   refine sx_pure rfl rfl rfl (px_load rfl (f16.loadA (vs := [.bool n1, v1]) (look_lit rfl) Try.isAgg24 Try.sizeOf24)) ?_
   have f17 := f10.ext c11
   refine sx_call rfl rfl Try.call42 (c_toSigned f17 (by omega)) (fun v18 w18 p18 => ?_)
   obtain ⟨s118, rfl, os1_18, c18⟩ := p18
   have zw18 := c18.size
   refine sm rfl rfl rfl rfl ?_
   have f19 := f6.ext c11
   have f20 := f19.ext c18
   refine sx_call rfl rfl Try.call43 (c_toIntS f20 (by omega)) (fun v21 w21 p21 => ?_)
   obtain ⟨s21, rfl, os_21, c21⟩ := p21
   have zw21 := c21.size
   refine sm rfl rfl rfl rfl ?_
   have f22 := os1_18.ext c21
   refine sx_call rfl rfl Try.call41 (c_sFairShare f22.sv os_21.sv (by omega) (by omega)) (fun v23 w23 p23 => ?_)
   obtain ⟨s23, t23, ls23, us23, lt23, ut23, rfl, os_23, ot_23, hd23, hl23, c23⟩ := p23
   have zw23 := c23.size
   refine sm rfl rfl rfl rfl ?_
   refine sx_pure rfl rfl rfl (px_extract (vs := [.agg #[.bool ((fair n1 z1 ws i).1), s23, t23], .bool ((fair n1 z1 ws i).2.2.2)]) rfl rfl) ?_
   refine sx_pure rfl rfl rfl (px_extract (vs := [.agg #[.bool ((fair n1 z1 ws i).1), s23, t23], .bool ((fair n1 z1 ws i).2.2.2)]) rfl rfl) ?_
   refine sx_alloc [.bool false, (.slice none 0 0), (.slice none 0 0)] rfl Try.zeroValue53 rfl (fun b24 w25 eb24 sb24 fb24 cb24 => ?_)
   have zw25 := cb24.size
   have f27 := ot_23.ext cb24
   have f28 := os_23.ext cb24
   refine sx_store (vs := [.bool ((fair n1 z1 ws i).1), s23, t23]) rfl rfl fb24 rfl Try.sizeOf53 (Nat.le_of_ble_eq_true rfl) (one_cons rfl (one_cons f28.one (one_cons f27.one one_nil))) (fun w26 sw26 fw26 cw26 => ?_)
   have zw26 := cw26.size
   have gw26 : Blk w26 b24 [.bool ((fair n1 z1 ws i).1), s23, t23] 53 := fw26
   refine sa rfl rfl rfl rfl ?_
   refine wl_nil (q_n (k15 _ _ ?_))
   refine sx_sub (Sub.cons (t := 1) rfl (.cons (t := 2) rfl (.cons (t := 3) rfl (.cons (t := 6) rfl (.cons (t := 8) rfl (.cons (t := 9) rfl (.nil))))))) ?_
   refine sx_seq fun K29 k29 => sx_region ?_
   have f30 := f16.ext c18
   have f31 := f30.ext c21
   have f32 := f31.ext c23
   have f33 := f32.ext cb24
   have f34 := f33.chg cw26 (by omega)
   refine sx_pure rfl rfl rfl (px_load rfl (f34.loadA (vs := [.bool n1, v1]) (look_lit rfl) Try.isAgg24 Try.sizeOf24)) ?_
   have f35 := f17.ext c18
   have f36 := f35.ext c21
   have f37 := f36.ext c23
   have f38 := f37.ext cb24
   have f39 := f38.chg cw26 (by omega)
   refine sx_call rfl rfl Try.call42 (c_toSigned f39 (by omega)) (fun v40 w40 p40 => ?_)
   obtain ⟨s140, rfl, os1_40, c40⟩ := p40
   have zw40 := c40.size
   refine sx_alloc [.bool false, (.slice none 0 0)] rfl Try.zeroValue29 rfl (fun b41 w42 eb41 sb41 fb41 cb41 => ?_)
   have zw42 := cb41.size
   have f44 := os1_40.ext cb41
   refine sx_store (vs := [.bool n1, s140]) rfl rfl fb41 rfl Try.sizeOf29 (Nat.le_of_ble_eq_true rfl) (one_cons rfl (one_cons f44.one one_nil)) (fun w43 sw43 fw43 cw43 => ?_)
   have zw43 := cw43.size
   have gw43 : Blk w43 b41 [.bool n1, s140] 29 := fw43
   refine wl_nil (q_n (k29 _ _ ?_))
   refine sx_seq fun K45 k45 => sx_region ?_
   refine sm rfl rfl rfl rfl ?_
   have f46 := f20.ext c21
   have f47 := f46.ext c23
   have f48 := f47.ext cb24
   have f49 := f48.chg cw26 (by omega)
   have f50 := f49.ext c40
   have f51 := f50.ext cb41
   have f52 := f51.chg cw43 (by omega)
   refine sx_call rfl rfl Try.call43 (c_toIntS f52 (by omega)) (fun v53 w53 p53 => ?_)
   obtain ⟨s53, rfl, os_53, c53⟩ := p53
   have zw53 := c53.size
   refine sa rfl rfl rfl rfl ?_
   refine wl_nil (q_n (k45 _ _ ?_))
   refine sx_seq fun K54 k54 => sx_region ?_
   have f55 := gw43.ext c53
   refine sx_pure rfl rfl rfl (px_load rfl (f55.loadA (vs := [.bool n1, s140]) (look_lit rfl) Try.isAgg29 Try.sizeOf29)) ?_
   refine sm rfl rfl rfl rfl ?_
   refine sm rfl rfl rfl rfl ?_
   have f56 := f44.chg cw43 (by omega)
   have f57 := f56.ext c53
   refine sx_call rfl rfl Try.call44 (c_iFairShare f57.sv os_53.sv (by omega) (by omega)) (fun v58 w58 p58 => ?_)
   obtain ⟨s58, t58, ls58, us58, lt58, ut58, rfl, os_58, ot_58, hd58, hl58, c58⟩ := p58
   have zw58 := c58.size
   refine sm rfl rfl rfl rfl ?_
   refine sx_pure rfl rfl rfl (px_extract (vs := [.agg #[.bool ((fair n1 z1 ws i).1), s58, t58], .bool ((fair n1 z1 ws i).2.2.2)]) rfl rfl) ?_
   refine sx_pure rfl rfl rfl (px_extract (vs := [.agg #[.bool ((fair n1 z1 ws i).1), s58, t58], .bool ((fair n1 z1 ws i).2.2.2)]) rfl rfl) ?_
   refine sx_alloc [.bool false, (.slice none 0 0), (.slice none 0 0)] rfl Try.zeroValue53 rfl (fun b59 w60 eb59 sb59 fb59 cb59 => ?_)
   have zw60 := cb59.size
   have f62 := ot_58.ext cb59
   have f63 := os_58.ext cb59
   refine sx_store (vs := [.bool ((fair n1 z1 ws i).1), s58, t58]) rfl rfl fb59 rfl Try.sizeOf53 (Nat.le_of_ble_eq_true rfl) (one_cons rfl (one_cons f63.one (one_cons f62.one one_nil))) (fun w61 sw61 fw61 cw61 => ?_)
   have zw61 := cw61.size
   have gw61 : Blk w61 b59 [.bool ((fair n1 z1 ws i).1), s58, t58] 53 := fw61
   refine sa rfl rfl rfl rfl ?_
   refine wl_nil (q_n (k54 _ _ ?_))
   refine sx_sub (Sub.cons (t := 1) rfl (.cons (t := 2) rfl (.cons (t := 3) rfl (.cons (t := 6) rfl (.cons (t := 8) rfl (.cons (t := 9) rfl (.cons (t := 10) rfl (.cons (t := 11) rfl (.cons (t := 12) rfl (.cons (t := 13) rfl (.nil))))))))))) ?_
   refine sx_seq fun K64 k64 => ?_
   refine sx_seq fun K65 k65 => sx_region ?_
   refine sx_pure rfl rfl rfl (px_load rfl (gw61.loadA (vs := [.bool ((fair n1 z1 ws i).1), s58, t58]) (look_lit rfl) Try.isAgg53 Try.sizeOf53)) ?_
   have f66 := gw26.ext c40
   have f67 := f66.ext cb41
   have f68 := f67.chg cw43 (by omega)
   have f69 := f68.ext c53
   have f70 := f69.ext c58
   have f71 := f70.ext cb59
   have f72 := f71.chg cw61 (by omega)
   refine sx_pure rfl rfl rfl (px_load rfl (f72.loadA (vs := [.bool ((fair n1 z1 ws i).1), s23, t23]) (look_lit rfl) Try.isAgg53 Try.sizeOf53)) ?_
   have f73 := f63.chg cw61 (by omega)
   have f74 := f62.chg cw61 (by omega)
   have f75 := f28.chg cw26 (by omega)
   have f76 := f75.ext c40
   have f77 := f76.ext cb41
   have f78 := f77.chg cw43 (by omega)
   have f79 := f78.ext c53
   have f80 := f79.ext c58
   have f81 := f80.ext cb59
   have f82 := f81.chg cw61 (by omega)
   have f83 := f27.chg cw26 (by omega)
   have f84 := f83.ext c40
   have f85 := f84.ext cb41
   have f86 := f85.chg cw43 (by omega)
   have f87 := f86.ext c53
   have f88 := f87.ext c58
   have f89 := f88.ext cb59
   have f90 := f89.chg cw61 (by omega)
   refine sx_call rfl rfl Try.call35 (c_eqRat f73.sv f74.sv f82.sv f90.sv (by omega)) (fun v91 w91 p91 => ?_)
   obtain ⟨rfl, c91⟩ := p91
   have zw91 := c91.size
   refine sx_pure rfl rfl rfl (px_notP rfl) ?_
   refine sm rfl rfl rfl rfl ?_
   have h6013 : ¬ (¬ (((fair n1 z1 ws i).1) = ((fair n1 z1 ws i).1) ∧ ((fair n1 z1 ws i).2.1) = ((fair n1 z1 ws i).2.1) ∧ ((fair n1 z1 ws i).2.2.1) = ((fair n1 z1 ws i).2.2.1))) := by simp [mk_length]
   refine sx_tmpPF (t := 51) rfl h6013 ?_
   refine sx_guardT rfl rfl rfl ?_
   refine sm rfl rfl rfl rfl ?_
   refine sx_guardT rfl rfl rfl ?_
   refine sm rfl rfl rfl rfl ?_
   refine sx_guardT rfl rfl rfl ?_
   refine sx_pure rfl rfl rfl (px_neB Try.underlying4 rfl rfl) ?_
   refine sx_pure rfl rfl rfl (px_pick rfl rfl) ?_
   refine wl_nil (q_n (k65 _ _ ?_))
   refine sx_sub (Sub.cons (t := 1) rfl (.cons (t := 2) rfl (.cons (t := 3) rfl (.cons (t := 6) rfl (.cons (t := 8) rfl (.cons (t := 9) rfl (.cons (t := 10) rfl (.cons (t := 11) rfl (.cons (t := 12) rfl (.cons (t := 13) rfl (.cons (t := 55) rfl (.nil)))))))))))) ?_
   have h6013x1 : (((fair n1 z1 ws i).2.2.2) != ((fair n1 z1 ws i).2.2.2)) = false := by simp [mk_length]
   refine sx_condBF rfl h6013x1 ?_
   refine sx_skip ?_
   refine q_n (k64 _ _ ?_)
   refine sx_seq fun K92 k92 => ?_
   refine sx_seq fun K93 k93 => ?_
   have f94 := f34.ext c40
   have f95 := f94.ext cb41
   have f96 := f95.chg cw43 (by omega)
   have f97 := f96.ext c53
   have f98 := f97.ext c58
   have f99 := f98.ext cb59
   have f100 := f99.chg cw61 (by omega)
   have f101 := f100.ext c91
   have f102 := f72.ext c91
   have f103 := f55.ext c58
   have f104 := f103.ext cb59
   have f105 := f104.chg cw61 (by omega)
   have f106 := f105.ext c91
   have f107 := gw61.ext c91
   have f108 := f39.ext c40
   have f109 := f108.ext cb41
   have f110 := f109.chg cw43 (by omega)
   have f111 := f110.ext c53
   have f112 := f111.ext c58
   have f113 := f112.ext cb59
   have f114 := f113.chg cw61 (by omega)
   have f115 := f114.ext c91
   have f116 := f52.ext c53
   have f117 := f116.ext c58
   have f118 := f117.ext cb59
   have f119 := f118.chg cw61 (by omega)
   have f120 := f119.ext c91
   have f121 := f22.ext c23
   have f122 := f121.ext cb24
   have f123 := f122.chg cw26 (by omega)
   have f124 := f123.ext c40
   have f125 := f124.ext cb41
   have f126 := f125.chg cw43 (by omega)
   have f127 := f126.ext c53
   have f128 := f127.ext c58
   have f129 := f128.ext cb59
   have f130 := f129.chg cw61 (by omega)
   have f131 := f130.ext c91
   have f132 := os_21.ext c23
   have f133 := f132.ext cb24
   have f134 := f133.chg cw26 (by omega)
   have f135 := f134.ext c40
   have f136 := f135.ext cb41
   have f137 := f136.chg cw43 (by omega)
   have f138 := f137.ext c53
   have f139 := f138.ext c58
   have f140 := f139.ext cb59
   have f141 := f140.chg cw61 (by omega)
   have f142 := f141.ext c91
   have f143 := f82.ext c91
   have f144 := f90.ext c91
   have f145 := f57.ext c58
   have f146 := f145.ext cb59
   have f147 := f146.chg cw61 (by omega)
   have f148 := f147.ext c91
   have f149 := os_53.ext c58
   have f150 := f149.ext cb59
   have f151 := f150.chg cw61 (by omega)
   have f152 := f151.ext c91
   have f153 := f73.ext c91
   have f154 := f74.ext c91
   refine dx_region (fun w' => Chg 0 0 w91 w') (by kernel_rfl) (Chg.zero (Chg.drew _)) ?_
   have d155 := Chg.drew w91
   have s155 : Chg 0 0 w91 (World.drew w91) := Chg.zero (Chg.drew _)
   have y155 : (World.drew w91).heap.size = w91.heap.size := rfl
   generalize World.drew w91 = w155 at *
   have zw155 := d155.size
   refine dx_take 0 rfl rfl rfl rfl (by kernel_rfl) (by kernel_rfl) (by kernel_rfl) s155 (fun _ hS => px_load rfl ((f106.chg hS (by omega)).loadA (vs := [.bool n1, s140]) (look_lit rfl) Try.isAgg29 Try.sizeOf29)) ?_
   refine dx_take 1 rfl rfl rfl rfl (by kernel_rfl) (by kernel_rfl) (by kernel_rfl) s155 (fun _ hS => px_load rfl ((f101.chg hS (by omega)).loadA (vs := [.bool n1, v1]) (look_lit rfl) Try.isAgg24 Try.sizeOf24)) ?_
   refine dx_eff 2 rfl (by kernel_rfl) ?_
   have f156 := f115.ext d155
   refine sx_call rfl rfl Try.call42 (c_toSigned f156 (by omega)) (fun v157 w157 p157 => ?_)
   obtain ⟨s1157, rfl, os1_157, c157⟩ := p157
   have zw157 := c157.size
   have s158 : Chg 0 0 w91 w157 := (d155.t c157)
   refine wl_nil ?_
   refine dx_next s158 ?_
   refine dx_eff 3 rfl (by kernel_rfl) ?_
   have f159 := f148.ext d155
   have f160 := f159.ext c157
   refine sx_call rfl rfl Try.call45 (c_eqSigned f160.sv os1_157.sv (by omega)) (fun v161 w161 p161 => ?_)
   obtain ⟨rfl, c161⟩ := p161
   have zw161 := c161.size
   have s162 : Chg 0 0 w91 w161 := ((d155.t c157).t c161)
   refine wl_nil ?_
   refine dx_next s162 ?_
   refine dx_take 4 rfl rfl rfl rfl (by kernel_rfl) (by kernel_rfl) (by kernel_rfl) s162 (fun _ hS => px_notP rfl) ?_
   refine dx_done (by kernel_rfl) ?_
   refine q_n (k93 _ _ ?_)
   refine sx_sub (Sub.cons (t := 1) rfl (.cons (t := 2) rfl (.cons (t := 3) rfl (.cons (t := 6) rfl (.cons (t := 8) rfl (.cons (t := 9) rfl (.cons (t := 10) rfl (.cons (t := 11) rfl (.cons (t := 12) rfl (.cons (t := 13) rfl (.cons (t := 60) rfl (.nil)))))))))))) ?_
   have h6016 : ¬ (¬ (n1 = n1 ∧ z1 = z1)) := by simp [mk_length]
   refine sx_condPF rfl h6016 ?_
   refine sx_skip ?_
   refine q_n (k92 _ _ ?_)
   refine sx_seq fun K163 k163 => ?_
   refine sx_seq fun K164 k164 => sx_region ?_
   refine sm rfl rfl rfl rfl ?_
   refine sm rfl rfl rfl rfl ?_
   have f165 := f120.ext d155
   have f166 := f165.ext c157
   have f167 := f166.ext c161
   refine sx_call rfl rfl Try.call43 (c_toIntS f167 (by omega)) (fun v168 w168 p168 => ?_)
   obtain ⟨s168, rfl, os_168, c168⟩ := p168
   have zw168 := c168.size
   have f169 := f152.ext d155
   have f170 := f169.ext c157
   have f171 := f170.ext c161
   have f172 := f171.ext c168
   refine sx_call rfl rfl Try.call46 (c_eqIntS f172.sv os_168.sv (by omega)) (fun v173 w173 p173 => ?_)
   obtain ⟨rfl, c173⟩ := p173
   have zw173 := c173.size
   refine sx_pure rfl rfl rfl (px_notP rfl) ?_
   refine wl_nil (q_n (k164 _ _ ?_))
   refine sx_sub (Sub.cons (t := 1) rfl (.cons (t := 2) rfl (.cons (t := 3) rfl (.cons (t := 6) rfl (.cons (t := 8) rfl (.cons (t := 9) rfl (.cons (t := 10) rfl (.cons (t := 11) rfl (.cons (t := 12) rfl (.cons (t := 13) rfl (.cons (t := 65) rfl (.nil)))))))))))) ?_
   have h6019 : ¬ (¬ (ws = ws)) := by simp [mk_length]
   refine sx_condPF rfl h6019 ?_
   refine sx_skip ?_
   refine q_n (k163 _ _ ?_)
   refine sx_seq fun K174 k174 => sx_region ?_
   refine sa rfl rfl rfl rfl ?_
   refine wl_nil (q_n (k174 _ _ ?_))
   refine sx_seq fun K175 k175 => sx_region ?_
   have f176 := f106.ext d155
   have f177 := f176.ext c157
   have f178 := f177.ext c161
   have f179 := f178.ext c168
   have f180 := f179.ext c173
   refine sx_pure rfl rfl rfl (px_load rfl (f180.loadA (vs := [.bool n1, s140]) (look_lit rfl) Try.isAgg29 Try.sizeOf29)) ?_
   refine sm rfl rfl rfl rfl ?_
   have f181 := f160.ext c161
   have f182 := f181.ext c168
   have f183 := f182.ext c173
   refine sx_call rfl rfl Try.call47 (c_markSigned f183 (by omega) (by omega)) (fun v184 w184 p184 => ?_)
   obtain ⟨rfl, ov1_184, c184⟩ := p184
   have zw184 := c184.size
   refine sa rfl rfl rfl rfl ?_
   refine wl_nil (q_n (k175 _ _ ?_))
   refine sx_sub (Sub.cons (t := 1) rfl (.cons (t := 2) rfl (.cons (t := 3) rfl (.cons (t := 6) rfl (.cons (t := 8) rfl (.cons (t := 9) rfl (.cons (t := 11) rfl (.cons (t := 12) rfl (.cons (t := 13) rfl (.cons (t := 14) rfl (.nil))))))))))) ?_
   refine sx_seq fun K185 k185 => sx_region ?_
   refine sm rfl rfl rfl rfl ?_
   refine sm rfl rfl rfl rfl ?_
   have f186 := f172.ext c173
   have f187 := f186.chg c184 (by omega)
   refine sx_call rfl rfl Try.call48 (c_markIntS f187 (by omega) (by omega)) (fun v188 w188 p188 => ?_)
   obtain ⟨rfl, ova_188, c188⟩ := p188
   have zw188 := c188.size
   refine sa rfl rfl rfl rfl ?_
   refine wl_nil (q_n (k185 _ _ ?_))
   refine sx_seq fun K189 k189 => ?_
   refine sx_seq fun K190 k190 => sx_region ?_
   refine sm rfl rfl rfl rfl ?_
   refine sx_pure rfl rfl rfl (px_lt rfl rfl) ?_
   refine sm rfl rfl rfl rfl ?_
   have h6025 : ¬ (((1 + ↑(z1).length) + ↑(ws).length : Int) < 0) := by omega
   refine sx_tmpPF (t := 74) rfl h6025 ?_
   refine sx_guardT rfl rfl rfl ?_
   have f191 := f107.ext d155
   have f192 := f191.ext c157
   have f193 := f192.ext c161
   have f194 := f193.ext c168
   have f195 := f194.ext c173
   have f196 := f195.chg c184 (by omega)
   have f197 := f196.chg c188 (by omega)
   refine sx_pure rfl rfl rfl (px_load rfl (f197.loadA (vs := [.bool ((fair n1 z1 ws i).1), s58, t58]) (look_lit rfl) Try.isAgg53 Try.sizeOf53)) ?_
   refine sx_guardT rfl rfl rfl ?_
   have f198 := f102.ext d155
   have f199 := f198.ext c157
   have f200 := f199.ext c161
   have f201 := f200.ext c168
   have f202 := f201.ext c173
   have f203 := f202.chg c184 (by omega)
   have f204 := f203.chg c188 (by omega)
   refine sx_pure rfl rfl rfl (px_load rfl (f204.loadA (vs := [.bool ((fair n1 z1 ws i).1), s23, t23]) (look_lit rfl) Try.isAgg53 Try.sizeOf53)) ?_
   refine sx_guardT rfl rfl rfl ?_
   have f205 := f153.ext d155
   have f206 := f205.ext c157
   have f207 := f206.ext c161
   have f208 := f207.ext c168
   have f209 := f208.ext c173
   have f210 := f209.chg c184 (by omega)
   have f211 := f210.chg c188 (by omega)
   have f212 := f154.ext d155
   have f213 := f212.ext c157
   have f214 := f213.ext c161
   have f215 := f214.ext c168
   have f216 := f215.ext c173
   have f217 := f216.chg c184 (by omega)
   have f218 := f217.chg c188 (by omega)
   have f219 := f143.ext d155
   have f220 := f219.ext c157
   have f221 := f220.ext c161
   have f222 := f221.ext c168
   have f223 := f222.ext c173
   have f224 := f223.chg c184 (by omega)
   have f225 := f224.chg c188 (by omega)
   have f226 := f144.ext d155
   have f227 := f226.ext c157
   have f228 := f227.ext c161
   have f229 := f228.ext c168
   have f230 := f229.ext c173
   have f231 := f230.chg c184 (by omega)
   have f232 := f231.chg c188 (by omega)
   refine sx_call rfl rfl Try.call35 (c_eqRat f211.sv f218.sv f225.sv f232.sv (by omega)) (fun v233 w233 p233 => ?_)
   obtain ⟨rfl, c233⟩ := p233
   have zw233 := c233.size
   refine sx_guardT rfl rfl rfl ?_
   refine sx_pure rfl rfl rfl (px_notP rfl) ?_
   refine sx_pure rfl rfl rfl (px_pick rfl rfl) ?_
   refine sm rfl rfl rfl rfl ?_
   have h6025x1 : ¬ (¬ (((fair n1 z1 ws i).1) = ((fair n1 z1 ws i).1) ∧ ((fair n1 z1 ws i).2.1) = ((fair n1 z1 ws i).2.1) ∧ ((fair n1 z1 ws i).2.2.1) = ((fair n1 z1 ws i).2.2.1))) := by simp [mk_length]
   refine sx_tmpPF (t := 80) rfl h6025x1 ?_
   refine sx_guardT rfl rfl rfl ?_
   refine sm rfl rfl rfl rfl ?_
   refine sx_guardT rfl rfl rfl ?_
   refine sm rfl rfl rfl rfl ?_
   refine sx_guardT rfl rfl rfl ?_
   refine sx_pure rfl rfl rfl (px_neB Try.underlying4 rfl rfl) ?_
   refine sx_pure rfl rfl rfl (px_pick rfl rfl) ?_
   refine wl_nil (q_n (k190 _ _ ?_))
   refine sx_sub (Sub.cons (t := 1) rfl (.cons (t := 2) rfl (.cons (t := 3) rfl (.cons (t := 6) rfl (.cons (t := 8) rfl (.cons (t := 9) rfl (.cons (t := 12) rfl (.cons (t := 84) rfl (.nil))))))))) ?_
   have h6025x2 : (((fair n1 z1 ws i).2.2.2) != ((fair n1 z1 ws i).2.2.2)) = false := by simp [mk_length]
   refine sx_condBF rfl h6025x2 ?_
   refine sx_skip ?_
   refine q_n (k189 _ _ ?_)
   refine sx_seq fun K234 k234 => sx_region ?_
   refine sa rfl rfl rfl rfl ?_
   refine wl_nil (q_n (k234 _ _ ?_))
   refine sx_seq fun K235 k235 => sx_region ?_
   have f236 := f197.ext c233
   refine sx_pure rfl rfl rfl (px_load rfl (f236.loadA (vs := [.bool ((fair n1 z1 ws i).1), s58, t58]) (look_lit rfl) Try.isAgg53 Try.sizeOf53)) ?_
   refine sm rfl rfl rfl rfl ?_
   have f237 := f211.ext c233
   have f238 := f218.ext c233
   refine sx_call rfl rfl Try.call49 (c_markRat f237 f238 (by omega) (by omega) (by omega)) (fun v239 w239 p239 => ?_)
   obtain ⟨rfl, ov1_239, od1_239, c239⟩ := p239
   have zw239 := c239.size
   refine sa rfl rfl rfl rfl ?_
   refine wl_nil (q_n (k235 _ _ ?_))
   refine sx_seq fun K240 k240 => sx_region ?_
   refine sa rfl rfl rfl rfl ?_
   refine wl_nil (q_n (k240 _ _ ?_))
   refine sx_seq fun K241 k241 => sx_region ?_
   have f242 := f236.chg c239 (by omega)
   refine sx_pure rfl rfl rfl (px_load rfl (f242.loadA (vs := [.bool ((fair n1 z1 ws i).1), s58, t58]) (look_lit rfl) Try.isAgg53 Try.sizeOf53)) ?_
   refine sm rfl rfl rfl rfl ?_
   refine sx_call rfl rfl Try.call50 (c_heldRat ov1_239.sv od1_239.sv (by first | omega | (simp only [mk_length]; omega)) (by omega) (by simp [mk_length])) (fun v243 w243 p243 => ?_)
   obtain ⟨rfl, c243⟩ := p243
   have zw243 := c243.size
   refine sa rfl rfl rfl rfl ?_
   refine wl_nil (q_n (k241 _ _ ?_))
   refine sx_sub (Sub.cons (t := 1) rfl (.cons (t := 2) rfl (.cons (t := 3) rfl (.cons (t := 6) rfl (.cons (t := 8) rfl (.cons (t := 9) rfl (.cons (t := 12) rfl (.cons (t := 15) rfl (.cons (t := 16) rfl (.nil)))))))))) ?_
   refine sx_seq fun K244 k244 => ?_
   refine sx_seq fun K245 k245 => sx_region ?_
   refine sm rfl rfl rfl rfl ?_
   refine sx_pure rfl rfl rfl (px_lt rfl rfl) ?_
   refine wl_nil (q_n (k245 _ _ ?_))
   have h6032 : ¬ ((1 + ↑((mk 1 (((fair n1 z1 ws i).2.1)).length)).length + ↑((mk (1 + ↑(((fair n1 z1 ws i).2.1)).length) (((fair n1 z1 ws i).2.2.1)).length)).length : Int) < 0) := by omega
   refine sx_condPF rfl h6032 ?_
   refine sx_skip ?_
   refine q_n (k244 _ _ ?_)
   refine sx_seq fun K246 k246 => ?_
   refine sx_seq fun K247 k247 => sx_region ?_
   refine sm rfl rfl rfl rfl ?_
   refine sm rfl rfl rfl rfl ?_
   refine sx_pure rfl rfl rfl (px_ne rfl rfl) ?_
   refine wl_nil (q_n (k247 _ _ ?_))
   have h6035 : ¬ ((1 + ↑((mk 1 (((fair n1 z1 ws i).2.1)).length)).length + ↑((mk (1 + ↑(((fair n1 z1 ws i).2.1)).length) (((fair n1 z1 ws i).2.2.1)).length)).length : Int) ≠ 1 + ↑(((fair n1 z1 ws i).2.1)).length + ↑(((fair n1 z1 ws i).2.2.1)).length) := by simp [mk_length]
   refine sx_condPF rfl h6035 ?_
   refine sx_skip ?_
   refine q_n (k246 _ _ ?_)
   refine sx_seq fun K248 k248 => sx_region ?_
   have f249 := f101.ext d155
   have f250 := f249.ext c157
   have f251 := f250.ext c161
   have f252 := f251.ext c168
   have f253 := f252.ext c173
   have f254 := f253.chg c184 (by omega)
   have f255 := f254.chg c188 (by omega)
   have f256 := f255.ext c233
   have f257 := f256.chg c239 (by omega)
   have f258 := f257.ext c243
   refine sx_pure rfl rfl rfl (px_load rfl (f258.loadA (vs := [.bool n1, v1]) (look_lit rfl) Try.isAgg24 Try.sizeOf24)) ?_
   have f259 := f156.ext c157
   have f260 := f259.ext c161
   have f261 := f260.ext c168
   have f262 := f261.ext c173
   have f263 := f262.chg c184 (by omega)
   have f264 := f263.chg c188 (by omega)
   have f265 := f264.ext c233
   have f266 := f265.chg c239 (by omega)
   have f267 := f266.ext c243
   refine sx_call rfl rfl Try.call42 (c_toSigned f267 (by omega)) (fun v268 w268 p268 => ?_)
   obtain ⟨s1268, rfl, os1_268, c268⟩ := p268
   have zw268 := c268.size
   refine sm rfl rfl rfl rfl ?_
   have f269 := f167.ext c168
   have f270 := f269.ext c173
   have f271 := f270.chg c184 (by omega)
   have f272 := f271.chg c188 (by omega)
   have f273 := f272.ext c233
   have f274 := f273.chg c239 (by omega)
   have f275 := f274.ext c243
   have f276 := f275.ext c268
   refine sx_call rfl rfl Try.call43 (c_toIntS f276 (by omega)) (fun v277 w277 p277 => ?_)
   obtain ⟨s277, rfl, os_277, c277⟩ := p277
   have zw277 := c277.size
   refine sm rfl rfl rfl rfl ?_
   have f278 := os1_268.ext c277
   refine sx_call rfl rfl Try.call44 (c_iFairShare f278.sv os_277.sv (by omega) (by omega)) (fun v279 w279 p279 => ?_)
   obtain ⟨s279, t279, ls279, us279, lt279, ut279, rfl, os_279, ot_279, hd279, hl279, c279⟩ := p279
   have zw279 := c279.size
   refine sm rfl rfl rfl rfl ?_
   refine sx_pure rfl rfl rfl (px_extract (vs := [.agg #[.bool ((fair n1 z1 ws i).1), s279, t279], .bool ((fair n1 z1 ws i).2.2.2)]) rfl rfl) ?_
   refine sx_pure rfl rfl rfl (px_extract (vs := [.agg #[.bool ((fair n1 z1 ws i).1), s279, t279], .bool ((fair n1 z1 ws i).2.2.2)]) rfl rfl) ?_
   refine sx_alloc [.bool false, (.slice none 0 0), (.slice none 0 0)] rfl Try.zeroValue53 rfl (fun b280 w281 eb280 sb280 fb280 cb280 => ?_)
   have zw281 := cb280.size
   have f283 := ot_279.ext cb280
   have f284 := os_279.ext cb280
   refine sx_store (vs := [.bool ((fair n1 z1 ws i).1), s279, t279]) rfl rfl fb280 rfl Try.sizeOf53 (Nat.le_of_ble_eq_true rfl) (one_cons rfl (one_cons f284.one (one_cons f283.one one_nil))) (fun w282 sw282 fw282 cw282 => ?_)
   have zw282 := cw282.size
   have gw282 : Blk w282 b280 [.bool ((fair n1 z1 ws i).1), s279, t279] 53 := fw282
   refine sa rfl rfl rfl rfl ?_
   refine wl_nil (q_n (k248 _ _ ?_))
   refine sx_sub (Sub.cons (t := 6) rfl (.cons (t := 8) rfl (.cons (t := 9) rfl (.cons (t := 12) rfl (.cons (t := 15) rfl (.cons (t := 16) rfl (.cons (t := 17) rfl (.cons (t := 18) rfl (.nil))))))))) ?_
   refine sx_seq fun K285 k285 => ?_
   refine sx_seq fun K286 k286 => sx_region ?_
   refine sx_pure rfl rfl rfl (px_load rfl (gw282.loadA (vs := [.bool ((fair n1 z1 ws i).1), s279, t279]) (look_lit rfl) Try.isAgg53 Try.sizeOf53)) ?_
   have f287 := f204.ext c233
   have f288 := f287.chg c239 (by omega)
   have f289 := f288.ext c243
   have f290 := f289.ext c268
   have f291 := f290.ext c277
   have f292 := f291.ext c279
   have f293 := f292.ext cb280
   have f294 := f293.chg cw282 (by omega)
   refine sx_pure rfl rfl rfl (px_load rfl (f294.loadA (vs := [.bool ((fair n1 z1 ws i).1), s23, t23]) (look_lit rfl) Try.isAgg53 Try.sizeOf53)) ?_
   have f295 := f284.chg cw282 (by omega)
   have f296 := f283.chg cw282 (by omega)
   have f297 := f225.ext c233
   have f298 := f297.chg c239 (by omega)
   have f299 := f298.ext c243
   have f300 := f299.ext c268
   have f301 := f300.ext c277
   have f302 := f301.ext c279
   have f303 := f302.ext cb280
   have f304 := f303.chg cw282 (by omega)
   have f305 := f232.ext c233
   have f306 := f305.chg c239 (by omega)
   have f307 := f306.ext c243
   have f308 := f307.ext c268
   have f309 := f308.ext c277
   have f310 := f309.ext c279
   have f311 := f310.ext cb280
   have f312 := f311.chg cw282 (by omega)
   refine sx_call rfl rfl Try.call35 (c_eqRat f295.sv f296.sv f304.sv f312.sv (by omega)) (fun v313 w313 p313 => ?_)
   obtain ⟨rfl, c313⟩ := p313
   have zw313 := c313.size
   refine sx_pure rfl rfl rfl (px_notP rfl) ?_
   refine sm rfl rfl rfl rfl ?_
   have h6039 : ¬ (¬ (((fair n1 z1 ws i).1) = ((fair n1 z1 ws i).1) ∧ ((fair n1 z1 ws i).2.1) = ((fair n1 z1 ws i).2.1) ∧ ((fair n1 z1 ws i).2.2.1) = ((fair n1 z1 ws i).2.2.1))) := by simp [mk_length]
   refine sx_tmpPF (t := 109) rfl h6039 ?_
   refine sx_guardT rfl rfl rfl ?_
   refine sm rfl rfl rfl rfl ?_
   refine sx_guardT rfl rfl rfl ?_
   refine sm rfl rfl rfl rfl ?_
   refine sx_guardT rfl rfl rfl ?_
   refine sx_pure rfl rfl rfl (px_neB Try.underlying4 rfl rfl) ?_
   refine sx_pure rfl rfl rfl (px_pick rfl rfl) ?_
   refine wl_nil (q_n (k286 _ _ ?_))
   refine sx_sub (Sub.cons (t := 6) rfl (.cons (t := 12) rfl (.cons (t := 15) rfl (.cons (t := 16) rfl (.cons (t := 113) rfl (.nil)))))) ?_
   have h6039x1 : (((fair n1 z1 ws i).2.2.2) != ((fair n1 z1 ws i).2.2.2)) = false := by simp [mk_length]
   refine sx_condBF rfl h6039x1 ?_
   refine sx_skip ?_
   refine q_n (k285 _ _ ?_)
   refine sx_seq fun K314 k314 => sx_region ?_
   refine sa rfl rfl rfl rfl ?_
   refine wl_nil (q_n (k314 _ _ ?_))
   refine sx_seq fun K315 k315 => sx_region ?_
   have f316 := f242.ext c243
   have f317 := f316.ext c268
   have f318 := f317.ext c277
   have f319 := f318.ext c279
   have f320 := f319.ext cb280
   have f321 := f320.chg cw282 (by omega)
   have f322 := f321.ext c313
   refine sx_pure rfl rfl rfl (px_load rfl (f322.loadA (vs := [.bool ((fair n1 z1 ws i).1), s58, t58]) (look_lit rfl) Try.isAgg53 Try.sizeOf53)) ?_
   refine sm rfl rfl rfl rfl ?_
   have f323 := ov1_239.ext c243
   have f324 := f323.ext c268
   have f325 := f324.ext c277
   have f326 := f325.ext c279
   have f327 := f326.ext cb280
   have f328 := f327.chg cw282 (by omega)
   have f329 := f328.ext c313
   have f330 := od1_239.ext c243
   have f331 := f330.ext c268
   have f332 := f331.ext c277
   have f333 := f332.ext c279
   have f334 := f333.ext cb280
   have f335 := f334.chg cw282 (by omega)
   have f336 := f335.ext c313
   refine sx_call rfl rfl Try.call50 (c_heldRat f329.sv f336.sv (by first | omega | (simp only [mk_length]; omega)) (by omega) (by simp [mk_length])) (fun v337 w337 p337 => ?_)
   obtain ⟨rfl, c337⟩ := p337
   have zw337 := c337.size
   refine sa rfl rfl rfl rfl ?_
   refine wl_nil (q_n (k315 _ _ ?_))
   refine sx_seq fun K338 k338 => ?_
   refine sx_seq fun K339 k339 => sx_region ?_
   refine sm rfl rfl rfl rfl ?_
   refine sx_pure rfl rfl rfl (px_lt rfl rfl) ?_
   refine wl_nil (q_n (k339 _ _ ?_))
   have h6044 : ¬ ((1 + ↑((mk 1 (((fair n1 z1 ws i).2.1)).length)).length + ↑((mk (1 + ↑(((fair n1 z1 ws i).2.1)).length) (((fair n1 z1 ws i).2.2.1)).length)).length : Int) < 0) := by omega
   refine sx_condPF rfl h6044 ?_
   refine sx_skip ?_
   refine q_n (k338 _ _ ?_)
   refine sx_seq fun K340 k340 => ?_
   refine sx_seq fun K341 k341 => sx_region ?_
   refine sm rfl rfl rfl rfl ?_
   refine sm rfl rfl rfl rfl ?_
   refine sx_pure rfl rfl rfl (px_ne rfl rfl) ?_
   refine wl_nil (q_n (k341 _ _ ?_))
   have h6047 : ¬ ((1 + ↑((mk 1 (((fair n1 z1 ws i).2.1)).length)).length + ↑((mk (1 + ↑(((fair n1 z1 ws i).2.1)).length) (((fair n1 z1 ws i).2.2.1)).length)).length : Int) ≠ 1 + ↑(((fair n1 z1 ws i).2.1)).length + ↑(((fair n1 z1 ws i).2.2.1)).length) := by simp [mk_length]
   refine sx_condPF rfl h6047 ?_
   refine sx_skip ?_
   refine q_n (k340 _ _ ?_)
   refine sx_seq fun K342 k342 => sx_region ?_
   refine sa rfl rfl rfl rfl ?_
   refine wl_nil (q_n (k342 _ _ ?_))
   refine sx_retc ?_
   refine sx_ret1 Try.results10 rfl ?_
   have q343 := Chg.step (l := 0) (h := 0) (Chg.zero (l := 0) (h := 0) (((((cb2.t c11).t c18).t c21).t c23).t cb24)) cw26 (by omega)
   have q344 := Chg.step (l := 0) (h := 0) q343 (c40.t cb41) (by omega)
   have q345 := Chg.step (l := 0) (h := 0) q344 cw43 (by omega)
   have q346 := Chg.step (l := 0) (h := 0) q345 ((c53.t c58).t cb59) (by omega)
   have q347 := Chg.step (l := 0) (h := 0) q346 cw61 (by omega)
   have q348 := Chg.step (l := 0) (h := 0) q347 (((((c91.t d155).t c157).t c161).t c168).t c173) (by omega)
   have q349 := Chg.step (l := 0) (h := 0) q348 c184 (by omega)
   have q350 := Chg.step (l := 0) (h := 0) q349 c188 (by omega)
   have q351 := Chg.step (l := 0) (h := 0) q350 c233 (by omega)
   have q352 := Chg.step (l := 0) (h := 0) q351 c239 (by omega)
   have q353 := Chg.step (l := 0) (h := 0) q352 ((((c243.t c268).t c277).t c279).t cb280) (by omega)
   have q354 := Chg.step (l := 0) (h := 0) q353 cw282 (by omega)
   have q355 := Chg.step (l := 0) (h := 0) q354 (c313.t c337) (by omega)
   exact ⟨rfl, q355⟩

end Go.Proofs.Yteiifmkclokgnaa
