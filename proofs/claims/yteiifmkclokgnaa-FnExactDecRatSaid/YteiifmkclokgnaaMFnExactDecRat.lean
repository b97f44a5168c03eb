/- Contracts of functions of the program: what each call returns, and that it changes nothing that was. Conditions: as each says. -/
import Derived.Test.YteiifmkclokgnaaTy
import Derived.Test.YteiifmkclokgnaaNatH
import Derived.Test.YteiifmkclokgnaaSxB
import Derived.Test.YteiifmkclokgnaaK0
import Derived.Test.YteiifmkclokgnaaK1
import Derived.Test.YteiifmkclokgnaaK3
import Derived.Test.YteiifmkclokgnaaK4
set_option linter.unusedVariables false
set_option linter.unusedSimpArgs false
namespace Go.Proofs.Yteiifmkclokgnaa
open Go Go.RowKit
set_option maxRecDepth 100000
theorem law_DecRat {w : World} {n1 : Bool} {v1 : Value} {lv1 uv1 : Nat} {z1 : List Int} {p1 : Int} (hv1 : Sl w lv1 uv1 v1 (z1)) (bz1 : z1.length ≤ 9223372036854775807) :
  Ret Try.prog 11 [.agg #[.bool n1, v1, .int .i64 p1]] w fun v w' => v = .bool (true) ∧ Chg 0 0 w w' := by
 have hv10 := hv1.fit
 refine sx_enter Try.func11 rfl Try.ntmps11 (Nat.le_of_ble_eq_true rfl) ?_
 refine sx_seq fun K1 k1 => sx_region ?_
 refine sx_box [.bool n1, v1, .int .i64 p1] rfl rfl rfl (fun b2 w3 eb2 sb2 fb2 cb2 => ?_)
 have zw3 := cb2.size
 refine sa rfl rfl rfl rfl ?_
 refine wl_nil (q_n (k1 _ _ ?_))
 refine sx_seq fun K4 k4 => sx_region ?_
 refine sa rfl rfl rfl rfl ?_
 refine wl_nil (q_n (k4 _ _ ?_))
 refine sx_seq fun K5 k5 => sx_region ?_
 refine sx_pure rfl rfl rfl (px_load rfl (fb2.loadA (vs := [.bool n1, v1, .int .i64 p1]) (look_lit rfl) Try.isAgg26 Try.sizeOf26)) ?_
 refine sm rfl rfl rfl rfl ?_
 have f6 := hv10.ext cb2
 refine sx_call rfl rfl Try.call15 (c_szDec f6 (by omega) (by omega)) (fun v7 w7 p7 => ?_)
 obtain ⟨r7, rfl, hr7, c7⟩ := p7
 have zw7 := c7.size
 refine sa rfl rfl rfl rfl ?_
 refine wl_nil (q_n (k5 _ _ ?_))
 refine sx_seq fun K8 k8 => ?_
 refine sx_seq fun K9 k9 => sx_region ?_
 refine sm rfl rfl rfl rfl ?_
 refine sx_pure rfl rfl rfl (px_lt rfl rfl) ?_
 refine wl_nil (q_n (k9 _ _ ?_))
 refine sx_condP rfl (fun h4264 => ?_) (fun h4264 => ?_)
 ·
  refine sx_seq fun K10 k10 => sx_region ?_
  refine sa rfl rfl rfl rfl ?_
  refine wl_nil (q_n (k10 _ _ ?_))
  refine sx_retc ?_
  refine q_r (sx_ret1 Try.results11 rfl ?_)
  exact ⟨rfl, (cb2.t c7)⟩
 ·
  refine sx_skip ?_
  refine q_n (k8 _ _ ?_)
  refine sx_seq fun K11 k11 => sx_region ?_
  have f12 := fb2.ext c7
  refine sx_pure rfl rfl rfl (px_load rfl (f12.loadA (vs := [.bool n1, v1, .int .i64 p1]) (look_lit rfl) Try.isAgg26 Try.sizeOf26)) ?_
  have f13 := f6.ext c7
  refine sx_call rfl rfl Try.call17 (c_toDec f13 (by omega)) (fun v14 w14 p14 => ?_)
  obtain ⟨s114, rfl, os1_14, c14⟩ := p14
  have zw14 := c14.size
  refine sx_call rfl rfl Try.call51 (c_sDecRat os1_14.sv (by omega)) (fun v15 w15 p15 => ?_)
  obtain ⟨s15, t15, ls15, us15, lt15, ut15, rfl, os_15, ot_15, hd15, hl15, c15⟩ := p15
  have zw15 := c15.size
  refine sx_alloc [.bool false, (.slice none 0 0), (.slice none 0 0)] rfl Try.zeroValue53 rfl (fun b16 w17 eb16 sb16 fb16 cb16 => ?_)
  have zw17 := cb16.size
  have f19 := ot_15.ext cb16
  have f20 := os_15.ext cb16
  refine sx_store (vs := [.bool ((dRat n1 z1 p1).1), s15, t15]) rfl rfl fb16 rfl Try.sizeOf53 (Nat.le_of_ble_eq_true rfl) (one_cons rfl (one_cons f20.one (one_cons f19.one one_nil))) (fun w18 sw18 fw18 cw18 => ?_)
  have zw18 := cw18.size
  have gw18 : Blk w18 b16 [.bool ((dRat n1 z1 p1).1), s15, t15] 53 := fw18
  refine wl_nil (q_n (k11 _ _ ?_))
  refine sx_seq fun K21 k21 => sx_region ?_
  have f22 := f12.ext c14
  have f23 := f22.ext c15
  have f24 := f23.ext cb16
  have f25 := f24.chg cw18 (by omega)
  refine sx_pure rfl rfl rfl (px_load rfl (f25.loadA (vs := [.bool n1, v1, .int .i64 p1]) (look_lit rfl) Try.isAgg26 Try.sizeOf26)) ?_
  have f26 := f13.ext c14
  have f27 := f26.ext c15
  have f28 := f27.ext cb16
  have f29 := f28.chg cw18 (by omega)
  refine sx_call rfl rfl Try.call17 (c_toDec f29 (by omega)) (fun v30 w30 p30 => ?_)
  obtain ⟨s130, rfl, os1_30, c30⟩ := p30
  have zw30 := c30.size
  refine sx_alloc [.bool false, (.slice none 0 0), .int .i64 0] rfl Try.zeroValue31 rfl (fun b31 w32 eb31 sb31 fb31 cb31 => ?_)
  have zw32 := cb31.size
  have f34 := os1_30.ext cb31
  refine sx_store (vs := [.bool n1, s130, .int .i64 p1]) rfl rfl fb31 rfl Try.sizeOf31 (Nat.le_of_ble_eq_true rfl) (one_cons rfl (one_cons f34.one (one_cons rfl one_nil))) (fun w33 sw33 fw33 cw33 => ?_)
  have zw33 := cw33.size
  have gw33 : Blk w33 b31 [.bool n1, s130, .int .i64 p1] 31 := fw33
  refine wl_nil (q_n (k21 _ _ ?_))
  refine sx_sub (Sub.cons (t := 1) rfl (.cons (t := 2) rfl (.cons (t := 4) rfl (.cons (t := 5) rfl (.nil))))) ?_
  refine sx_seq fun K35 k35 => sx_region ?_
  refine sx_pure rfl rfl rfl (px_load rfl (gw33.loadA (vs := [.bool n1, s130, .int .i64 p1]) (look_lit rfl) Try.isAgg31 Try.sizeOf31)) ?_
  have f36 := f34.chg cw33 (by omega)
  refine sx_call rfl rfl Try.call52 (c_iDecRat f36.sv (by omega)) (fun v37 w37 p37 => ?_)
  obtain ⟨s37, t37, ls37, us37, lt37, ut37, rfl, os_37, ot_37, hd37, hl37, c37⟩ := p37
  have zw37 := c37.size
  refine sx_alloc [.bool false, (.slice none 0 0), (.slice none 0 0)] rfl Try.zeroValue53 rfl (fun b38 w39 eb38 sb38 fb38 cb38 => ?_)
  have zw39 := cb38.size
  have f41 := ot_37.ext cb38
  have f42 := os_37.ext cb38
  refine sx_store (vs := [.bool ((dRat n1 z1 p1).1), s37, t37]) rfl rfl fb38 rfl Try.sizeOf53 (Nat.le_of_ble_eq_true rfl) (one_cons rfl (one_cons f42.one (one_cons f41.one one_nil))) (fun w40 sw40 fw40 cw40 => ?_)
  have zw40 := cw40.size
  have gw40 : Blk w40 b38 [.bool ((dRat n1 z1 p1).1), s37, t37] 53 := fw40
  refine wl_nil (q_n (k35 _ _ ?_))
  refine sx_seq fun K43 k43 => ?_
  refine sx_seq fun K44 k44 => sx_region ?_
  refine sx_pure rfl rfl rfl (px_load rfl (gw40.loadA (vs := [.bool ((dRat n1 z1 p1).1), s37, t37]) (look_lit rfl) Try.isAgg53 Try.sizeOf53)) ?_
  have f45 := gw18.ext c30
  have f46 := f45.ext cb31
  have f47 := f46.chg cw33 (by omega)
  have f48 := f47.ext c37
  have f49 := f48.ext cb38
  have f50 := f49.chg cw40 (by omega)
  refine sx_pure rfl rfl rfl (px_load rfl (f50.loadA (vs := [.bool ((dRat n1 z1 p1).1), s15, t15]) (look_lit rfl) Try.isAgg53 Try.sizeOf53)) ?_
  have f51 := f42.chg cw40 (by omega)
  have f52 := f41.chg cw40 (by omega)
  have f53 := f20.chg cw18 (by omega)
  have f54 := f53.ext c30
  have f55 := f54.ext cb31
  have f56 := f55.chg cw33 (by omega)
  have f57 := f56.ext c37
  have f58 := f57.ext cb38
  have f59 := f58.chg cw40 (by omega)
  have f60 := f19.chg cw18 (by omega)
  have f61 := f60.ext c30
  have f62 := f61.ext cb31
  have f63 := f62.chg cw33 (by omega)
  have f64 := f63.ext c37
  have f65 := f64.ext cb38
  have f66 := f65.chg cw40 (by omega)
  refine sx_call rfl rfl Try.call35 (c_eqRat f51.sv f52.sv f59.sv f66.sv (by omega)) (fun v67 w67 p67 => ?_)
  obtain ⟨rfl, c67⟩ := p67
  have zw67 := c67.size
  refine sx_pure rfl rfl rfl (px_notP rfl) ?_
  refine wl_nil (q_n (k44 _ _ ?_))
  have h4270 : ¬ (¬ (((dRat n1 z1 p1).1) = ((dRat n1 z1 p1).1) ∧ ((dRat n1 z1 p1).2.1) = ((dRat n1 z1 p1).2.1) ∧ ((dRat n1 z1 p1).2.2.1) = ((dRat n1 z1 p1).2.2.1))) := by simp [mk_length]
  refine sx_condPF rfl h4270 ?_
  refine sx_skip ?_
  refine q_n (k43 _ _ ?_)
  refine sx_seq fun K68 k68 => ?_
  refine sx_seq fun K69 k69 => ?_
  have f70 := f25.ext c30
  have f71 := f70.ext cb31
  have f72 := f71.chg cw33 (by omega)
  have f73 := f72.ext c37
  have f74 := f73.ext cb38
  have f75 := f74.chg cw40 (by omega)
  have f76 := f75.ext c67
  have f77 := f50.ext c67
  have f78 := gw33.ext c37
  have f79 := f78.ext cb38
  have f80 := f79.chg cw40 (by omega)
  have f81 := f80.ext c67
  have f82 := gw40.ext c67
  have f83 := f29.ext c30
  have f84 := f83.ext cb31
  have f85 := f84.chg cw33 (by omega)
  have f86 := f85.ext c37
  have f87 := f86.ext cb38
  have f88 := f87.chg cw40 (by omega)
  have f89 := f88.ext c67
  have f90 := os1_14.ext c15
  have f91 := f90.ext cb16
  have f92 := f91.chg cw18 (by omega)
  have f93 := f92.ext c30
  have f94 := f93.ext cb31
  have f95 := f94.chg cw33 (by omega)
  have f96 := f95.ext c37
  have f97 := f96.ext cb38
  have f98 := f97.chg cw40 (by omega)
  have f99 := f98.ext c67
  have f100 := f59.ext c67
  have f101 := f66.ext c67
  have f102 := f36.ext c37
  have f103 := f102.ext cb38
  have f104 := f103.chg cw40 (by omega)
  have f105 := f104.ext c67
  have f106 := f51.ext c67
  have f107 := f52.ext c67
  refine dx_region (fun w' => Chg 0 0 w67 w') (by kernel_rfl) (Chg.zero (Chg.drew _)) ?_
  have d108 := Chg.drew w67
  have s108 : Chg 0 0 w67 (World.drew w67) := Chg.zero (Chg.drew _)
  have y108 : (World.drew w67).heap.size = w67.heap.size := rfl
  generalize World.drew w67 = w108 at *
  have zw108 := d108.size
  refine dx_take 0 rfl rfl rfl rfl (by kernel_rfl) (by kernel_rfl) (by kernel_rfl) s108 (fun _ hS => px_load rfl ((f81.chg hS (by omega)).loadA (vs := [.bool n1, s130, .int .i64 p1]) (look_lit rfl) Try.isAgg31 Try.sizeOf31)) ?_
  refine dx_take 1 rfl rfl rfl rfl (by kernel_rfl) (by kernel_rfl) (by kernel_rfl) s108 (fun _ hS => px_load rfl ((f76.chg hS (by omega)).loadA (vs := [.bool n1, v1, .int .i64 p1]) (look_lit rfl) Try.isAgg26 Try.sizeOf26)) ?_
  refine dx_eff 2 rfl (by kernel_rfl) ?_
  have f109 := f89.ext d108
  refine sx_call rfl rfl Try.call17 (c_toDec f109 (by omega)) (fun v110 w110 p110 => ?_)
  obtain ⟨s1110, rfl, os1_110, c110⟩ := p110
  have zw110 := c110.size
  have s111 : Chg 0 0 w67 w110 := (d108.t c110)
  refine wl_nil ?_
  refine dx_next s111 ?_
  refine dx_eff 3 rfl (by kernel_rfl) ?_
  have f112 := f105.ext d108
  have f113 := f112.ext c110
  refine sx_call rfl rfl Try.call19 (c_eqDec f113.sv os1_110.sv (by omega)) (fun v114 w114 p114 => ?_)
  obtain ⟨rfl, c114⟩ := p114
  have zw114 := c114.size
  have s115 : Chg 0 0 w67 w114 := ((d108.t c110).t c114)
  refine wl_nil ?_
  refine dx_next s115 ?_
  refine dx_take 4 rfl rfl rfl rfl (by kernel_rfl) (by kernel_rfl) (by kernel_rfl) s115 (fun _ hS => px_notP rfl) ?_
  refine dx_done (by kernel_rfl) ?_
  refine q_n (k69 _ _ ?_)
  refine sx_sub (Sub.cons (t := 1) rfl (.cons (t := 2) rfl (.cons (t := 4) rfl (.cons (t := 5) rfl (.cons (t := 6) rfl (.cons (t := 31) rfl (.nil))))))) ?_
  have h4273 : ¬ (¬ (n1 = n1 ∧ z1 = z1 ∧ p1 = p1)) := by simp [mk_length]
  refine sx_condPF rfl h4273 ?_
  refine sx_skip ?_
  refine q_n (k68 _ _ ?_)
  refine sx_seq fun K116 k116 => sx_region ?_
  refine sa rfl rfl rfl rfl ?_
  refine wl_nil (q_n (k116 _ _ ?_))
  refine sx_seq fun K117 k117 => sx_region ?_
  have f118 := f81.ext d108
  have f119 := f118.ext c110
  have f120 := f119.ext c114
  refine sx_pure rfl rfl rfl (px_load rfl (f120.loadA (vs := [.bool n1, s130, .int .i64 p1]) (look_lit rfl) Try.isAgg31 Try.sizeOf31)) ?_
  refine sm rfl rfl rfl rfl ?_
  have f121 := f113.ext c114
  refine sx_call rfl rfl Try.call27 (c_markDec f121 (by omega) (by omega)) (fun v122 w122 p122 => ?_)
  obtain ⟨rfl, ov1_122, c122⟩ := p122
  have zw122 := c122.size
  refine sa rfl rfl rfl rfl ?_
  refine wl_nil (q_n (k117 _ _ ?_))
  refine sx_seq fun K123 k123 => ?_
  refine sx_seq fun K124 k124 => sx_region ?_
  refine sm rfl rfl rfl rfl ?_
  refine sx_pure rfl rfl rfl (px_lt rfl rfl) ?_
  refine sm rfl rfl rfl rfl ?_
  have h4278 : ¬ ((1 + ↑(z1).length : Int) < 0) := by omega
  refine sx_tmpPF (t := 37) rfl h4278 ?_
  refine sx_guardT rfl rfl rfl ?_
  have f125 := f82.ext d108
  have f126 := f125.ext c110
  have f127 := f126.ext c114
  have f128 := f127.chg c122 (by omega)
  refine sx_pure rfl rfl rfl (px_load rfl (f128.loadA (vs := [.bool ((dRat n1 z1 p1).1), s37, t37]) (look_lit rfl) Try.isAgg53 Try.sizeOf53)) ?_
  refine sx_guardT rfl rfl rfl ?_
  have f129 := f77.ext d108
  have f130 := f129.ext c110
  have f131 := f130.ext c114
  have f132 := f131.chg c122 (by omega)
  refine sx_pure rfl rfl rfl (px_load rfl (f132.loadA (vs := [.bool ((dRat n1 z1 p1).1), s15, t15]) (look_lit rfl) Try.isAgg53 Try.sizeOf53)) ?_
  refine sx_guardT rfl rfl rfl ?_
  have f133 := f106.ext d108
  have f134 := f133.ext c110
  have f135 := f134.ext c114
  have f136 := f135.chg c122 (by omega)
  have f137 := f107.ext d108
  have f138 := f137.ext c110
  have f139 := f138.ext c114
  have f140 := f139.chg c122 (by omega)
  have f141 := f100.ext d108
  have f142 := f141.ext c110
  have f143 := f142.ext c114
  have f144 := f143.chg c122 (by omega)
  have f145 := f101.ext d108
  have f146 := f145.ext c110
  have f147 := f146.ext c114
  have f148 := f147.chg c122 (by omega)
  refine sx_call rfl rfl Try.call35 (c_eqRat f136.sv f140.sv f144.sv f148.sv (by omega)) (fun v149 w149 p149 => ?_)
  obtain ⟨rfl, c149⟩ := p149
  have zw149 := c149.size
  refine sx_guardT rfl rfl rfl ?_
  refine sx_pure rfl rfl rfl (px_notP rfl) ?_
  refine sx_pure rfl rfl rfl (px_pick rfl rfl) ?_
  refine wl_nil (q_n (k124 _ _ ?_))
  refine sx_sub (Sub.cons (t := 1) rfl (.cons (t := 2) rfl (.cons (t := 4) rfl (.cons (t := 6) rfl (.cons (t := 42) rfl (.nil)))))) ?_
  have h4278x1 : ¬ (¬ (((dRat n1 z1 p1).1) = ((dRat n1 z1 p1).1) ∧ ((dRat n1 z1 p1).2.1) = ((dRat n1 z1 p1).2.1) ∧ ((dRat n1 z1 p1).2.2.1) = ((dRat n1 z1 p1).2.2.1))) := by simp [mk_length]
  refine sx_condPF rfl h4278x1 ?_
  refine sx_skip ?_
  refine q_n (k123 _ _ ?_)
  refine sx_seq fun K150 k150 => sx_region ?_
  refine sa rfl rfl rfl rfl ?_
  refine wl_nil (q_n (k150 _ _ ?_))
  refine sx_seq fun K151 k151 => sx_region ?_
  have f152 := f128.ext c149
  refine sx_pure rfl rfl rfl (px_load rfl (f152.loadA (vs := [.bool ((dRat n1 z1 p1).1), s37, t37]) (look_lit rfl) Try.isAgg53 Try.sizeOf53)) ?_
  refine sm rfl rfl rfl rfl ?_
  have f153 := f136.ext c149
  have f154 := f140.ext c149
  refine sx_call rfl rfl Try.call49 (c_markRat f153 f154 (by omega) (by omega) (by omega)) (fun v155 w155 p155 => ?_)
  obtain ⟨rfl, ov1_155, od1_155, c155⟩ := p155
  have zw155 := c155.size
  refine sa rfl rfl rfl rfl ?_
  refine wl_nil (q_n (k151 _ _ ?_))
  refine sx_seq fun K156 k156 => sx_region ?_
  refine sa rfl rfl rfl rfl ?_
  refine wl_nil (q_n (k156 _ _ ?_))
  refine sx_seq fun K157 k157 => sx_region ?_
  have f158 := f152.chg c155 (by omega)
  refine sx_pure rfl rfl rfl (px_load rfl (f158.loadA (vs := [.bool ((dRat n1 z1 p1).1), s37, t37]) (look_lit rfl) Try.isAgg53 Try.sizeOf53)) ?_
  refine sm rfl rfl rfl rfl ?_
  refine sx_call rfl rfl Try.call50 (c_heldRat ov1_155.sv od1_155.sv (by first | omega | (simp only [mk_length]; omega)) (by omega) (by simp [mk_length])) (fun v159 w159 p159 => ?_)
  obtain ⟨rfl, c159⟩ := p159
  have zw159 := c159.size
  refine sa rfl rfl rfl rfl ?_
  refine wl_nil (q_n (k157 _ _ ?_))
  refine sx_seq fun K160 k160 => ?_
  refine sx_seq fun K161 k161 => sx_region ?_
  refine sm rfl rfl rfl rfl ?_
  refine sx_pure rfl rfl rfl (px_lt rfl rfl) ?_
  refine wl_nil (q_n (k161 _ _ ?_))
  refine sx_sub (Sub.cons (t := 1) rfl (.cons (t := 2) rfl (.cons (t := 4) rfl (.cons (t := 6) rfl (.cons (t := 8) rfl (.cons (t := 9) rfl (.cons (t := 50) rfl (.nil)))))))) ?_
  have h4285 : ¬ ((1 + ↑((mk 1 (((dRat n1 z1 p1).2.1)).length)).length + ↑((mk (1 + ↑(((dRat n1 z1 p1).2.1)).length) (((dRat n1 z1 p1).2.2.1)).length)).length : Int) < 0) := by omega
  refine sx_condPF rfl h4285 ?_
  refine sx_skip ?_
  refine q_n (k160 _ _ ?_)
  refine sx_seq fun K162 k162 => ?_
  refine sx_seq fun K163 k163 => sx_region ?_
  refine sm rfl rfl rfl rfl ?_
  refine sm rfl rfl rfl rfl ?_
  refine sx_pure rfl rfl rfl (px_ne rfl rfl) ?_
  refine wl_nil (q_n (k163 _ _ ?_))
  have h4288 : ¬ ((1 + ↑((mk 1 (((dRat n1 z1 p1).2.1)).length)).length + ↑((mk (1 + ↑(((dRat n1 z1 p1).2.1)).length) (((dRat n1 z1 p1).2.2.1)).length)).length : Int) ≠ 1 + ↑(((dRat n1 z1 p1).2.1)).length + ↑(((dRat n1 z1 p1).2.2.1)).length) := by simp [mk_length]
  refine sx_condPF rfl h4288 ?_
  refine sx_skip ?_
  refine q_n (k162 _ _ ?_)
  refine sx_seq fun K164 k164 => sx_region ?_
  have f165 := f76.ext d108
  have f166 := f165.ext c110
  have f167 := f166.ext c114
  have f168 := f167.chg c122 (by omega)
  have f169 := f168.ext c149
  have f170 := f169.chg c155 (by omega)
  have f171 := f170.ext c159
  refine sx_pure rfl rfl rfl (px_load rfl (f171.loadA (vs := [.bool n1, v1, .int .i64 p1]) (look_lit rfl) Try.isAgg26 Try.sizeOf26)) ?_
  have f172 := f109.ext c110
  have f173 := f172.ext c114
  have f174 := f173.chg c122 (by omega)
  have f175 := f174.ext c149
  have f176 := f175.chg c155 (by omega)
  have f177 := f176.ext c159
  refine sx_call rfl rfl Try.call17 (c_toDec f177 (by omega)) (fun v178 w178 p178 => ?_)
  obtain ⟨s1178, rfl, os1_178, c178⟩ := p178
  have zw178 := c178.size
  refine sx_call rfl rfl Try.call52 (c_iDecRat os1_178.sv (by omega)) (fun v179 w179 p179 => ?_)
  obtain ⟨s179, t179, ls179, us179, lt179, ut179, rfl, os_179, ot_179, hd179, hl179, c179⟩ := p179
  have zw179 := c179.size
  refine sx_alloc [.bool false, (.slice none 0 0), (.slice none 0 0)] rfl Try.zeroValue53 rfl (fun b180 w181 eb180 sb180 fb180 cb180 => ?_)
  have zw181 := cb180.size
  have f183 := ot_179.ext cb180
  have f184 := os_179.ext cb180
  refine sx_store (vs := [.bool ((dRat n1 z1 p1).1), s179, t179]) rfl rfl fb180 rfl Try.sizeOf53 (Nat.le_of_ble_eq_true rfl) (one_cons rfl (one_cons f184.one (one_cons f183.one one_nil))) (fun w182 sw182 fw182 cw182 => ?_)
  have zw182 := cw182.size
  have gw182 : Blk w182 b180 [.bool ((dRat n1 z1 p1).1), s179, t179] 53 := fw182
  refine wl_nil (q_n (k164 _ _ ?_))
  refine sx_seq fun K185 k185 => ?_
  refine sx_seq fun K186 k186 => sx_region ?_
  refine sx_pure rfl rfl rfl (px_load rfl (gw182.loadA (vs := [.bool ((dRat n1 z1 p1).1), s179, t179]) (look_lit rfl) Try.isAgg53 Try.sizeOf53)) ?_
  have f187 := f132.ext c149
  have f188 := f187.chg c155 (by omega)
  have f189 := f188.ext c159
  have f190 := f189.ext c178
  have f191 := f190.ext c179
  have f192 := f191.ext cb180
  have f193 := f192.chg cw182 (by omega)
  refine sx_pure rfl rfl rfl (px_load rfl (f193.loadA (vs := [.bool ((dRat n1 z1 p1).1), s15, t15]) (look_lit rfl) Try.isAgg53 Try.sizeOf53)) ?_
  have f194 := f184.chg cw182 (by omega)
  have f195 := f183.chg cw182 (by omega)
  have f196 := f144.ext c149
  have f197 := f196.chg c155 (by omega)
  have f198 := f197.ext c159
  have f199 := f198.ext c178
  have f200 := f199.ext c179
  have f201 := f200.ext cb180
  have f202 := f201.chg cw182 (by omega)
  have f203 := f148.ext c149
  have f204 := f203.chg c155 (by omega)
  have f205 := f204.ext c159
  have f206 := f205.ext c178
  have f207 := f206.ext c179
  have f208 := f207.ext cb180
  have f209 := f208.chg cw182 (by omega)
  refine sx_call rfl rfl Try.call35 (c_eqRat f194.sv f195.sv f202.sv f209.sv (by omega)) (fun v210 w210 p210 => ?_)
  obtain ⟨rfl, c210⟩ := p210
  have zw210 := c210.size
  refine sx_pure rfl rfl rfl (px_notP rfl) ?_
  refine wl_nil (q_n (k186 _ _ ?_))
  refine sx_sub (Sub.cons (t := 2) rfl (.cons (t := 6) rfl (.cons (t := 8) rfl (.cons (t := 9) rfl (.cons (t := 60) rfl (.nil)))))) ?_
  have h4292 : ¬ (¬ (((dRat n1 z1 p1).1) = ((dRat n1 z1 p1).1) ∧ ((dRat n1 z1 p1).2.1) = ((dRat n1 z1 p1).2.1) ∧ ((dRat n1 z1 p1).2.2.1) = ((dRat n1 z1 p1).2.2.1))) := by simp [mk_length]
  refine sx_condPF rfl h4292 ?_
  refine sx_skip ?_
  refine q_n (k185 _ _ ?_)
  refine sx_seq fun K211 k211 => sx_region ?_
  refine sa rfl rfl rfl rfl ?_
  refine wl_nil (q_n (k211 _ _ ?_))
  refine sx_seq fun K212 k212 => sx_region ?_
  have f213 := f158.ext c159
  have f214 := f213.ext c178
  have f215 := f214.ext c179
  have f216 := f215.ext cb180
  have f217 := f216.chg cw182 (by omega)
  have f218 := f217.ext c210
  refine sx_pure rfl rfl rfl (px_load rfl (f218.loadA (vs := [.bool ((dRat n1 z1 p1).1), s37, t37]) (look_lit rfl) Try.isAgg53 Try.sizeOf53)) ?_
  refine sm rfl rfl rfl rfl ?_
  have f219 := ov1_155.ext c159
  have f220 := f219.ext c178
  have f221 := f220.ext c179
  have f222 := f221.ext cb180
  have f223 := f222.chg cw182 (by omega)
  have f224 := f223.ext c210
  have f225 := od1_155.ext c159
  have f226 := f225.ext c178
  have f227 := f226.ext c179
  have f228 := f227.ext cb180
  have f229 := f228.chg cw182 (by omega)
  have f230 := f229.ext c210
  refine sx_call rfl rfl Try.call50 (c_heldRat f224.sv f230.sv (by first | omega | (simp only [mk_length]; omega)) (by omega) (by simp [mk_length])) (fun v231 w231 p231 => ?_)
  obtain ⟨rfl, c231⟩ := p231
  have zw231 := c231.size
  refine sa rfl rfl rfl rfl ?_
  refine wl_nil (q_n (k212 _ _ ?_))
  refine sx_seq fun K232 k232 => ?_
  refine sx_seq fun K233 k233 => sx_region ?_
  refine sm rfl rfl rfl rfl ?_
  refine sx_pure rfl rfl rfl (px_lt rfl rfl) ?_
  refine wl_nil (q_n (k233 _ _ ?_))
  have h4297 : ¬ ((1 + ↑((mk 1 (((dRat n1 z1 p1).2.1)).length)).length + ↑((mk (1 + ↑(((dRat n1 z1 p1).2.1)).length) (((dRat n1 z1 p1).2.2.1)).length)).length : Int) < 0) := by omega
  refine sx_condPF rfl h4297 ?_
  refine sx_skip ?_
  refine q_n (k232 _ _ ?_)
  refine sx_seq fun K234 k234 => ?_
  refine sx_seq fun K235 k235 => sx_region ?_
  refine sm rfl rfl rfl rfl ?_
  refine sm rfl rfl rfl rfl ?_
  refine sx_pure rfl rfl rfl (px_ne rfl rfl) ?_
  refine wl_nil (q_n (k235 _ _ ?_))
  have h4300 : ¬ ((1 + ↑((mk 1 (((dRat n1 z1 p1).2.1)).length)).length + ↑((mk (1 + ↑(((dRat n1 z1 p1).2.1)).length) (((dRat n1 z1 p1).2.2.1)).length)).length : Int) ≠ 1 + ↑(((dRat n1 z1 p1).2.1)).length + ↑(((dRat n1 z1 p1).2.2.1)).length) := by simp [mk_length]
  refine sx_condPF rfl h4300 ?_
  refine sx_skip ?_
  refine q_n (k234 _ _ ?_)
  refine sx_seq fun K236 k236 => sx_region ?_
  refine sa rfl rfl rfl rfl ?_
  refine wl_nil (q_n (k236 _ _ ?_))
  refine sx_retc ?_
  refine sx_ret1 Try.results11 rfl ?_
  have q237 := Chg.step (l := 0) (h := 0) (Chg.zero (l := 0) (h := 0) ((((cb2.t c7).t c14).t c15).t cb16)) cw18 (by omega)
  have q238 := Chg.step (l := 0) (h := 0) q237 (c30.t cb31) (by omega)
  have q239 := Chg.step (l := 0) (h := 0) q238 cw33 (by omega)
  have q240 := Chg.step (l := 0) (h := 0) q239 (c37.t cb38) (by omega)
  have q241 := Chg.step (l := 0) (h := 0) q240 cw40 (by omega)
  have q242 := Chg.step (l := 0) (h := 0) q241 (((c67.t d108).t c110).t c114) (by omega)
  have q243 := Chg.step (l := 0) (h := 0) q242 c122 (by omega)
  have q244 := Chg.step (l := 0) (h := 0) q243 c149 (by omega)
  have q245 := Chg.step (l := 0) (h := 0) q244 c155 (by omega)
  have q246 := Chg.step (l := 0) (h := 0) q245 (((c159.t c178).t c179).t cb180) (by omega)
  have q247 := Chg.step (l := 0) (h := 0) q246 cw182 (by omega)
  have q248 := Chg.step (l := 0) (h := 0) q247 (c210.t c231) (by omega)
  exact ⟨rfl, q248⟩

end Go.Proofs.Yteiifmkclokgnaa
