/- Contracts of functions of the program: what each call returns, and that it changes nothing that was. Conditions: as each says. -/
import Derived.Test.YtfoceofnldnbgaaTy
import Derived.Test.YtfoceofnldnbgaaNatK
import Derived.Test.YtfoceofnldnbgaaRm
import Derived.Test.YtfoceofnldnbgaaK0
import Derived.Test.YtfoceofnldnbgaaK1
set_option linter.unusedVariables false
set_option linter.unusedSimpArgs false
namespace Go.Proofs.Ytfoceofnldnbgaa
open Go Go.RowKit
set_option maxRecDepth 100000
theorem law_DecAt {w : World} {n1 : Bool} {v1 : Value} {lv1 uv1 : Nat} {z1 : List Int} {p1 : Int} {q : Int} (hv1 : Sl w lv1 uv1 v1 (z1)) (bz1 : z1.length ≤ 9223372036854775807) (biq : -9223372036854775808 ≤ q ∧ q ≤ 9223372036854775807) :
  Ret Try.prog 3 [.agg #[.bool n1, v1, .int .i64 p1], .int .i64 q] w fun v w' => v = .bool (true) ∧ Chg 0 0 w w' := by
 have hv10 := hv1.fit
 refine sx_enter Try.func3 rfl Try.ntmps3 (Nat.le_of_ble_eq_true rfl) ?_
 refine sx_seq fun K1 k1 => sx_region ?_
 refine sx_box [.bool n1, v1, .int .i64 p1] rfl rfl rfl (fun b2 w3 eb2 sb2 fb2 cb2 => ?_)
 have zw3 := cb2.size
 refine sa rfl rfl rfl rfl ?_
 refine wl_nil (q_n (k1 _ _ ?_))
 refine sx_seq fun K4 k4 => sx_region ?_
 refine sa rfl rfl rfl rfl ?_
 refine wl_nil (q_n (k4 _ _ ?_))
 refine sx_seq fun K5 k5 => sx_region ?_
 refine sx_pure rfl rfl rfl (px_load rfl (fb2.loadA (vs := [.bool n1, v1, .int .i64 p1]) (look_lit rfl) Try.isAgg26 Try.sizeOf26)) ?_
 refine sm rfl rfl rfl rfl ?_
 have f6 := hv10.ext cb2
 refine sx_call rfl rfl Try.call8 (c_szDec f6 (by omega) (by omega)) (fun v7 w7 p7 => ?_)
 obtain ⟨r7, rfl, hr7, c7⟩ := p7
 have zw7 := c7.size
 refine sa rfl rfl rfl rfl ?_
 refine wl_nil (q_n (k5 _ _ ?_))
 refine sx_seq fun K8 k8 => ?_
 refine sx_seq fun K9 k9 => sx_region ?_
 refine sm rfl rfl rfl rfl ?_
 refine sx_pure rfl rfl rfl (px_lt rfl rfl) ?_
 refine wl_nil (q_n (k9 _ _ ?_))
 refine sx_condP rfl (fun h4364 => ?_) (fun h4364 => ?_)
 ·
  refine sx_seq fun K10 k10 => sx_region ?_
  refine sa rfl rfl rfl rfl ?_
  refine wl_nil (q_n (k10 _ _ ?_))
  refine sx_retc ?_
  refine q_r (sx_ret1 Try.results3 rfl ?_)
  exact ⟨rfl, (cb2.t c7)⟩
 ·
  refine sx_skip ?_
  refine q_n (k8 _ _ ?_)
  refine sx_seq fun K11 k11 => sx_region ?_
  have f12 := fb2.ext c7
  refine sx_pure rfl rfl rfl (px_load rfl (f12.loadA (vs := [.bool n1, v1, .int .i64 p1]) (look_lit rfl) Try.isAgg26 Try.sizeOf26)) ?_
  have f13 := f6.ext c7
  refine sx_call rfl rfl Try.call10 (c_toDec f13 (by omega)) (fun v14 w14 p14 => ?_)
  obtain ⟨s114, rfl, os1_14, c14⟩ := p14
  have zw14 := c14.size
  refine sm rfl rfl rfl rfl ?_
  refine sx_call rfl rfl Try.call9 (c_sDecAt os1_14.sv (by omega)) (fun v15 w15 p15 => ?_)
  obtain ⟨s15, rfl, os_15, hl15, c15⟩ := p15
  have zw15 := c15.size
  refine sm rfl rfl rfl rfl ?_
  refine sx_pure rfl rfl rfl (px_extract (vs := [.agg #[.bool ((dAt n1 z1 p1 q).1), s15, .int .i64 ((dAt n1 z1 p1 q).2.2.1)], .bool ((dAt n1 z1 p1 q).2.2.2)]) rfl rfl) ?_
  refine sx_pure rfl rfl rfl (px_extract (vs := [.agg #[.bool ((dAt n1 z1 p1 q).1), s15, .int .i64 ((dAt n1 z1 p1 q).2.2.1)], .bool ((dAt n1 z1 p1 q).2.2.2)]) rfl rfl) ?_
  refine sx_alloc [.bool false, (.slice none 0 0), .int .i64 0] rfl Try.zeroValue30 rfl (fun b16 w17 eb16 sb16 fb16 cb16 => ?_)
  have zw17 := cb16.size
  have f19 := os_15.ext cb16
  refine sx_store (vs := [.bool ((dAt n1 z1 p1 q).1), s15, .int .i64 ((dAt n1 z1 p1 q).2.2.1)]) rfl rfl fb16 rfl Try.sizeOf30 (Nat.le_of_ble_eq_true rfl) (one_cons rfl (one_cons f19.one (one_cons rfl one_nil))) (fun w18 sw18 fw18 cw18 => ?_)
  have zw18 := cw18.size
  have gw18 : Blk w18 b16 [.bool ((dAt n1 z1 p1 q).1), s15, .int .i64 ((dAt n1 z1 p1 q).2.2.1)] 30 := fw18
  refine sa rfl rfl rfl rfl ?_
  refine wl_nil (q_n (k11 _ _ ?_))
  refine sx_sub (Sub.cons (t := 1) rfl (.cons (t := 2) rfl (.cons (t := 4) rfl (.cons (t := 6) rfl (.cons (t := 7) rfl (.nil)))))) ?_
  refine sx_seq fun K20 k20 => sx_region ?_
  have f21 := f12.ext c14
  have f22 := f21.ext c15
  have f23 := f22.ext cb16
  have f24 := f23.chg cw18 (by omega)
  refine sx_pure rfl rfl rfl (px_load rfl (f24.loadA (vs := [.bool n1, v1, .int .i64 p1]) (look_lit rfl) Try.isAgg26 Try.sizeOf26)) ?_
  have f25 := f13.ext c14
  have f26 := f25.ext c15
  have f27 := f26.ext cb16
  have f28 := f27.chg cw18 (by omega)
  refine sx_call rfl rfl Try.call10 (c_toDec f28 (by omega)) (fun v29 w29 p29 => ?_)
  obtain ⟨s129, rfl, os1_29, c29⟩ := p29
  have zw29 := c29.size
  refine sx_alloc [.bool false, (.slice none 0 0), .int .i64 0] rfl Try.zeroValue30 rfl (fun b30 w31 eb30 sb30 fb30 cb30 => ?_)
  have zw31 := cb30.size
  have f33 := os1_29.ext cb30
  refine sx_store (vs := [.bool n1, s129, .int .i64 p1]) rfl rfl fb30 rfl Try.sizeOf30 (Nat.le_of_ble_eq_true rfl) (one_cons rfl (one_cons f33.one (one_cons rfl one_nil))) (fun w32 sw32 fw32 cw32 => ?_)
  have zw32 := cw32.size
  have gw32 : Blk w32 b30 [.bool n1, s129, .int .i64 p1] 30 := fw32
  refine wl_nil (q_n (k20 _ _ ?_))
  refine sx_seq fun K34 k34 => sx_region ?_
  refine sx_pure rfl rfl rfl (px_load rfl (gw32.loadA (vs := [.bool n1, s129, .int .i64 p1]) (look_lit rfl) Try.isAgg30 Try.sizeOf30)) ?_
  refine sm rfl rfl rfl rfl ?_
  have f35 := f33.chg cw32 (by omega)
  refine sx_call rfl rfl Try.call11 (c_iDecAt f35.sv (by omega)) (fun v36 w36 p36 => ?_)
  obtain ⟨s36, rfl, os_36, hl36, c36⟩ := p36
  have zw36 := c36.size
  refine sm rfl rfl rfl rfl ?_
  refine sx_pure rfl rfl rfl (px_extract (vs := [.agg #[.bool ((dAt n1 z1 p1 q).1), s36, .int .i64 ((dAt n1 z1 p1 q).2.2.1)], .bool ((dAt n1 z1 p1 q).2.2.2)]) rfl rfl) ?_
  refine sx_pure rfl rfl rfl (px_extract (vs := [.agg #[.bool ((dAt n1 z1 p1 q).1), s36, .int .i64 ((dAt n1 z1 p1 q).2.2.1)], .bool ((dAt n1 z1 p1 q).2.2.2)]) rfl rfl) ?_
  refine sx_alloc [.bool false, (.slice none 0 0), .int .i64 0] rfl Try.zeroValue30 rfl (fun b37 w38 eb37 sb37 fb37 cb37 => ?_)
  have zw38 := cb37.size
  have f40 := os_36.ext cb37
  refine sx_store (vs := [.bool ((dAt n1 z1 p1 q).1), s36, .int .i64 ((dAt n1 z1 p1 q).2.2.1)]) rfl rfl fb37 rfl Try.sizeOf30 (Nat.le_of_ble_eq_true rfl) (one_cons rfl (one_cons f40.one (one_cons rfl one_nil))) (fun w39 sw39 fw39 cw39 => ?_)
  have zw39 := cw39.size
  have gw39 : Blk w39 b37 [.bool ((dAt n1 z1 p1 q).1), s36, .int .i64 ((dAt n1 z1 p1 q).2.2.1)] 30 := fw39
  refine sa rfl rfl rfl rfl ?_
  refine wl_nil (q_n (k34 _ _ ?_))
  refine sx_sub (Sub.cons (t := 1) rfl (.cons (t := 2) rfl (.cons (t := 4) rfl (.cons (t := 6) rfl (.cons (t := 7) rfl (.cons (t := 8) rfl (.cons (t := 9) rfl (.cons (t := 10) rfl (.nil))))))))) ?_
  refine sx_seq fun K41 k41 => ?_
  refine sx_seq fun K42 k42 => sx_region ?_
  refine sx_pure rfl rfl rfl (px_load rfl (gw39.loadA (vs := [.bool ((dAt n1 z1 p1 q).1), s36, .int .i64 ((dAt n1 z1 p1 q).2.2.1)]) (look_lit rfl) Try.isAgg30 Try.sizeOf30)) ?_
  have f43 := gw18.ext c29
  have f44 := f43.ext cb30
  have f45 := f44.chg cw32 (by omega)
  have f46 := f45.ext c36
  have f47 := f46.ext cb37
  have f48 := f47.chg cw39 (by omega)
  refine sx_pure rfl rfl rfl (px_load rfl (f48.loadA (vs := [.bool ((dAt n1 z1 p1 q).1), s15, .int .i64 ((dAt n1 z1 p1 q).2.2.1)]) (look_lit rfl) Try.isAgg30 Try.sizeOf30)) ?_
  have f49 := f40.chg cw39 (by omega)
  have f50 := f19.chg cw18 (by omega)
  have f51 := f50.ext c29
  have f52 := f51.ext cb30
  have f53 := f52.chg cw32 (by omega)
  have f54 := f53.ext c36
  have f55 := f54.ext cb37
  have f56 := f55.chg cw39 (by omega)
  refine sx_call rfl rfl Try.call12 (c_eqDec f49.sv f56 (by omega)) (fun v57 w57 p57 => ?_)
  obtain ⟨rfl, c57⟩ := p57
  have zw57 := c57.size
  refine sx_pure rfl rfl rfl (px_notP rfl) ?_
  refine sm rfl rfl rfl rfl ?_
  have h4370 : ¬ (¬ (((dAt n1 z1 p1 q).1) = ((dAt n1 z1 p1 q).1) ∧ ((dAt n1 z1 p1 q).2.1) = ((dAt n1 z1 p1 q).2.1) ∧ ((dAt n1 z1 p1 q).2.2.1) = ((dAt n1 z1 p1 q).2.2.1))) := by simp [mk_length]
  refine sx_tmpPF (t := 40) rfl h4370 ?_
  refine sx_guardT rfl rfl rfl ?_
  refine sm rfl rfl rfl rfl ?_
  refine sx_guardT rfl rfl rfl ?_
  refine sm rfl rfl rfl rfl ?_
  refine sx_guardT rfl rfl rfl ?_
  refine sx_pure rfl rfl rfl (px_neB Try.underlying4 rfl rfl) ?_
  refine sx_pure rfl rfl rfl (px_pick rfl rfl) ?_
  refine wl_nil (q_n (k42 _ _ ?_))
  refine sx_sub (Sub.cons (t := 1) rfl (.cons (t := 2) rfl (.cons (t := 4) rfl (.cons (t := 6) rfl (.cons (t := 7) rfl (.cons (t := 8) rfl (.cons (t := 9) rfl (.cons (t := 10) rfl (.cons (t := 44) rfl (.nil)))))))))) ?_
  have h4370x1 : (((dAt n1 z1 p1 q).2.2.2) != ((dAt n1 z1 p1 q).2.2.2)) = false := by simp [mk_length]
  refine sx_condBF rfl h4370x1 ?_
  refine sx_skip ?_
  refine q_n (k41 _ _ ?_)
  refine sx_seq fun K58 k58 => ?_
  refine sx_seq fun K59 k59 => ?_
  have f60 := f24.ext c29
  have f61 := f60.ext cb30
  have f62 := f61.chg cw32 (by omega)
  have f63 := f62.ext c36
  have f64 := f63.ext cb37
  have f65 := f64.chg cw39 (by omega)
  have f66 := f65.ext c57
  have f67 := f48.ext c57
  have f68 := gw32.ext c36
  have f69 := f68.ext cb37
  have f70 := f69.chg cw39 (by omega)
  have f71 := f70.ext c57
  have f72 := gw39.ext c57
  have f73 := f28.ext c29
  have f74 := f73.ext cb30
  have f75 := f74.chg cw32 (by omega)
  have f76 := f75.ext c36
  have f77 := f76.ext cb37
  have f78 := f77.chg cw39 (by omega)
  have f79 := f78.ext c57
  have f80 := os1_14.ext c15
  have f81 := f80.ext cb16
  have f82 := f81.chg cw18 (by omega)
  have f83 := f82.ext c29
  have f84 := f83.ext cb30
  have f85 := f84.chg cw32 (by omega)
  have f86 := f85.ext c36
  have f87 := f86.ext cb37
  have f88 := f87.chg cw39 (by omega)
  have f89 := f88.ext c57
  have f90 := f56.ext c57
  have f91 := f35.ext c36
  have f92 := f91.ext cb37
  have f93 := f92.chg cw39 (by omega)
  have f94 := f93.ext c57
  have f95 := f49.ext c57
  refine dx_region (fun w' => Chg 0 0 w57 w') (by kernel_rfl) (Chg.zero (Chg.drew _)) ?_
  have d96 := Chg.drew w57
  have s96 : Chg 0 0 w57 (World.drew w57) := Chg.zero (Chg.drew _)
  have y96 : (World.drew w57).heap.size = w57.heap.size := rfl
  generalize World.drew w57 = w96 at *
  have zw96 := d96.size
  refine dx_take 0 rfl rfl rfl rfl (by kernel_rfl) (by kernel_rfl) (by kernel_rfl) s96 (fun _ hS => px_load rfl ((f71.chg hS (by omega)).loadA (vs := [.bool n1, s129, .int .i64 p1]) (look_lit rfl) Try.isAgg30 Try.sizeOf30)) ?_
  refine dx_take 1 rfl rfl rfl rfl (by kernel_rfl) (by kernel_rfl) (by kernel_rfl) s96 (fun _ hS => px_load rfl ((f66.chg hS (by omega)).loadA (vs := [.bool n1, v1, .int .i64 p1]) (look_lit rfl) Try.isAgg26 Try.sizeOf26)) ?_
  refine dx_eff 2 rfl (by kernel_rfl) ?_
  have f97 := f79.ext d96
  refine sx_call rfl rfl Try.call10 (c_toDec f97 (by omega)) (fun v98 w98 p98 => ?_)
  obtain ⟨s198, rfl, os1_98, c98⟩ := p98
  have zw98 := c98.size
  have s99 : Chg 0 0 w57 w98 := (d96.t c98)
  refine wl_nil ?_
  refine dx_next s99 ?_
  refine dx_eff 3 rfl (by kernel_rfl) ?_
  have f100 := f94.ext d96
  have f101 := f100.ext c98
  refine sx_call rfl rfl Try.call12 (c_eqDec f101.sv os1_98.sv (by omega)) (fun v102 w102 p102 => ?_)
  obtain ⟨rfl, c102⟩ := p102
  have zw102 := c102.size
  have s103 : Chg 0 0 w57 w102 := ((d96.t c98).t c102)
  refine wl_nil ?_
  refine dx_next s103 ?_
  refine dx_take 4 rfl rfl rfl rfl (by kernel_rfl) (by kernel_rfl) (by kernel_rfl) s103 (fun _ hS => px_notP rfl) ?_
  refine dx_done (by kernel_rfl) ?_
  refine q_n (k59 _ _ ?_)
  have h4373 : ¬ (¬ (n1 = n1 ∧ z1 = z1 ∧ p1 = p1)) := by simp [mk_length]
  refine sx_condPF rfl h4373 ?_
  refine sx_skip ?_
  refine q_n (k58 _ _ ?_)
  refine sx_seq fun K104 k104 => sx_region ?_
  refine sa rfl rfl rfl rfl ?_
  refine wl_nil (q_n (k104 _ _ ?_))
  refine sx_sub (Sub.cons (t := 1) rfl (.cons (t := 2) rfl (.cons (t := 4) rfl (.cons (t := 6) rfl (.cons (t := 7) rfl (.cons (t := 8) rfl (.cons (t := 9) rfl (.cons (t := 10) rfl (.cons (t := 11) rfl (.nil)))))))))) ?_
  refine sx_seq fun K105 k105 => sx_region ?_
  have f106 := f71.ext d96
  have f107 := f106.ext c98
  have f108 := f107.ext c102
  refine sx_pure rfl rfl rfl (px_load rfl (f108.loadA (vs := [.bool n1, s129, .int .i64 p1]) (look_lit rfl) Try.isAgg30 Try.sizeOf30)) ?_
  refine sm rfl rfl rfl rfl ?_
  have f109 := f101.ext c102
  refine sx_call rfl rfl Try.call13 (c_markDec f109 (by omega) (by omega)) (fun v110 w110 p110 => ?_)
  obtain ⟨rfl, ov1_110, c110⟩ := p110
  have zw110 := c110.size
  refine sa rfl rfl rfl rfl ?_
  refine wl_nil (q_n (k105 _ _ ?_))
  refine sx_seq fun K111 k111 => ?_
  refine sx_seq fun K112 k112 => sx_region ?_
  refine sm rfl rfl rfl rfl ?_
  refine sx_pure rfl rfl rfl (px_lt rfl rfl) ?_
  refine sm rfl rfl rfl rfl ?_
  have h4378 : ¬ (((1 : Int) + ↑(z1).length : Int) < 0) := by omega
  refine sx_tmpPF (t := 55) rfl h4378 ?_
  refine sx_guardT rfl rfl rfl ?_
  have f113 := f72.ext d96
  have f114 := f113.ext c98
  have f115 := f114.ext c102
  have f116 := f115.chg c110 (by omega)
  refine sx_pure rfl rfl rfl (px_load rfl (f116.loadA (vs := [.bool ((dAt n1 z1 p1 q).1), s36, .int .i64 ((dAt n1 z1 p1 q).2.2.1)]) (look_lit rfl) Try.isAgg30 Try.sizeOf30)) ?_
  refine sx_guardT rfl rfl rfl ?_
  have f117 := f67.ext d96
  have f118 := f117.ext c98
  have f119 := f118.ext c102
  have f120 := f119.chg c110 (by omega)
  refine sx_pure rfl rfl rfl (px_load rfl (f120.loadA (vs := [.bool ((dAt n1 z1 p1 q).1), s15, .int .i64 ((dAt n1 z1 p1 q).2.2.1)]) (look_lit rfl) Try.isAgg30 Try.sizeOf30)) ?_
  refine sx_guardT rfl rfl rfl ?_
  have f121 := f95.ext d96
  have f122 := f121.ext c98
  have f123 := f122.ext c102
  have f124 := f123.chg c110 (by omega)
  have f125 := f90.ext d96
  have f126 := f125.ext c98
  have f127 := f126.ext c102
  have f128 := f127.chg c110 (by omega)
  refine sx_call rfl rfl Try.call12 (c_eqDec f124.sv f128 (by omega)) (fun v129 w129 p129 => ?_)
  obtain ⟨rfl, c129⟩ := p129
  have zw129 := c129.size
  refine sx_guardT rfl rfl rfl ?_
  refine sx_pure rfl rfl rfl (px_notP rfl) ?_
  refine sx_pure rfl rfl rfl (px_pick rfl rfl) ?_
  refine sm rfl rfl rfl rfl ?_
  have h4378x1 : ¬ (¬ (((dAt n1 z1 p1 q).1) = ((dAt n1 z1 p1 q).1) ∧ ((dAt n1 z1 p1 q).2.1) = ((dAt n1 z1 p1 q).2.1) ∧ ((dAt n1 z1 p1 q).2.2.1) = ((dAt n1 z1 p1 q).2.2.1))) := by simp [mk_length]
  refine sx_tmpPF (t := 61) rfl h4378x1 ?_
  refine sx_guardT rfl rfl rfl ?_
  refine sm rfl rfl rfl rfl ?_
  refine sx_guardT rfl rfl rfl ?_
  refine sm rfl rfl rfl rfl ?_
  refine sx_guardT rfl rfl rfl ?_
  refine sx_pure rfl rfl rfl (px_neB Try.underlying4 rfl rfl) ?_
  refine sx_pure rfl rfl rfl (px_pick rfl rfl) ?_
  refine wl_nil (q_n (k112 _ _ ?_))
  refine sx_sub (Sub.cons (t := 1) rfl (.cons (t := 2) rfl (.cons (t := 4) rfl (.cons (t := 6) rfl (.cons (t := 7) rfl (.cons (t := 9) rfl (.cons (t := 65) rfl (.nil)))))))) ?_
  have h4378x2 : (((dAt n1 z1 p1 q).2.2.2) != ((dAt n1 z1 p1 q).2.2.2)) = false := by simp [mk_length]
  refine sx_condBF rfl h4378x2 ?_
  refine sx_skip ?_
  refine q_n (k111 _ _ ?_)
  refine sx_seq fun K130 k130 => sx_region ?_
  refine sa rfl rfl rfl rfl ?_
  refine wl_nil (q_n (k130 _ _ ?_))
  refine sx_seq fun K131 k131 => sx_region ?_
  have f132 := f116.ext c129
  refine sx_pure rfl rfl rfl (px_load rfl (f132.loadA (vs := [.bool ((dAt n1 z1 p1 q).1), s36, .int .i64 ((dAt n1 z1 p1 q).2.2.1)]) (look_lit rfl) Try.isAgg30 Try.sizeOf30)) ?_
  refine sm rfl rfl rfl rfl ?_
  have f133 := f124.ext c129
  refine sx_call rfl rfl Try.call13 (c_markDec f133 (by omega) (by omega)) (fun v134 w134 p134 => ?_)
  obtain ⟨rfl, ov1_134, c134⟩ := p134
  have zw134 := c134.size
  refine sa rfl rfl rfl rfl ?_
  refine wl_nil (q_n (k131 _ _ ?_))
  refine sx_seq fun K135 k135 => sx_region ?_
  refine sa rfl rfl rfl rfl ?_
  refine wl_nil (q_n (k135 _ _ ?_))
  refine sx_seq fun K136 k136 => sx_region ?_
  have f137 := f132.chg c134 (by omega)
  refine sx_pure rfl rfl rfl (px_load rfl (f137.loadA (vs := [.bool ((dAt n1 z1 p1 q).1), s36, .int .i64 ((dAt n1 z1 p1 q).2.2.1)]) (look_lit rfl) Try.isAgg30 Try.sizeOf30)) ?_
  refine sm rfl rfl rfl rfl ?_
  refine sx_call rfl rfl Try.call14 (c_heldDec ov1_134.sv (by first | omega | (simp only [mk_length]; omega)) (by omega) (by first | assumption | simp [mk_length])) (fun v138 w138 p138 => ?_)
  obtain ⟨rfl, c138⟩ := p138
  have zw138 := c138.size
  refine sa rfl rfl rfl rfl ?_
  refine wl_nil (q_n (k136 _ _ ?_))
  refine sx_sub (Sub.cons (t := 1) rfl (.cons (t := 2) rfl (.cons (t := 4) rfl (.cons (t := 6) rfl (.cons (t := 7) rfl (.cons (t := 9) rfl (.cons (t := 12) rfl (.cons (t := 13) rfl (.nil))))))))) ?_
  refine sx_seq fun K139 k139 => ?_
  refine sx_seq fun K140 k140 => sx_region ?_
  refine sm rfl rfl rfl rfl ?_
  refine sx_pure rfl rfl rfl (px_lt rfl rfl) ?_
  refine wl_nil (q_n (k140 _ _ ?_))
  have h4385 : ¬ (((1 : Int) + ↑((mk (1 : Int) (((dAt n1 z1 p1 q).2.1)).length)).length : Int) < 0) := by omega
  refine sx_condPF rfl h4385 ?_
  refine sx_skip ?_
  refine q_n (k139 _ _ ?_)
  refine sx_seq fun K141 k141 => ?_
  refine sx_seq fun K142 k142 => sx_region ?_
  refine sm rfl rfl rfl rfl ?_
  refine sm rfl rfl rfl rfl ?_
  refine sx_pure rfl rfl rfl (px_ne rfl rfl) ?_
  refine wl_nil (q_n (k142 _ _ ?_))
  have h4388 : ¬ (((1 : Int) + ↑((mk (1 : Int) (((dAt n1 z1 p1 q).2.1)).length)).length : Int) ≠ (1 : Int) + ↑(((dAt n1 z1 p1 q).2.1)).length) := by simp [mk_length]
  refine sx_condPF rfl h4388 ?_
  refine sx_skip ?_
  refine q_n (k141 _ _ ?_)
  refine sx_seq fun K143 k143 => sx_region ?_
  have f144 := f66.ext d96
  have f145 := f144.ext c98
  have f146 := f145.ext c102
  have f147 := f146.chg c110 (by omega)
  have f148 := f147.ext c129
  have f149 := f148.chg c134 (by omega)
  have f150 := f149.ext c138
  refine sx_pure rfl rfl rfl (px_load rfl (f150.loadA (vs := [.bool n1, v1, .int .i64 p1]) (look_lit rfl) Try.isAgg26 Try.sizeOf26)) ?_
  have f151 := f97.ext c98
  have f152 := f151.ext c102
  have f153 := f152.chg c110 (by omega)
  have f154 := f153.ext c129
  have f155 := f154.chg c134 (by omega)
  have f156 := f155.ext c138
  refine sx_call rfl rfl Try.call10 (c_toDec f156 (by omega)) (fun v157 w157 p157 => ?_)
  obtain ⟨s1157, rfl, os1_157, c157⟩ := p157
  have zw157 := c157.size
  refine sm rfl rfl rfl rfl ?_
  refine sx_call rfl rfl Try.call11 (c_iDecAt os1_157.sv (by omega)) (fun v158 w158 p158 => ?_)
  obtain ⟨s158, rfl, os_158, hl158, c158⟩ := p158
  have zw158 := c158.size
  refine sm rfl rfl rfl rfl ?_
  refine sx_pure rfl rfl rfl (px_extract (vs := [.agg #[.bool ((dAt n1 z1 p1 q).1), s158, .int .i64 ((dAt n1 z1 p1 q).2.2.1)], .bool ((dAt n1 z1 p1 q).2.2.2)]) rfl rfl) ?_
  refine sx_pure rfl rfl rfl (px_extract (vs := [.agg #[.bool ((dAt n1 z1 p1 q).1), s158, .int .i64 ((dAt n1 z1 p1 q).2.2.1)], .bool ((dAt n1 z1 p1 q).2.2.2)]) rfl rfl) ?_
  refine sx_alloc [.bool false, (.slice none 0 0), .int .i64 0] rfl Try.zeroValue30 rfl (fun b159 w160 eb159 sb159 fb159 cb159 => ?_)
  have zw160 := cb159.size
  have f162 := os_158.ext cb159
  refine sx_store (vs := [.bool ((dAt n1 z1 p1 q).1), s158, .int .i64 ((dAt n1 z1 p1 q).2.2.1)]) rfl rfl fb159 rfl Try.sizeOf30 (Nat.le_of_ble_eq_true rfl) (one_cons rfl (one_cons f162.one (one_cons rfl one_nil))) (fun w161 sw161 fw161 cw161 => ?_)
  have zw161 := cw161.size
  have gw161 : Blk w161 b159 [.bool ((dAt n1 z1 p1 q).1), s158, .int .i64 ((dAt n1 z1 p1 q).2.2.1)] 30 := fw161
  refine sa rfl rfl rfl rfl ?_
  refine wl_nil (q_n (k143 _ _ ?_))
  refine sx_sub (Sub.cons (t := 4) rfl (.cons (t := 6) rfl (.cons (t := 7) rfl (.cons (t := 9) rfl (.cons (t := 12) rfl (.cons (t := 13) rfl (.cons (t := 14) rfl (.cons (t := 15) rfl (.nil))))))))) ?_
  refine sx_seq fun K163 k163 => ?_
  refine sx_seq fun K164 k164 => sx_region ?_
  refine sx_pure rfl rfl rfl (px_load rfl (gw161.loadA (vs := [.bool ((dAt n1 z1 p1 q).1), s158, .int .i64 ((dAt n1 z1 p1 q).2.2.1)]) (look_lit rfl) Try.isAgg30 Try.sizeOf30)) ?_
  have f165 := f120.ext c129
  have f166 := f165.chg c134 (by omega)
  have f167 := f166.ext c138
  have f168 := f167.ext c157
  have f169 := f168.ext c158
  have f170 := f169.ext cb159
  have f171 := f170.chg cw161 (by omega)
  refine sx_pure rfl rfl rfl (px_load rfl (f171.loadA (vs := [.bool ((dAt n1 z1 p1 q).1), s15, .int .i64 ((dAt n1 z1 p1 q).2.2.1)]) (look_lit rfl) Try.isAgg30 Try.sizeOf30)) ?_
  have f172 := f162.chg cw161 (by omega)
  have f173 := f128.ext c129
  have f174 := f173.chg c134 (by omega)
  have f175 := f174.ext c138
  have f176 := f175.ext c157
  have f177 := f176.ext c158
  have f178 := f177.ext cb159
  have f179 := f178.chg cw161 (by omega)
  refine sx_call rfl rfl Try.call12 (c_eqDec f172.sv f179 (by omega)) (fun v180 w180 p180 => ?_)
  obtain ⟨rfl, c180⟩ := p180
  have zw180 := c180.size
  refine sx_pure rfl rfl rfl (px_notP rfl) ?_
  refine sm rfl rfl rfl rfl ?_
  have h4392 : ¬ (¬ (((dAt n1 z1 p1 q).1) = ((dAt n1 z1 p1 q).1) ∧ ((dAt n1 z1 p1 q).2.1) = ((dAt n1 z1 p1 q).2.1) ∧ ((dAt n1 z1 p1 q).2.2.1) = ((dAt n1 z1 p1 q).2.2.1))) := by simp [mk_length]
  refine sx_tmpPF (t := 88) rfl h4392 ?_
  refine sx_guardT rfl rfl rfl ?_
  refine sm rfl rfl rfl rfl ?_
  refine sx_guardT rfl rfl rfl ?_
  refine sm rfl rfl rfl rfl ?_
  refine sx_guardT rfl rfl rfl ?_
  refine sx_pure rfl rfl rfl (px_neB Try.underlying4 rfl rfl) ?_
  refine sx_pure rfl rfl rfl (px_pick rfl rfl) ?_
  refine wl_nil (q_n (k164 _ _ ?_))
  refine sx_sub (Sub.cons (t := 4) rfl (.cons (t := 9) rfl (.cons (t := 12) rfl (.cons (t := 13) rfl (.cons (t := 92) rfl (.nil)))))) ?_
  have h4392x1 : (((dAt n1 z1 p1 q).2.2.2) != ((dAt n1 z1 p1 q).2.2.2)) = false := by simp [mk_length]
  refine sx_condBF rfl h4392x1 ?_
  refine sx_skip ?_
  refine q_n (k163 _ _ ?_)
  refine sx_seq fun K181 k181 => sx_region ?_
  refine sa rfl rfl rfl rfl ?_
  refine wl_nil (q_n (k181 _ _ ?_))
  refine sx_seq fun K182 k182 => sx_region ?_
  have f183 := f137.ext c138
  have f184 := f183.ext c157
  have f185 := f184.ext c158
  have f186 := f185.ext cb159
  have f187 := f186.chg cw161 (by omega)
  have f188 := f187.ext c180
  refine sx_pure rfl rfl rfl (px_load rfl (f188.loadA (vs := [.bool ((dAt n1 z1 p1 q).1), s36, .int .i64 ((dAt n1 z1 p1 q).2.2.1)]) (look_lit rfl) Try.isAgg30 Try.sizeOf30)) ?_
  refine sm rfl rfl rfl rfl ?_
  have f189 := ov1_134.ext c138
  have f190 := f189.ext c157
  have f191 := f190.ext c158
  have f192 := f191.ext cb159
  have f193 := f192.chg cw161 (by omega)
  have f194 := f193.ext c180
  refine sx_call rfl rfl Try.call14 (c_heldDec f194.sv (by first | omega | (simp only [mk_length]; omega)) (by omega) (by first | assumption | simp [mk_length])) (fun v195 w195 p195 => ?_)
  obtain ⟨rfl, c195⟩ := p195
  have zw195 := c195.size
  refine sa rfl rfl rfl rfl ?_
  refine wl_nil (q_n (k182 _ _ ?_))
  refine sx_seq fun K196 k196 => ?_
  refine sx_seq fun K197 k197 => sx_region ?_
  refine sm rfl rfl rfl rfl ?_
  refine sx_pure rfl rfl rfl (px_lt rfl rfl) ?_
  refine wl_nil (q_n (k197 _ _ ?_))
  have h4397 : ¬ (((1 : Int) + ↑((mk (1 : Int) (((dAt n1 z1 p1 q).2.1)).length)).length : Int) < 0) := by omega
  refine sx_condPF rfl h4397 ?_
  refine sx_skip ?_
  refine q_n (k196 _ _ ?_)
  refine sx_seq fun K198 k198 => ?_
  refine sx_seq fun K199 k199 => sx_region ?_
  refine sm rfl rfl rfl rfl ?_
  refine sm rfl rfl rfl rfl ?_
  refine sx_pure rfl rfl rfl (px_ne rfl rfl) ?_
  refine wl_nil (q_n (k199 _ _ ?_))
  have h4400 : ¬ (((1 : Int) + ↑((mk (1 : Int) (((dAt n1 z1 p1 q).2.1)).length)).length : Int) ≠ (1 : Int) + ↑(((dAt n1 z1 p1 q).2.1)).length) := by simp [mk_length]
  refine sx_condPF rfl h4400 ?_
  refine sx_skip ?_
  refine q_n (k198 _ _ ?_)
  refine sx_seq fun K200 k200 => sx_region ?_
  refine sa rfl rfl rfl rfl ?_
  refine wl_nil (q_n (k200 _ _ ?_))
  refine sx_retc ?_
  refine sx_ret1 Try.results3 rfl ?_
  have q201 := Chg.step (l := 0) (h := 0) (Chg.zero (l := 0) (h := 0) ((((cb2.t c7).t c14).t c15).t cb16)) cw18 (by omega)
  have q202 := Chg.step (l := 0) (h := 0) q201 (c29.t cb30) (by omega)
  have q203 := Chg.step (l := 0) (h := 0) q202 cw32 (by omega)
  have q204 := Chg.step (l := 0) (h := 0) q203 (c36.t cb37) (by omega)
  have q205 := Chg.step (l := 0) (h := 0) q204 cw39 (by omega)
  have q206 := Chg.step (l := 0) (h := 0) q205 (((c57.t d96).t c98).t c102) (by omega)
  have q207 := Chg.step (l := 0) (h := 0) q206 c110 (by omega)
  have q208 := Chg.step (l := 0) (h := 0) q207 c129 (by omega)
  have q209 := Chg.step (l := 0) (h := 0) q208 c134 (by omega)
  have q210 := Chg.step (l := 0) (h := 0) q209 (((c138.t c157).t c158).t cb159) (by omega)
  have q211 := Chg.step (l := 0) (h := 0) q210 cw161 (by omega)
  have q212 := Chg.step (l := 0) (h := 0) q211 (c180.t c195) (by omega)
  exact ⟨rfl, q212⟩

end Go.Proofs.Ytfoceofnldnbgaa
