/- Contracts of functions of the program: what each call returns, and that it changes nothing that was. Conditions: as each says. -/
import Derived.Test.YtfoceofnldnbgaaTy
import Derived.Test.YtfoceofnldnbgaaNatK
import Derived.Test.YtfoceofnldnbgaaRm
import Derived.Test.YtfoceofnldnbgaaK1
import Derived.Test.YtfoceofnldnbgaaK2
set_option linter.unusedVariables false
set_option linter.unusedSimpArgs false
namespace Go.Proofs.Ytfoceofnldnbgaa
open Go Go.RowKit
set_option maxRecDepth 100000
theorem law_RatDec {w : World} {n1 : Bool} {v1 : Value} {lv1 uv1 : Nat} {z1 : List Int} {d1 : Value} {ld1 ud1 : Nat} {y1 : List Int} {q : Int} {m : Int} (hv1 : Sl w lv1 uv1 v1 (z1)) (hd1 : Sl w ld1 ud1 d1 (y1)) (bz1 : z1.length ≤ 9223372036854775807) (by1 : y1.length ≤ 9223372036854775807) (biq : -9223372036854775808 ≤ q ∧ q ≤ 9223372036854775807) (bim : -9223372036854775808 ≤ m ∧ m ≤ 9223372036854775807) :
  Ret Try.prog 5 [.agg #[.bool n1, v1, d1], .int .i64 q, .int .i64 m] w fun v w' => v = .bool (true) ∧ Chg 0 0 w w' := by
 have hv10 := hv1.fit
 have hd10 := hd1.fit
 refine sx_enter Try.func5 rfl Try.ntmps5 (Nat.le_of_ble_eq_true rfl) ?_
 refine sx_seq fun K1 k1 => sx_region ?_
 refine sx_box [.bool n1, v1, d1] rfl rfl rfl (fun b2 w3 eb2 sb2 fb2 cb2 => ?_)
 have zw3 := cb2.size
 refine sa rfl rfl rfl rfl ?_
 refine wl_nil (q_n (k1 _ _ ?_))
 refine sx_seq fun K4 k4 => sx_region ?_
 refine sa rfl rfl rfl rfl ?_
 refine wl_nil (q_n (k4 _ _ ?_))
 refine sx_seq fun K5 k5 => sx_region ?_
 refine sx_pure rfl rfl rfl (px_load rfl (fb2.loadA (vs := [.bool n1, v1, d1]) (look_lit rfl) Try.isAgg40 Try.sizeOf40)) ?_
 refine sm rfl rfl rfl rfl ?_
 have f6 := hv10.ext cb2
 have f7 := hd10.ext cb2
 refine sx_call rfl rfl Try.call17 (c_szRat f6 f7 (by omega) (by omega) (by omega)) (fun v8 w8 p8 => ?_)
 obtain ⟨r8, rfl, hr8, c8⟩ := p8
 have zw8 := c8.size
 refine sa rfl rfl rfl rfl ?_
 refine wl_nil (q_n (k5 _ _ ?_))
 refine sx_seq fun K9 k9 => ?_
 refine sx_seq fun K10 k10 => sx_region ?_
 refine sm rfl rfl rfl rfl ?_
 refine sx_pure rfl rfl rfl (px_lt rfl rfl) ?_
 refine wl_nil (q_n (k10 _ _ ?_))
 refine sx_condP rfl (fun h4648 => ?_) (fun h4648 => ?_)
 ·
  refine sx_seq fun K11 k11 => sx_region ?_
  refine sa rfl rfl rfl rfl ?_
  refine wl_nil (q_n (k11 _ _ ?_))
  refine sx_retc ?_
  refine q_r (sx_ret1 Try.results5 rfl ?_)
  exact ⟨rfl, (cb2.t c8)⟩
 ·
  refine sx_skip ?_
  refine q_n (k9 _ _ ?_)
  refine sx_seq fun K12 k12 => sx_region ?_
  have f13 := fb2.ext c8
  refine sx_pure rfl rfl rfl (px_load rfl (f13.loadA (vs := [.bool n1, v1, d1]) (look_lit rfl) Try.isAgg40 Try.sizeOf40)) ?_
  have f14 := f6.ext c8
  have f15 := f7.ext c8
  refine sx_call rfl rfl Try.call19 (c_toRat f14 f15 (by omega) (by omega)) (fun v16 w16 p16 => ?_)
  obtain ⟨s16, t16, ls16, us16, lt16, ut16, rfl, os_16, ot_16, hd16, c16⟩ := p16
  have zw16 := c16.size
  refine sm rfl rfl rfl rfl ?_
  refine sm rfl rfl rfl rfl ?_
  refine sx_call rfl rfl Try.call18 (c_sRatDec os_16.sv ot_16.sv (by omega)) (fun v17 w17 p17 => ?_)
  obtain ⟨s17, rfl, os_17, hl17, c17⟩ := p17
  have zw17 := c17.size
  refine sm rfl rfl rfl rfl ?_
  refine sx_pure rfl rfl rfl (px_extract (vs := [.agg #[.bool ((rDec n1 z1 y1 q m).1), s17, .int .i64 ((rDec n1 z1 y1 q m).2.2.1)], .bool ((rDec n1 z1 y1 q m).2.2.2)]) rfl rfl) ?_
  refine sx_pure rfl rfl rfl (px_extract (vs := [.agg #[.bool ((rDec n1 z1 y1 q m).1), s17, .int .i64 ((rDec n1 z1 y1 q m).2.2.1)], .bool ((rDec n1 z1 y1 q m).2.2.2)]) rfl rfl) ?_
  refine sx_alloc [.bool false, (.slice none 0 0), .int .i64 0] rfl Try.zeroValue30 rfl (fun b18 w19 eb18 sb18 fb18 cb18 => ?_)
  have zw19 := cb18.size
  have f21 := os_17.ext cb18
  refine sx_store (vs := [.bool ((rDec n1 z1 y1 q m).1), s17, .int .i64 ((rDec n1 z1 y1 q m).2.2.1)]) rfl rfl fb18 rfl Try.sizeOf30 (Nat.le_of_ble_eq_true rfl) (one_cons rfl (one_cons f21.one (one_cons rfl one_nil))) (fun w20 sw20 fw20 cw20 => ?_)
  have zw20 := cw20.size
  have gw20 : Blk w20 b18 [.bool ((rDec n1 z1 y1 q m).1), s17, .int .i64 ((rDec n1 z1 y1 q m).2.2.1)] 30 := fw20
  refine sa rfl rfl rfl rfl ?_
  refine wl_nil (q_n (k12 _ _ ?_))
  refine sx_sub (Sub.cons (t := 1) rfl (.cons (t := 2) rfl (.cons (t := 3) rfl (.cons (t := 6) rfl (.cons (t := 8) rfl (.cons (t := 9) rfl (.nil))))))) ?_
  refine sx_seq fun K22 k22 => sx_region ?_
  have f23 := f13.ext c16
  have f24 := f23.ext c17
  have f25 := f24.ext cb18
  have f26 := f25.chg cw20 (by omega)
  refine sx_pure rfl rfl rfl (px_load rfl (f26.loadA (vs := [.bool n1, v1, d1]) (look_lit rfl) Try.isAgg40 Try.sizeOf40)) ?_
  have f27 := f14.ext c16
  have f28 := f27.ext c17
  have f29 := f28.ext cb18
  have f30 := f29.chg cw20 (by omega)
  have f31 := f15.ext c16
  have f32 := f31.ext c17
  have f33 := f32.ext cb18
  have f34 := f33.chg cw20 (by omega)
  refine sx_call rfl rfl Try.call19 (c_toRat f30 f34 (by omega) (by omega)) (fun v35 w35 p35 => ?_)
  obtain ⟨s35, t35, ls35, us35, lt35, ut35, rfl, os_35, ot_35, hd35, c35⟩ := p35
  have zw35 := c35.size
  refine sx_alloc [.bool false, (.slice none 0 0), (.slice none 0 0)] rfl Try.zeroValue44 rfl (fun b36 w37 eb36 sb36 fb36 cb36 => ?_)
  have zw37 := cb36.size
  have f39 := ot_35.ext cb36
  have f40 := os_35.ext cb36
  refine sx_store (vs := [.bool n1, s35, t35]) rfl rfl fb36 rfl Try.sizeOf44 (Nat.le_of_ble_eq_true rfl) (one_cons rfl (one_cons f40.one (one_cons f39.one one_nil))) (fun w38 sw38 fw38 cw38 => ?_)
  have zw38 := cw38.size
  have gw38 : Blk w38 b36 [.bool n1, s35, t35] 44 := fw38
  refine wl_nil (q_n (k22 _ _ ?_))
  refine sx_seq fun K41 k41 => sx_region ?_
  refine sx_pure rfl rfl rfl (px_load rfl (gw38.loadA (vs := [.bool n1, s35, t35]) (look_lit rfl) Try.isAgg44 Try.sizeOf44)) ?_
  refine sm rfl rfl rfl rfl ?_
  refine sm rfl rfl rfl rfl ?_
  have f42 := f40.chg cw38 (by omega)
  have f43 := f39.chg cw38 (by omega)
  refine sx_call rfl rfl Try.call20 (c_iRatDec f42.sv f43.sv (by omega)) (fun v44 w44 p44 => ?_)
  obtain ⟨s44, rfl, os_44, hl44, c44⟩ := p44
  have zw44 := c44.size
  refine sm rfl rfl rfl rfl ?_
  refine sx_pure rfl rfl rfl (px_extract (vs := [.agg #[.bool ((rDec n1 z1 y1 q m).1), s44, .int .i64 ((rDec n1 z1 y1 q m).2.2.1)], .bool ((rDec n1 z1 y1 q m).2.2.2)]) rfl rfl) ?_
  refine sx_pure rfl rfl rfl (px_extract (vs := [.agg #[.bool ((rDec n1 z1 y1 q m).1), s44, .int .i64 ((rDec n1 z1 y1 q m).2.2.1)], .bool ((rDec n1 z1 y1 q m).2.2.2)]) rfl rfl) ?_
  refine sx_alloc [.bool false, (.slice none 0 0), .int .i64 0] rfl Try.zeroValue30 rfl (fun b45 w46 eb45 sb45 fb45 cb45 => ?_)
  have zw46 := cb45.size
  have f48 := os_44.ext cb45
  refine sx_store (vs := [.bool ((rDec n1 z1 y1 q m).1), s44, .int .i64 ((rDec n1 z1 y1 q m).2.2.1)]) rfl rfl fb45 rfl Try.sizeOf30 (Nat.le_of_ble_eq_true rfl) (one_cons rfl (one_cons f48.one (one_cons rfl one_nil))) (fun w47 sw47 fw47 cw47 => ?_)
  have zw47 := cw47.size
  have gw47 : Blk w47 b45 [.bool ((rDec n1 z1 y1 q m).1), s44, .int .i64 ((rDec n1 z1 y1 q m).2.2.1)] 30 := fw47
  refine sa rfl rfl rfl rfl ?_
  refine wl_nil (q_n (k41 _ _ ?_))
  refine sx_sub (Sub.cons (t := 1) rfl (.cons (t := 2) rfl (.cons (t := 3) rfl (.cons (t := 6) rfl (.cons (t := 8) rfl (.cons (t := 9) rfl (.cons (t := 10) rfl (.cons (t := 11) rfl (.cons (t := 12) rfl (.nil)))))))))) ?_
  refine sx_seq fun K49 k49 => ?_
  refine sx_seq fun K50 k50 => sx_region ?_
  refine sx_pure rfl rfl rfl (px_load rfl (gw47.loadA (vs := [.bool ((rDec n1 z1 y1 q m).1), s44, .int .i64 ((rDec n1 z1 y1 q m).2.2.1)]) (look_lit rfl) Try.isAgg30 Try.sizeOf30)) ?_
  have f51 := gw20.ext c35
  have f52 := f51.ext cb36
  have f53 := f52.chg cw38 (by omega)
  have f54 := f53.ext c44
  have f55 := f54.ext cb45
  have f56 := f55.chg cw47 (by omega)
  refine sx_pure rfl rfl rfl (px_load rfl (f56.loadA (vs := [.bool ((rDec n1 z1 y1 q m).1), s17, .int .i64 ((rDec n1 z1 y1 q m).2.2.1)]) (look_lit rfl) Try.isAgg30 Try.sizeOf30)) ?_
  have f57 := f48.chg cw47 (by omega)
  have f58 := f21.chg cw20 (by omega)
  have f59 := f58.ext c35
  have f60 := f59.ext cb36
  have f61 := f60.chg cw38 (by omega)
  have f62 := f61.ext c44
  have f63 := f62.ext cb45
  have f64 := f63.chg cw47 (by omega)
  refine sx_call rfl rfl Try.call12 (c_eqDec f57.sv f64.sv (by omega)) (fun v65 w65 p65 => ?_)
  obtain ⟨rfl, c65⟩ := p65
  have zw65 := c65.size
  refine sx_pure rfl rfl rfl (px_notP rfl) ?_
  refine sm rfl rfl rfl rfl ?_
  have h4654 : ¬ (¬ (((rDec n1 z1 y1 q m).1) = ((rDec n1 z1 y1 q m).1) ∧ ((rDec n1 z1 y1 q m).2.1) = ((rDec n1 z1 y1 q m).2.1) ∧ ((rDec n1 z1 y1 q m).2.2.1) = ((rDec n1 z1 y1 q m).2.2.1))) := by simp [mk_length]
  refine sx_tmpPF (t := 44) rfl h4654 ?_
  refine sx_guardT rfl rfl rfl ?_
  refine sm rfl rfl rfl rfl ?_
  refine sx_guardT rfl rfl rfl ?_
  refine sm rfl rfl rfl rfl ?_
  refine sx_guardT rfl rfl rfl ?_
  refine sx_pure rfl rfl rfl (px_neB Try.underlying4 rfl rfl) ?_
  refine sx_pure rfl rfl rfl (px_pick rfl rfl) ?_
  refine wl_nil (q_n (k50 _ _ ?_))
  refine sx_sub (Sub.cons (t := 1) rfl (.cons (t := 2) rfl (.cons (t := 3) rfl (.cons (t := 6) rfl (.cons (t := 8) rfl (.cons (t := 9) rfl (.cons (t := 10) rfl (.cons (t := 11) rfl (.cons (t := 12) rfl (.cons (t := 48) rfl (.nil))))))))))) ?_
  have h4654x1 : (((rDec n1 z1 y1 q m).2.2.2) != ((rDec n1 z1 y1 q m).2.2.2)) = false := by simp [mk_length]
  refine sx_condBF rfl h4654x1 ?_
  refine sx_skip ?_
  refine q_n (k49 _ _ ?_)
  refine sx_seq fun K66 k66 => ?_
  refine sx_seq fun K67 k67 => ?_
  have f68 := f26.ext c35
  have f69 := f68.ext cb36
  have f70 := f69.chg cw38 (by omega)
  have f71 := f70.ext c44
  have f72 := f71.ext cb45
  have f73 := f72.chg cw47 (by omega)
  have f74 := f73.ext c65
  have f75 := f56.ext c65
  have f76 := gw38.ext c44
  have f77 := f76.ext cb45
  have f78 := f77.chg cw47 (by omega)
  have f79 := f78.ext c65
  have f80 := gw47.ext c65
  have f81 := f30.ext c35
  have f82 := f81.ext cb36
  have f83 := f82.chg cw38 (by omega)
  have f84 := f83.ext c44
  have f85 := f84.ext cb45
  have f86 := f85.chg cw47 (by omega)
  have f87 := f86.ext c65
  have f88 := f34.ext c35
  have f89 := f88.ext cb36
  have f90 := f89.chg cw38 (by omega)
  have f91 := f90.ext c44
  have f92 := f91.ext cb45
  have f93 := f92.chg cw47 (by omega)
  have f94 := f93.ext c65
  have f95 := os_16.ext c17
  have f96 := f95.ext cb18
  have f97 := f96.chg cw20 (by omega)
  have f98 := f97.ext c35
  have f99 := f98.ext cb36
  have f100 := f99.chg cw38 (by omega)
  have f101 := f100.ext c44
  have f102 := f101.ext cb45
  have f103 := f102.chg cw47 (by omega)
  have f104 := f103.ext c65
  have f105 := ot_16.ext c17
  have f106 := f105.ext cb18
  have f107 := f106.chg cw20 (by omega)
  have f108 := f107.ext c35
  have f109 := f108.ext cb36
  have f110 := f109.chg cw38 (by omega)
  have f111 := f110.ext c44
  have f112 := f111.ext cb45
  have f113 := f112.chg cw47 (by omega)
  have f114 := f113.ext c65
  have f115 := f64.ext c65
  have f116 := f42.ext c44
  have f117 := f116.ext cb45
  have f118 := f117.chg cw47 (by omega)
  have f119 := f118.ext c65
  have f120 := f43.ext c44
  have f121 := f120.ext cb45
  have f122 := f121.chg cw47 (by omega)
  have f123 := f122.ext c65
  have f124 := f57.ext c65
  refine dx_region (fun w' => Chg 0 0 w65 w') (by kernel_rfl) (Chg.zero (Chg.drew _)) ?_
  have d125 := Chg.drew w65
  have s125 : Chg 0 0 w65 (World.drew w65) := Chg.zero (Chg.drew _)
  have y125 : (World.drew w65).heap.size = w65.heap.size := rfl
  generalize World.drew w65 = w125 at *
  have zw125 := d125.size
  refine dx_take 0 rfl rfl rfl rfl (by kernel_rfl) (by kernel_rfl) (by kernel_rfl) s125 (fun _ hS => px_load rfl ((f79.chg hS (by omega)).loadA (vs := [.bool n1, s35, t35]) (look_lit rfl) Try.isAgg44 Try.sizeOf44)) ?_
  refine dx_take 1 rfl rfl rfl rfl (by kernel_rfl) (by kernel_rfl) (by kernel_rfl) s125 (fun _ hS => px_load rfl ((f74.chg hS (by omega)).loadA (vs := [.bool n1, v1, d1]) (look_lit rfl) Try.isAgg40 Try.sizeOf40)) ?_
  refine dx_eff 2 rfl (by kernel_rfl) ?_
  have f126 := f87.ext d125
  have f127 := f94.ext d125
  refine sx_call rfl rfl Try.call19 (c_toRat f126 f127 (by omega) (by omega)) (fun v128 w128 p128 => ?_)
  obtain ⟨s128, t128, ls128, us128, lt128, ut128, rfl, os_128, ot_128, hd128, c128⟩ := p128
  have zw128 := c128.size
  have s129 : Chg 0 0 w65 w128 := (d125.t c128)
  refine wl_nil ?_
  refine dx_next s129 ?_
  refine dx_eff 3 rfl (by kernel_rfl) ?_
  have f130 := f119.ext d125
  have f131 := f130.ext c128
  have f132 := f123.ext d125
  have f133 := f132.ext c128
  refine sx_call rfl rfl Try.call21 (c_eqRat f131.sv f133.sv os_128.sv ot_128.sv (by omega)) (fun v134 w134 p134 => ?_)
  obtain ⟨rfl, c134⟩ := p134
  have zw134 := c134.size
  have s135 : Chg 0 0 w65 w134 := ((d125.t c128).t c134)
  refine wl_nil ?_
  refine dx_next s135 ?_
  refine dx_take 4 rfl rfl rfl rfl (by kernel_rfl) (by kernel_rfl) (by kernel_rfl) s135 (fun _ hS => px_notP rfl) ?_
  refine dx_done (by kernel_rfl) ?_
  refine q_n (k67 _ _ ?_)
  refine sx_sub (Sub.cons (t := 1) rfl (.cons (t := 2) rfl (.cons (t := 3) rfl (.cons (t := 6) rfl (.cons (t := 8) rfl (.cons (t := 9) rfl (.cons (t := 10) rfl (.cons (t := 11) rfl (.cons (t := 12) rfl (.cons (t := 53) rfl (.nil))))))))))) ?_
  have h4657 : ¬ (¬ (n1 = n1 ∧ z1 = z1 ∧ y1 = y1)) := by simp [mk_length]
  refine sx_condPF rfl h4657 ?_
  refine sx_skip ?_
  refine q_n (k66 _ _ ?_)
  refine sx_seq fun K136 k136 => sx_region ?_
  refine sa rfl rfl rfl rfl ?_
  refine wl_nil (q_n (k136 _ _ ?_))
  refine sx_seq fun K137 k137 => sx_region ?_
  have f138 := f79.ext d125
  have f139 := f138.ext c128
  have f140 := f139.ext c134
  refine sx_pure rfl rfl rfl (px_load rfl (f140.loadA (vs := [.bool n1, s35, t35]) (look_lit rfl) Try.isAgg44 Try.sizeOf44)) ?_
  refine sm rfl rfl rfl rfl ?_
  have f141 := f131.ext c134
  have f142 := f133.ext c134
  refine sx_call rfl rfl Try.call22 (c_markRat f141 f142 (by omega) (by omega) (by omega)) (fun v143 w143 p143 => ?_)
  obtain ⟨rfl, ov1_143, od1_143, c143⟩ := p143
  have zw143 := c143.size
  refine sa rfl rfl rfl rfl ?_
  refine wl_nil (q_n (k137 _ _ ?_))
  refine sx_seq fun K144 k144 => ?_
  refine sx_seq fun K145 k145 => sx_region ?_
  refine sm rfl rfl rfl rfl ?_
  refine sx_pure rfl rfl rfl (px_lt rfl rfl) ?_
  refine sm rfl rfl rfl rfl ?_
  have h4662 : ¬ (((1 : Int) + ↑(z1).length + ↑(y1).length : Int) < 0) := by omega
  refine sx_tmpPF (t := 59) rfl h4662 ?_
  refine sx_guardT rfl rfl rfl ?_
  have f146 := f80.ext d125
  have f147 := f146.ext c128
  have f148 := f147.ext c134
  have f149 := f148.chg c143 (by omega)
  refine sx_pure rfl rfl rfl (px_load rfl (f149.loadA (vs := [.bool ((rDec n1 z1 y1 q m).1), s44, .int .i64 ((rDec n1 z1 y1 q m).2.2.1)]) (look_lit rfl) Try.isAgg30 Try.sizeOf30)) ?_
  refine sx_guardT rfl rfl rfl ?_
  have f150 := f75.ext d125
  have f151 := f150.ext c128
  have f152 := f151.ext c134
  have f153 := f152.chg c143 (by omega)
  refine sx_pure rfl rfl rfl (px_load rfl (f153.loadA (vs := [.bool ((rDec n1 z1 y1 q m).1), s17, .int .i64 ((rDec n1 z1 y1 q m).2.2.1)]) (look_lit rfl) Try.isAgg30 Try.sizeOf30)) ?_
  refine sx_guardT rfl rfl rfl ?_
  have f154 := f124.ext d125
  have f155 := f154.ext c128
  have f156 := f155.ext c134
  have f157 := f156.chg c143 (by omega)
  have f158 := f115.ext d125
  have f159 := f158.ext c128
  have f160 := f159.ext c134
  have f161 := f160.chg c143 (by omega)
  refine sx_call rfl rfl Try.call12 (c_eqDec f157.sv f161.sv (by omega)) (fun v162 w162 p162 => ?_)
  obtain ⟨rfl, c162⟩ := p162
  have zw162 := c162.size
  refine sx_guardT rfl rfl rfl ?_
  refine sx_pure rfl rfl rfl (px_notP rfl) ?_
  refine sx_pure rfl rfl rfl (px_pick rfl rfl) ?_
  refine sm rfl rfl rfl rfl ?_
  have h4662x1 : ¬ (¬ (((rDec n1 z1 y1 q m).1) = ((rDec n1 z1 y1 q m).1) ∧ ((rDec n1 z1 y1 q m).2.1) = ((rDec n1 z1 y1 q m).2.1) ∧ ((rDec n1 z1 y1 q m).2.2.1) = ((rDec n1 z1 y1 q m).2.2.1))) := by simp [mk_length]
  refine sx_tmpPF (t := 65) rfl h4662x1 ?_
  refine sx_guardT rfl rfl rfl ?_
  refine sm rfl rfl rfl rfl ?_
  refine sx_guardT rfl rfl rfl ?_
  refine sm rfl rfl rfl rfl ?_
  refine sx_guardT rfl rfl rfl ?_
  refine sx_pure rfl rfl rfl (px_neB Try.underlying4 rfl rfl) ?_
  refine sx_pure rfl rfl rfl (px_pick rfl rfl) ?_
  refine wl_nil (q_n (k145 _ _ ?_))
  refine sx_sub (Sub.cons (t := 1) rfl (.cons (t := 2) rfl (.cons (t := 3) rfl (.cons (t := 6) rfl (.cons (t := 8) rfl (.cons (t := 9) rfl (.cons (t := 11) rfl (.cons (t := 69) rfl (.nil))))))))) ?_
  have h4662x2 : (((rDec n1 z1 y1 q m).2.2.2) != ((rDec n1 z1 y1 q m).2.2.2)) = false := by simp [mk_length]
  refine sx_condBF rfl h4662x2 ?_
  refine sx_skip ?_
  refine q_n (k144 _ _ ?_)
  refine sx_seq fun K163 k163 => sx_region ?_
  refine sa rfl rfl rfl rfl ?_
  refine wl_nil (q_n (k163 _ _ ?_))
  refine sx_seq fun K164 k164 => sx_region ?_
  have f165 := f149.ext c162
  refine sx_pure rfl rfl rfl (px_load rfl (f165.loadA (vs := [.bool ((rDec n1 z1 y1 q m).1), s44, .int .i64 ((rDec n1 z1 y1 q m).2.2.1)]) (look_lit rfl) Try.isAgg30 Try.sizeOf30)) ?_
  refine sm rfl rfl rfl rfl ?_
  have f166 := f157.ext c162
  refine sx_call rfl rfl Try.call13 (c_markDec f166 (by omega) (by omega)) (fun v167 w167 p167 => ?_)
  obtain ⟨rfl, ov1_167, c167⟩ := p167
  have zw167 := c167.size
  refine sa rfl rfl rfl rfl ?_
  refine wl_nil (q_n (k164 _ _ ?_))
  refine sx_seq fun K168 k168 => sx_region ?_
  refine sa rfl rfl rfl rfl ?_
  refine wl_nil (q_n (k168 _ _ ?_))
  refine sx_seq fun K169 k169 => sx_region ?_
  have f170 := f165.chg c167 (by omega)
  refine sx_pure rfl rfl rfl (px_load rfl (f170.loadA (vs := [.bool ((rDec n1 z1 y1 q m).1), s44, .int .i64 ((rDec n1 z1 y1 q m).2.2.1)]) (look_lit rfl) Try.isAgg30 Try.sizeOf30)) ?_
  refine sm rfl rfl rfl rfl ?_
  refine sx_call rfl rfl Try.call14 (c_heldDec ov1_167.sv (by first | omega | (simp only [mk_length]; omega)) (by omega) (by first | assumption | simp [mk_length])) (fun v171 w171 p171 => ?_)
  obtain ⟨rfl, c171⟩ := p171
  have zw171 := c171.size
  refine sa rfl rfl rfl rfl ?_
  refine wl_nil (q_n (k169 _ _ ?_))
  refine sx_sub (Sub.cons (t := 1) rfl (.cons (t := 2) rfl (.cons (t := 3) rfl (.cons (t := 6) rfl (.cons (t := 8) rfl (.cons (t := 9) rfl (.cons (t := 11) rfl (.cons (t := 14) rfl (.cons (t := 15) rfl (.nil)))))))))) ?_
  refine sx_seq fun K172 k172 => ?_
  refine sx_seq fun K173 k173 => sx_region ?_
  refine sm rfl rfl rfl rfl ?_
  refine sx_pure rfl rfl rfl (px_lt rfl rfl) ?_
  refine wl_nil (q_n (k173 _ _ ?_))
  have h4669 : ¬ (((1 : Int) + ↑((mk (1 : Int) (((rDec n1 z1 y1 q m).2.1)).length)).length : Int) < 0) := by omega
  refine sx_condPF rfl h4669 ?_
  refine sx_skip ?_
  refine q_n (k172 _ _ ?_)
  refine sx_seq fun K174 k174 => ?_
  refine sx_seq fun K175 k175 => sx_region ?_
  refine sm rfl rfl rfl rfl ?_
  refine sm rfl rfl rfl rfl ?_
  refine sx_pure rfl rfl rfl (px_ne rfl rfl) ?_
  refine wl_nil (q_n (k175 _ _ ?_))
  have h4672 : ¬ (((1 : Int) + ↑((mk (1 : Int) (((rDec n1 z1 y1 q m).2.1)).length)).length : Int) ≠ (1 : Int) + ↑(((rDec n1 z1 y1 q m).2.1)).length) := by simp [mk_length]
  refine sx_condPF rfl h4672 ?_
  refine sx_skip ?_
  refine q_n (k174 _ _ ?_)
  refine sx_seq fun K176 k176 => sx_region ?_
  have f177 := f74.ext d125
  have f178 := f177.ext c128
  have f179 := f178.ext c134
  have f180 := f179.chg c143 (by omega)
  have f181 := f180.ext c162
  have f182 := f181.chg c167 (by omega)
  have f183 := f182.ext c171
  refine sx_pure rfl rfl rfl (px_load rfl (f183.loadA (vs := [.bool n1, v1, d1]) (look_lit rfl) Try.isAgg40 Try.sizeOf40)) ?_
  have f184 := f126.ext c128
  have f185 := f184.ext c134
  have f186 := f185.chg c143 (by omega)
  have f187 := f186.ext c162
  have f188 := f187.chg c167 (by omega)
  have f189 := f188.ext c171
  have f190 := f127.ext c128
  have f191 := f190.ext c134
  have f192 := f191.chg c143 (by omega)
  have f193 := f192.ext c162
  have f194 := f193.chg c167 (by omega)
  have f195 := f194.ext c171
  refine sx_call rfl rfl Try.call19 (c_toRat f189 f195 (by omega) (by omega)) (fun v196 w196 p196 => ?_)
  obtain ⟨s196, t196, ls196, us196, lt196, ut196, rfl, os_196, ot_196, hd196, c196⟩ := p196
  have zw196 := c196.size
  refine sm rfl rfl rfl rfl ?_
  refine sm rfl rfl rfl rfl ?_
  refine sx_call rfl rfl Try.call20 (c_iRatDec os_196.sv ot_196.sv (by omega)) (fun v197 w197 p197 => ?_)
  obtain ⟨s197, rfl, os_197, hl197, c197⟩ := p197
  have zw197 := c197.size
  refine sm rfl rfl rfl rfl ?_
  refine sx_pure rfl rfl rfl (px_extract (vs := [.agg #[.bool ((rDec n1 z1 y1 q m).1), s197, .int .i64 ((rDec n1 z1 y1 q m).2.2.1)], .bool ((rDec n1 z1 y1 q m).2.2.2)]) rfl rfl) ?_
  refine sx_pure rfl rfl rfl (px_extract (vs := [.agg #[.bool ((rDec n1 z1 y1 q m).1), s197, .int .i64 ((rDec n1 z1 y1 q m).2.2.1)], .bool ((rDec n1 z1 y1 q m).2.2.2)]) rfl rfl) ?_
  refine sx_alloc [.bool false, (.slice none 0 0), .int .i64 0] rfl Try.zeroValue30 rfl (fun b198 w199 eb198 sb198 fb198 cb198 => ?_)
  have zw199 := cb198.size
  have f201 := os_197.ext cb198
  refine sx_store (vs := [.bool ((rDec n1 z1 y1 q m).1), s197, .int .i64 ((rDec n1 z1 y1 q m).2.2.1)]) rfl rfl fb198 rfl Try.sizeOf30 (Nat.le_of_ble_eq_true rfl) (one_cons rfl (one_cons f201.one (one_cons rfl one_nil))) (fun w200 sw200 fw200 cw200 => ?_)
  have zw200 := cw200.size
  have gw200 : Blk w200 b198 [.bool ((rDec n1 z1 y1 q m).1), s197, .int .i64 ((rDec n1 z1 y1 q m).2.2.1)] 30 := fw200
  refine sa rfl rfl rfl rfl ?_
  refine wl_nil (q_n (k176 _ _ ?_))
  refine sx_sub (Sub.cons (t := 6) rfl (.cons (t := 8) rfl (.cons (t := 9) rfl (.cons (t := 11) rfl (.cons (t := 14) rfl (.cons (t := 15) rfl (.cons (t := 16) rfl (.cons (t := 17) rfl (.nil))))))))) ?_
  refine sx_seq fun K202 k202 => ?_
  refine sx_seq fun K203 k203 => sx_region ?_
  refine sx_pure rfl rfl rfl (px_load rfl (gw200.loadA (vs := [.bool ((rDec n1 z1 y1 q m).1), s197, .int .i64 ((rDec n1 z1 y1 q m).2.2.1)]) (look_lit rfl) Try.isAgg30 Try.sizeOf30)) ?_
  have f204 := f153.ext c162
  have f205 := f204.chg c167 (by omega)
  have f206 := f205.ext c171
  have f207 := f206.ext c196
  have f208 := f207.ext c197
  have f209 := f208.ext cb198
  have f210 := f209.chg cw200 (by omega)
  refine sx_pure rfl rfl rfl (px_load rfl (f210.loadA (vs := [.bool ((rDec n1 z1 y1 q m).1), s17, .int .i64 ((rDec n1 z1 y1 q m).2.2.1)]) (look_lit rfl) Try.isAgg30 Try.sizeOf30)) ?_
  have f211 := f201.chg cw200 (by omega)
  have f212 := f161.ext c162
  have f213 := f212.chg c167 (by omega)
  have f214 := f213.ext c171
  have f215 := f214.ext c196
  have f216 := f215.ext c197
  have f217 := f216.ext cb198
  have f218 := f217.chg cw200 (by omega)
  refine sx_call rfl rfl Try.call12 (c_eqDec f211.sv f218.sv (by omega)) (fun v219 w219 p219 => ?_)
  obtain ⟨rfl, c219⟩ := p219
  have zw219 := c219.size
  refine sx_pure rfl rfl rfl (px_notP rfl) ?_
  refine sm rfl rfl rfl rfl ?_
  have h4676 : ¬ (¬ (((rDec n1 z1 y1 q m).1) = ((rDec n1 z1 y1 q m).1) ∧ ((rDec n1 z1 y1 q m).2.1) = ((rDec n1 z1 y1 q m).2.1) ∧ ((rDec n1 z1 y1 q m).2.2.1) = ((rDec n1 z1 y1 q m).2.2.1))) := by simp [mk_length]
  refine sx_tmpPF (t := 93) rfl h4676 ?_
  refine sx_guardT rfl rfl rfl ?_
  refine sm rfl rfl rfl rfl ?_
  refine sx_guardT rfl rfl rfl ?_
  refine sm rfl rfl rfl rfl ?_
  refine sx_guardT rfl rfl rfl ?_
  refine sx_pure rfl rfl rfl (px_neB Try.underlying4 rfl rfl) ?_
  refine sx_pure rfl rfl rfl (px_pick rfl rfl) ?_
  refine wl_nil (q_n (k203 _ _ ?_))
  refine sx_sub (Sub.cons (t := 6) rfl (.cons (t := 11) rfl (.cons (t := 14) rfl (.cons (t := 15) rfl (.cons (t := 97) rfl (.nil)))))) ?_
  have h4676x1 : (((rDec n1 z1 y1 q m).2.2.2) != ((rDec n1 z1 y1 q m).2.2.2)) = false := by simp [mk_length]
  refine sx_condBF rfl h4676x1 ?_
  refine sx_skip ?_
  refine q_n (k202 _ _ ?_)
  refine sx_seq fun K220 k220 => sx_region ?_
  refine sa rfl rfl rfl rfl ?_
  refine wl_nil (q_n (k220 _ _ ?_))
  refine sx_seq fun K221 k221 => sx_region ?_
  have f222 := f170.ext c171
  have f223 := f222.ext c196
  have f224 := f223.ext c197
  have f225 := f224.ext cb198
  have f226 := f225.chg cw200 (by omega)
  have f227 := f226.ext c219
  refine sx_pure rfl rfl rfl (px_load rfl (f227.loadA (vs := [.bool ((rDec n1 z1 y1 q m).1), s44, .int .i64 ((rDec n1 z1 y1 q m).2.2.1)]) (look_lit rfl) Try.isAgg30 Try.sizeOf30)) ?_
  refine sm rfl rfl rfl rfl ?_
  have f228 := ov1_167.ext c171
  have f229 := f228.ext c196
  have f230 := f229.ext c197
  have f231 := f230.ext cb198
  have f232 := f231.chg cw200 (by omega)
  have f233 := f232.ext c219
  refine sx_call rfl rfl Try.call14 (c_heldDec f233.sv (by first | omega | (simp only [mk_length]; omega)) (by omega) (by first | assumption | simp [mk_length])) (fun v234 w234 p234 => ?_)
  obtain ⟨rfl, c234⟩ := p234
  have zw234 := c234.size
  refine sa rfl rfl rfl rfl ?_
  refine wl_nil (q_n (k221 _ _ ?_))
  refine sx_seq fun K235 k235 => ?_
  refine sx_seq fun K236 k236 => sx_region ?_
  refine sm rfl rfl rfl rfl ?_
  refine sx_pure rfl rfl rfl (px_lt rfl rfl) ?_
  refine wl_nil (q_n (k236 _ _ ?_))
  have h4681 : ¬ (((1 : Int) + ↑((mk (1 : Int) (((rDec n1 z1 y1 q m).2.1)).length)).length : Int) < 0) := by omega
  refine sx_condPF rfl h4681 ?_
  refine sx_skip ?_
  refine q_n (k235 _ _ ?_)
  refine sx_seq fun K237 k237 => ?_
  refine sx_seq fun K238 k238 => sx_region ?_
  refine sm rfl rfl rfl rfl ?_
  refine sm rfl rfl rfl rfl ?_
  refine sx_pure rfl rfl rfl (px_ne rfl rfl) ?_
  refine wl_nil (q_n (k238 _ _ ?_))
  have h4684 : ¬ (((1 : Int) + ↑((mk (1 : Int) (((rDec n1 z1 y1 q m).2.1)).length)).length : Int) ≠ (1 : Int) + ↑(((rDec n1 z1 y1 q m).2.1)).length) := by simp [mk_length]
  refine sx_condPF rfl h4684 ?_
  refine sx_skip ?_
  refine q_n (k237 _ _ ?_)
  refine sx_seq fun K239 k239 => sx_region ?_
  refine sa rfl rfl rfl rfl ?_
  refine wl_nil (q_n (k239 _ _ ?_))
  refine sx_retc ?_
  refine sx_ret1 Try.results5 rfl ?_
  have q240 := Chg.step (l := 0) (h := 0) (Chg.zero (l := 0) (h := 0) ((((cb2.t c8).t c16).t c17).t cb18)) cw20 (by omega)
  have q241 := Chg.step (l := 0) (h := 0) q240 (c35.t cb36) (by omega)
  have q242 := Chg.step (l := 0) (h := 0) q241 cw38 (by omega)
  have q243 := Chg.step (l := 0) (h := 0) q242 (c44.t cb45) (by omega)
  have q244 := Chg.step (l := 0) (h := 0) q243 cw47 (by omega)
  have q245 := Chg.step (l := 0) (h := 0) q244 (((c65.t d125).t c128).t c134) (by omega)
  have q246 := Chg.step (l := 0) (h := 0) q245 c143 (by omega)
  have q247 := Chg.step (l := 0) (h := 0) q246 c162 (by omega)
  have q248 := Chg.step (l := 0) (h := 0) q247 c167 (by omega)
  have q249 := Chg.step (l := 0) (h := 0) q248 (((c171.t c196).t c197).t cb198) (by omega)
  have q250 := Chg.step (l := 0) (h := 0) q249 cw200 (by omega)
  have q251 := Chg.step (l := 0) (h := 0) q250 (c219.t c234) (by omega)
  exact ⟨rfl, q251⟩

end Go.Proofs.Ytfoceofnldnbgaa
