/- Contracts of functions of the program: what each call returns, and that it changes nothing that was. Conditions: as each says. -/
import Derived.Test.YtfoceofnldnbgaaGreatDoorTy
import Derived.Test.YtfoceofnldnbgaaGreatDoorNatL
import Derived.Test.YtfoceofnldnbgaaGreatDoorRm
import Derived.Test.YtfoceofnldnbgaaGreatDoorK0
import Derived.Test.YtfoceofnldnbgaaGreatDoorK1
import Derived.Test.YtfoceofnldnbgaaGreatDoorK3
set_option linter.unusedVariables false
set_option linter.unusedSimpArgs false
namespace Go.Proofs.YtfoceofnldnbgaaGreatDoor
open Go Go.RowKit
set_option maxRecDepth 100000
set_option maxHeartbeats 1000000
theorem law_RatMoney {w : World} {cc : ByteArray} {n1 : Bool} {v1 : Value} {lv1 uv1 : Nat} {z1 : List Int} {d1 : Value} {ld1 ud1 : Nat} {y1 : List Int} {m : Int} (hG0 : Glob w) (hv1 : Sl w lv1 uv1 v1 (z1)) (hd1 : Sl w ld1 ud1 d1 (y1)) (bc : cc.size ≤ 9223372036854775807) (bz1 : z1.length ≤ 9223372036854775807) (by1 : y1.length ≤ 9223372036854775807) (bim : -9223372036854775808 ≤ m ∧ m ≤ 9223372036854775807) :
  Ret Tryz.prog 3 [.string cc, .agg #[.bool n1, v1, d1], .int .i64 m] w fun v w' => v = .bool (true) ∧ Chg 0 0 w w' := by
 have hv10 := hv1.fit
 have hd10 := hd1.fit
 have hG0l : 0 < w.heap.size := by obtain ⟨T, fz, h1⟩ := hG0; rcases Nat.lt_or_ge 0 w.heap.size with h2 | h2; exact h2; simp [Array.getElem?_eq_none h2] at h1
 refine sx_enter Tryz.func3 rfl Tryz.ntmps3 (Nat.le_of_ble_eq_true rfl) ?_
 refine sx_seq fun K1 k1 => sx_region ?_
 refine sx_box [.bool n1, v1, d1] rfl rfl rfl (fun b2 w3 eb2 sb2 fb2 cb2 => ?_)
 have zw3 := cb2.size
 refine sa rfl rfl rfl rfl ?_
 refine wl_nil (q_n (k1 _ _ ?_))
 refine sx_seq fun K4 k4 => ?_
 refine sx_seq fun K5 k5 => sx_region ?_
 refine sm rfl rfl rfl rfl ?_
 refine sx_pure rfl rfl rfl (px_lenS rfl Tryz.underlying9) ?_
 refine sx_pure rfl rfl rfl (px_gt rfl rfl) ?_
 refine wl_nil (q_n (k5 _ _ ?_))
 refine sx_condP rfl (fun h5289 => ?_) (fun h5289 => ?_)
 ·
  refine sx_seq fun K6 k6 => sx_region ?_
  refine sa rfl rfl rfl rfl ?_
  refine wl_nil (q_n (k6 _ _ ?_))
  refine sx_retc ?_
  refine q_r (sx_ret1 Tryz.results3 rfl ?_)
  exact ⟨rfl, cb2⟩
 ·
  refine sx_skip ?_
  refine q_n (k4 _ _ ?_)
  refine sx_seq fun K7 k7 => sx_region ?_
  refine sa rfl rfl rfl rfl ?_
  refine wl_nil (q_n (k7 _ _ ?_))
  refine sx_seq fun K8 k8 => sx_region ?_
  refine sx_pure rfl rfl rfl (px_load rfl (fb2.loadA (vs := [.bool n1, v1, d1]) (look_lit rfl) Tryz.isAgg26 Tryz.sizeOf26)) ?_
  refine sm rfl rfl rfl rfl ?_
  have f9 := hv10.ext cb2
  have f10 := hd10.ext cb2
  refine sx_call rfl rfl Tryz.call4 (c_szRat f9 f10 (by omega) (by omega) (by omega)) (fun v11 w11 p11 => ?_)
  obtain ⟨r11, rfl, hr11, c11⟩ := p11
  have zw11 := c11.size
  refine sa rfl rfl rfl rfl ?_
  refine wl_nil (q_n (k8 _ _ ?_))
  refine sx_seq fun K12 k12 => ?_
  refine sx_seq fun K13 k13 => sx_region ?_
  refine sm rfl rfl rfl rfl ?_
  refine sx_pure rfl rfl rfl (px_lt rfl rfl) ?_
  refine wl_nil (q_n (k13 _ _ ?_))
  refine sx_condP rfl (fun h5294 => ?_) (fun h5294 => ?_)
  ·
   refine sx_seq fun K14 k14 => sx_region ?_
   refine sa rfl rfl rfl rfl ?_
   refine wl_nil (q_n (k14 _ _ ?_))
   refine sx_retc ?_
   refine q_r (sx_ret1 Tryz.results3 rfl ?_)
   exact ⟨rfl, (cb2.t c11)⟩
  ·
   replace hr11 := hr11.resolve_left h5294
   refine sx_skip ?_
   refine q_n (k12 _ _ ?_)
   refine sx_seq fun K15 k15 => sx_region ?_
   refine sm rfl rfl rfl rfl ?_
   have f16 := fb2.ext c11
   refine sx_pure rfl rfl rfl (px_load rfl (f16.loadA (vs := [.bool n1, v1, d1]) (look_lit rfl) Tryz.isAgg26 Tryz.sizeOf26)) ?_
   have f17 := f9.ext c11
   have f18 := f10.ext c11
   refine sx_call rfl rfl Tryz.call6 (c_toRat f17 f18 (by omega) (by omega)) (fun v19 w19 p19 => ?_)
   obtain ⟨s19, t19, ls19, us19, lt19, ut19, rfl, os_19, ot_19, hd19, c19⟩ := p19
   have zw19 := c19.size
   refine sm rfl rfl rfl rfl ?_
   refine sx_call rfl rfl Tryz.call5 (c_sRatMoney os_19.sv ot_19.sv (by omega)) (fun v20 w20 p20 => ?_)
   obtain ⟨s20, t20, u20, ls20, us20, lt20, ut20, lu20, uu20, rfl, os_20, ot_20, ou_20, hd20, hl20, c20⟩ := p20
   have zw20 := c20.size
   refine sm rfl rfl rfl rfl ?_
   refine sx_pure rfl rfl rfl (px_extract (vs := [.agg #[.string ((rMon cc n1 z1 y1 m).1.1), .bool ((rMon cc n1 z1 y1 m).1.2.1), s20], .agg #[.bool ((rMon cc n1 z1 y1 m).2.1.1), t20, u20], .bool ((rMon cc n1 z1 y1 m).2.2)]) rfl rfl) ?_
   refine sx_pure rfl rfl rfl (px_extract (vs := [.agg #[.string ((rMon cc n1 z1 y1 m).1.1), .bool ((rMon cc n1 z1 y1 m).1.2.1), s20], .agg #[.bool ((rMon cc n1 z1 y1 m).2.1.1), t20, u20], .bool ((rMon cc n1 z1 y1 m).2.2)]) rfl rfl) ?_
   refine sx_pure rfl rfl rfl (px_extract (vs := [.agg #[.string ((rMon cc n1 z1 y1 m).1.1), .bool ((rMon cc n1 z1 y1 m).1.2.1), s20], .agg #[.bool ((rMon cc n1 z1 y1 m).2.1.1), t20, u20], .bool ((rMon cc n1 z1 y1 m).2.2)]) rfl rfl) ?_
   refine sx_alloc [.string (⟨#[]⟩), .bool false, (.slice none 0 0)] rfl Tryz.zeroValue30 rfl (fun b21 w22 eb21 sb21 fb21 cb21 => ?_)
   have zw22 := cb21.size
   refine sx_alloc [.bool false, (.slice none 0 0), (.slice none 0 0)] rfl Tryz.zeroValue32 rfl (fun b23 w24 eb23 sb23 fb23 cb23 => ?_)
   have zw24 := cb23.size
   have f26 := fb21.ext cb23
   have f27 := os_20.ext cb21
   have f28 := f27.ext cb23
   refine sx_store (vs := [.string ((rMon cc n1 z1 y1 m).1.1), .bool ((rMon cc n1 z1 y1 m).1.2.1), s20]) rfl rfl f26 rfl Tryz.sizeOf30 (Nat.le_of_ble_eq_true rfl) (one_cons rfl (one_cons rfl (one_cons f28.one one_nil))) (fun w25 sw25 fw25 cw25 => ?_)
   have zw25 := cw25.size
   have gw25 : Blk w25 b21 [.string ((rMon cc n1 z1 y1 m).1.1), .bool ((rMon cc n1 z1 y1 m).1.2.1), s20] 30 := fw25
   have f30 := fb23.chg cw25 (by omega)
   have f31 := ou_20.ext cb21
   have f32 := f31.ext cb23
   have f33 := f32.chg cw25 (by omega)
   have f34 := ot_20.ext cb21
   have f35 := f34.ext cb23
   have f36 := f35.chg cw25 (by omega)
   refine sx_store (vs := [.bool ((rMon cc n1 z1 y1 m).2.1.1), t20, u20]) rfl rfl f30 rfl Tryz.sizeOf32 (Nat.le_of_ble_eq_true rfl) (one_cons rfl (one_cons f36.one (one_cons f33.one one_nil))) (fun w29 sw29 fw29 cw29 => ?_)
   have zw29 := cw29.size
   have gw29 : Blk w29 b23 [.bool ((rMon cc n1 z1 y1 m).2.1.1), t20, u20] 32 := fw29
   refine sa rfl rfl rfl rfl ?_
   refine wl_nil (q_n (k15 _ _ ?_))
   refine sx_sub (Sub.cons (t := 0) rfl (.cons (t := 2) rfl (.cons (t := 4) rfl (.cons (t := 6) rfl (.cons (t := 8) rfl (.cons (t := 9) rfl (.cons (t := 10) rfl (.nil)))))))) ?_
   refine sx_seq fun K37 k37 => sx_region ?_
   have f38 := f16.ext c19
   have f39 := f38.ext c20
   have f40 := f39.ext cb21
   have f41 := f40.ext cb23
   have f42 := f41.chg cw25 (by omega)
   have f43 := f42.chg cw29 (by omega)
   refine sx_pure rfl rfl rfl (px_load rfl (f43.loadA (vs := [.bool n1, v1, d1]) (look_lit rfl) Tryz.isAgg26 Tryz.sizeOf26)) ?_
   have f44 := f17.ext c19
   have f45 := f44.ext c20
   have f46 := f45.ext cb21
   have f47 := f46.ext cb23
   have f48 := f47.chg cw25 (by omega)
   have f49 := f48.chg cw29 (by omega)
   have f50 := f18.ext c19
   have f51 := f50.ext c20
   have f52 := f51.ext cb21
   have f53 := f52.ext cb23
   have f54 := f53.chg cw25 (by omega)
   have f55 := f54.chg cw29 (by omega)
   refine sx_call rfl rfl Tryz.call6 (c_toRat f49 f55 (by omega) (by omega)) (fun v56 w56 p56 => ?_)
   obtain ⟨s56, t56, ls56, us56, lt56, ut56, rfl, os_56, ot_56, hd56, c56⟩ := p56
   have zw56 := c56.size
   refine sx_alloc [.bool false, (.slice none 0 0), (.slice none 0 0)] rfl Tryz.zeroValue32 rfl (fun b57 w58 eb57 sb57 fb57 cb57 => ?_)
   have zw58 := cb57.size
   have f60 := ot_56.ext cb57
   have f61 := os_56.ext cb57
   refine sx_store (vs := [.bool n1, s56, t56]) rfl rfl fb57 rfl Tryz.sizeOf32 (Nat.le_of_ble_eq_true rfl) (one_cons rfl (one_cons f61.one (one_cons f60.one one_nil))) (fun w59 sw59 fw59 cw59 => ?_)
   have zw59 := cw59.size
   have gw59 : Blk w59 b57 [.bool n1, s56, t56] 32 := fw59
   refine wl_nil (q_n (k37 _ _ ?_))
   refine sx_seq fun K62 k62 => sx_region ?_
   refine sm rfl rfl rfl rfl ?_
   refine sx_pure rfl rfl rfl (px_load rfl (gw59.loadA (vs := [.bool n1, s56, t56]) (look_lit rfl) Tryz.isAgg32 Tryz.sizeOf32)) ?_
   refine sm rfl rfl rfl rfl ?_
   have f63 := hG0.ext cb2
   have f64 := f63.ext c11
   have f65 := f64.ext c19
   have f66 := f65.ext c20
   have f67 := f66.ext cb21
   have f68 := f67.ext cb23
   have f69 := f68.chg cw25 (by omega)
   have f70 := f69.chg cw29 (by omega)
   have f71 := f70.ext c56
   have f72 := f71.ext cb57
   have f73 := f72.chg cw59 (by omega)
   have f74 := f61.chg cw59 (by omega)
   have f75 := f60.chg cw59 (by omega)
   refine sx_call rfl rfl Tryz.call7 (c_iRatMoney f73 f74.sv f75.sv (by omega)) (fun v76 w76 p76 => ?_)
   obtain ⟨s76, t76, u76, ls76, us76, lt76, ut76, lu76, uu76, rfl, os_76, ot_76, ou_76, hd76, hl76, c76⟩ := p76
   have zw76 := c76.size
   refine sm rfl rfl rfl rfl ?_
   refine sx_pure rfl rfl rfl (px_extract (vs := [.agg #[.string ((rMon cc n1 z1 y1 m).1.1), .bool ((rMon cc n1 z1 y1 m).1.2.1), s76], .agg #[.bool ((rMon cc n1 z1 y1 m).2.1.1), t76, u76], .bool ((rMon cc n1 z1 y1 m).2.2)]) rfl rfl) ?_
   refine sx_pure rfl rfl rfl (px_extract (vs := [.agg #[.string ((rMon cc n1 z1 y1 m).1.1), .bool ((rMon cc n1 z1 y1 m).1.2.1), s76], .agg #[.bool ((rMon cc n1 z1 y1 m).2.1.1), t76, u76], .bool ((rMon cc n1 z1 y1 m).2.2)]) rfl rfl) ?_
   refine sx_pure rfl rfl rfl (px_extract (vs := [.agg #[.string ((rMon cc n1 z1 y1 m).1.1), .bool ((rMon cc n1 z1 y1 m).1.2.1), s76], .agg #[.bool ((rMon cc n1 z1 y1 m).2.1.1), t76, u76], .bool ((rMon cc n1 z1 y1 m).2.2)]) rfl rfl) ?_
   refine sx_alloc [.string (⟨#[]⟩), .bool false, (.slice none 0 0)] rfl Tryz.zeroValue30 rfl (fun b77 w78 eb77 sb77 fb77 cb77 => ?_)
   have zw78 := cb77.size
   refine sx_alloc [.bool false, (.slice none 0 0), (.slice none 0 0)] rfl Tryz.zeroValue32 rfl (fun b79 w80 eb79 sb79 fb79 cb79 => ?_)
   have zw80 := cb79.size
   have f82 := fb77.ext cb79
   have f83 := os_76.ext cb77
   have f84 := f83.ext cb79
   refine sx_store (vs := [.string ((rMon cc n1 z1 y1 m).1.1), .bool ((rMon cc n1 z1 y1 m).1.2.1), s76]) rfl rfl f82 rfl Tryz.sizeOf30 (Nat.le_of_ble_eq_true rfl) (one_cons rfl (one_cons rfl (one_cons f84.one one_nil))) (fun w81 sw81 fw81 cw81 => ?_)
   have zw81 := cw81.size
   have gw81 : Blk w81 b77 [.string ((rMon cc n1 z1 y1 m).1.1), .bool ((rMon cc n1 z1 y1 m).1.2.1), s76] 30 := fw81
   have f86 := fb79.chg cw81 (by omega)
   have f87 := ou_76.ext cb77
   have f88 := f87.ext cb79
   have f89 := f88.chg cw81 (by omega)
   have f90 := ot_76.ext cb77
   have f91 := f90.ext cb79
   have f92 := f91.chg cw81 (by omega)
   refine sx_store (vs := [.bool ((rMon cc n1 z1 y1 m).2.1.1), t76, u76]) rfl rfl f86 rfl Tryz.sizeOf32 (Nat.le_of_ble_eq_true rfl) (one_cons rfl (one_cons f92.one (one_cons f89.one one_nil))) (fun w85 sw85 fw85 cw85 => ?_)
   have zw85 := cw85.size
   have gw85 : Blk w85 b79 [.bool ((rMon cc n1 z1 y1 m).2.1.1), t76, u76] 32 := fw85
   refine sa rfl rfl rfl rfl ?_
   refine wl_nil (q_n (k62 _ _ ?_))
   refine sx_sub (Sub.cons (t := 0) rfl (.cons (t := 2) rfl (.cons (t := 4) rfl (.cons (t := 6) rfl (.cons (t := 8) rfl (.cons (t := 9) rfl (.cons (t := 10) rfl (.cons (t := 11) rfl (.cons (t := 12) rfl (.cons (t := 13) rfl (.cons (t := 14) rfl (.nil)))))))))))) ?_
   refine sx_seq fun K93 k93 => ?_
   refine sx_seq fun K94 k94 => sx_region ?_
   have f95 := gw81.chg cw85 (by omega)
   refine sx_pure rfl rfl rfl (px_load rfl (f95.loadA (vs := [.string ((rMon cc n1 z1 y1 m).1.1), .bool ((rMon cc n1 z1 y1 m).1.2.1), s76]) (look_lit rfl) Tryz.isAgg30 Tryz.sizeOf30)) ?_
   have f96 := gw25.chg cw29 (by omega)
   have f97 := f96.ext c56
   have f98 := f97.ext cb57
   have f99 := f98.chg cw59 (by omega)
   have f100 := f99.ext c76
   have f101 := f100.ext cb77
   have f102 := f101.ext cb79
   have f103 := f102.chg cw81 (by omega)
   have f104 := f103.chg cw85 (by omega)
   refine sx_pure rfl rfl rfl (px_load rfl (f104.loadA (vs := [.string ((rMon cc n1 z1 y1 m).1.1), .bool ((rMon cc n1 z1 y1 m).1.2.1), s20]) (look_lit rfl) Tryz.isAgg30 Tryz.sizeOf30)) ?_
   have f105 := f84.chg cw81 (by omega)
   have f106 := f105.chg cw85 (by omega)
   have f107 := f28.chg cw25 (by omega)
   have f108 := f107.chg cw29 (by omega)
   have f109 := f108.ext c56
   have f110 := f109.ext cb57
   have f111 := f110.chg cw59 (by omega)
   have f112 := f111.ext c76
   have f113 := f112.ext cb77
   have f114 := f113.ext cb79
   have f115 := f114.chg cw81 (by omega)
   have f116 := f115.chg cw85 (by omega)
   refine sx_call rfl rfl Tryz.call8 (c_eqMoney f106.sv f116.sv (by omega)) (fun v117 w117 p117 => ?_)
   obtain ⟨rfl, c117⟩ := p117
   have zw117 := c117.size
   refine sx_pure rfl rfl rfl (px_notP rfl) ?_
   refine sm rfl rfl rfl rfl ?_
   have h5300 : ¬ (¬ (((rMon cc n1 z1 y1 m).1.1) = ((rMon cc n1 z1 y1 m).1.1) ∧ ((rMon cc n1 z1 y1 m).1.2.1) = ((rMon cc n1 z1 y1 m).1.2.1) ∧ ((rMon cc n1 z1 y1 m).1.2.2) = ((rMon cc n1 z1 y1 m).1.2.2))) := by simp [mk_length]
   refine sx_tmpPF (t := 52) rfl h5300 ?_
   refine sx_guardT rfl rfl rfl ?_
   have f118 := gw85.ext c117
   refine sx_pure rfl rfl rfl (px_load rfl (f118.loadA (vs := [.bool ((rMon cc n1 z1 y1 m).2.1.1), t76, u76]) (look_lit rfl) Tryz.isAgg32 Tryz.sizeOf32)) ?_
   refine sx_guardT rfl rfl rfl ?_
   have f119 := gw29.ext c56
   have f120 := f119.ext cb57
   have f121 := f120.chg cw59 (by omega)
   have f122 := f121.ext c76
   have f123 := f122.ext cb77
   have f124 := f123.ext cb79
   have f125 := f124.chg cw81 (by omega)
   have f126 := f125.chg cw85 (by omega)
   have f127 := f126.ext c117
   refine sx_pure rfl rfl rfl (px_load rfl (f127.loadA (vs := [.bool ((rMon cc n1 z1 y1 m).2.1.1), t20, u20]) (look_lit rfl) Tryz.isAgg32 Tryz.sizeOf32)) ?_
   refine sx_guardT rfl rfl rfl ?_
   have f128 := f92.chg cw85 (by omega)
   have f129 := f128.ext c117
   have f130 := f89.chg cw85 (by omega)
   have f131 := f130.ext c117
   have f132 := f36.chg cw29 (by omega)
   have f133 := f132.ext c56
   have f134 := f133.ext cb57
   have f135 := f134.chg cw59 (by omega)
   have f136 := f135.ext c76
   have f137 := f136.ext cb77
   have f138 := f137.ext cb79
   have f139 := f138.chg cw81 (by omega)
   have f140 := f139.chg cw85 (by omega)
   have f141 := f140.ext c117
   have f142 := f33.chg cw29 (by omega)
   have f143 := f142.ext c56
   have f144 := f143.ext cb57
   have f145 := f144.chg cw59 (by omega)
   have f146 := f145.ext c76
   have f147 := f146.ext cb77
   have f148 := f147.ext cb79
   have f149 := f148.chg cw81 (by omega)
   have f150 := f149.chg cw85 (by omega)
   have f151 := f150.ext c117
   refine sx_call rfl rfl Tryz.call9 (c_eqRat f129.sv f131.sv f141.sv f151.sv (by omega)) (fun v152 w152 p152 => ?_)
   obtain ⟨rfl, c152⟩ := p152
   have zw152 := c152.size
   refine sx_guardT rfl rfl rfl ?_
   refine sx_pure rfl rfl rfl (px_notP rfl) ?_
   refine sx_pure rfl rfl rfl (px_pick rfl rfl) ?_
   refine sm rfl rfl rfl rfl ?_
   have h5300x1 : ¬ (¬ (((rMon cc n1 z1 y1 m).2.1.1) = ((rMon cc n1 z1 y1 m).2.1.1) ∧ ((rMon cc n1 z1 y1 m).2.1.2.1) = ((rMon cc n1 z1 y1 m).2.1.2.1) ∧ ((rMon cc n1 z1 y1 m).2.1.2.2) = ((rMon cc n1 z1 y1 m).2.1.2.2))) := by simp [mk_length]
   refine sx_tmpPF (t := 58) rfl h5300x1 ?_
   refine sx_guardT rfl rfl rfl ?_
   refine sm rfl rfl rfl rfl ?_
   refine sx_guardT rfl rfl rfl ?_
   refine sm rfl rfl rfl rfl ?_
   refine sx_guardT rfl rfl rfl ?_
   refine sx_pure rfl rfl rfl (px_neB Tryz.underlying4 rfl rfl) ?_
   refine sx_pure rfl rfl rfl (px_pick rfl rfl) ?_
   refine wl_nil (q_n (k94 _ _ ?_))
   refine sx_sub (Sub.cons (t := 0) rfl (.cons (t := 2) rfl (.cons (t := 4) rfl (.cons (t := 6) rfl (.cons (t := 8) rfl (.cons (t := 9) rfl (.cons (t := 10) rfl (.cons (t := 11) rfl (.cons (t := 12) rfl (.cons (t := 13) rfl (.cons (t := 14) rfl (.cons (t := 62) rfl (.nil))))))))))))) ?_
   have h5300x2 : (((rMon cc n1 z1 y1 m).2.2) != ((rMon cc n1 z1 y1 m).2.2)) = false := by simp [mk_length]
   refine sx_condBF rfl h5300x2 ?_
   refine sx_skip ?_
   refine q_n (k93 _ _ ?_)
   refine sx_seq fun K153 k153 => ?_
   refine sx_seq fun K154 k154 => ?_
   have f155 := f73.ext c76
   have f156 := f155.ext cb77
   have f157 := f156.ext cb79
   have f158 := f157.chg cw81 (by omega)
   have f159 := f158.chg cw85 (by omega)
   have f160 := f159.ext c117
   have f161 := f160.ext c152
   have f162 := f43.ext c56
   have f163 := f162.ext cb57
   have f164 := f163.chg cw59 (by omega)
   have f165 := f164.ext c76
   have f166 := f165.ext cb77
   have f167 := f166.ext cb79
   have f168 := f167.chg cw81 (by omega)
   have f169 := f168.chg cw85 (by omega)
   have f170 := f169.ext c117
   have f171 := f170.ext c152
   have f172 := f104.ext c117
   have f173 := f172.ext c152
   have f174 := f127.ext c152
   have f175 := gw59.ext c76
   have f176 := f175.ext cb77
   have f177 := f176.ext cb79
   have f178 := f177.chg cw81 (by omega)
   have f179 := f178.chg cw85 (by omega)
   have f180 := f179.ext c117
   have f181 := f180.ext c152
   have f182 := f95.ext c117
   have f183 := f182.ext c152
   have f184 := f118.ext c152
   have f185 := f49.ext c56
   have f186 := f185.ext cb57
   have f187 := f186.chg cw59 (by omega)
   have f188 := f187.ext c76
   have f189 := f188.ext cb77
   have f190 := f189.ext cb79
   have f191 := f190.chg cw81 (by omega)
   have f192 := f191.chg cw85 (by omega)
   have f193 := f192.ext c117
   have f194 := f193.ext c152
   have f195 := f55.ext c56
   have f196 := f195.ext cb57
   have f197 := f196.chg cw59 (by omega)
   have f198 := f197.ext c76
   have f199 := f198.ext cb77
   have f200 := f199.ext cb79
   have f201 := f200.chg cw81 (by omega)
   have f202 := f201.chg cw85 (by omega)
   have f203 := f202.ext c117
   have f204 := f203.ext c152
   have f205 := os_19.ext c20
   have f206 := f205.ext cb21
   have f207 := f206.ext cb23
   have f208 := f207.chg cw25 (by omega)
   have f209 := f208.chg cw29 (by omega)
   have f210 := f209.ext c56
   have f211 := f210.ext cb57
   have f212 := f211.chg cw59 (by omega)
   have f213 := f212.ext c76
   have f214 := f213.ext cb77
   have f215 := f214.ext cb79
   have f216 := f215.chg cw81 (by omega)
   have f217 := f216.chg cw85 (by omega)
   have f218 := f217.ext c117
   have f219 := f218.ext c152
   have f220 := ot_19.ext c20
   have f221 := f220.ext cb21
   have f222 := f221.ext cb23
   have f223 := f222.chg cw25 (by omega)
   have f224 := f223.chg cw29 (by omega)
   have f225 := f224.ext c56
   have f226 := f225.ext cb57
   have f227 := f226.chg cw59 (by omega)
   have f228 := f227.ext c76
   have f229 := f228.ext cb77
   have f230 := f229.ext cb79
   have f231 := f230.chg cw81 (by omega)
   have f232 := f231.chg cw85 (by omega)
   have f233 := f232.ext c117
   have f234 := f233.ext c152
   have f235 := f116.ext c117
   have f236 := f235.ext c152
   have f237 := f141.ext c152
   have f238 := f151.ext c152
   have f239 := f74.ext c76
   have f240 := f239.ext cb77
   have f241 := f240.ext cb79
   have f242 := f241.chg cw81 (by omega)
   have f243 := f242.chg cw85 (by omega)
   have f244 := f243.ext c117
   have f245 := f244.ext c152
   have f246 := f75.ext c76
   have f247 := f246.ext cb77
   have f248 := f247.ext cb79
   have f249 := f248.chg cw81 (by omega)
   have f250 := f249.chg cw85 (by omega)
   have f251 := f250.ext c117
   have f252 := f251.ext c152
   have f253 := f106.ext c117
   have f254 := f253.ext c152
   have f255 := f129.ext c152
   have f256 := f131.ext c152
   refine dx_region (fun w' => Chg 0 0 w152 w') (by kernel_rfl) (Chg.zero (Chg.drew _)) ?_
   have d257 := Chg.drew w152
   have s257 : Chg 0 0 w152 (World.drew w152) := Chg.zero (Chg.drew _)
   have y257 : (World.drew w152).heap.size = w152.heap.size := rfl
   generalize World.drew w152 = w257 at *
   have zw257 := d257.size
   refine dx_take 0 rfl rfl rfl rfl (by kernel_rfl) (by kernel_rfl) (by kernel_rfl) s257 (fun _ hS => px_load rfl ((f181.chg hS (by omega)).loadA (vs := [.bool n1, s56, t56]) (look_lit rfl) Tryz.isAgg32 Tryz.sizeOf32)) ?_
   refine dx_take 1 rfl rfl rfl rfl (by kernel_rfl) (by kernel_rfl) (by kernel_rfl) s257 (fun _ hS => px_load rfl ((f171.chg hS (by omega)).loadA (vs := [.bool n1, v1, d1]) (look_lit rfl) Tryz.isAgg26 Tryz.sizeOf26)) ?_
   refine dx_eff 2 rfl (by kernel_rfl) ?_
   have f258 := f194.ext d257
   have f259 := f204.ext d257
   refine sx_call rfl rfl Tryz.call6 (c_toRat f258 f259 (by omega) (by omega)) (fun v260 w260 p260 => ?_)
   obtain ⟨s260, t260, ls260, us260, lt260, ut260, rfl, os_260, ot_260, hd260, c260⟩ := p260
   have zw260 := c260.size
   have s261 : Chg 0 0 w152 w260 := (d257.t c260)
   refine wl_nil ?_
   refine dx_next s261 ?_
   refine dx_eff 3 rfl (by kernel_rfl) ?_
   have f262 := f245.ext d257
   have f263 := f262.ext c260
   have f264 := f252.ext d257
   have f265 := f264.ext c260
   refine sx_call rfl rfl Tryz.call9 (c_eqRat f263.sv f265.sv os_260.sv ot_260.sv (by omega)) (fun v266 w266 p266 => ?_)
   obtain ⟨rfl, c266⟩ := p266
   have zw266 := c266.size
   have s267 : Chg 0 0 w152 w266 := ((d257.t c260).t c266)
   refine wl_nil ?_
   refine dx_next s267 ?_
   refine dx_take 4 rfl rfl rfl rfl (by kernel_rfl) (by kernel_rfl) (by kernel_rfl) s267 (fun _ hS => px_notP rfl) ?_
   refine dx_done (by kernel_rfl) ?_
   refine q_n (k154 _ _ ?_)
   refine sx_sub (Sub.cons (t := 0) rfl (.cons (t := 2) rfl (.cons (t := 4) rfl (.cons (t := 6) rfl (.cons (t := 8) rfl (.cons (t := 9) rfl (.cons (t := 10) rfl (.cons (t := 11) rfl (.cons (t := 12) rfl (.cons (t := 13) rfl (.cons (t := 14) rfl (.cons (t := 67) rfl (.nil))))))))))))) ?_
   have h5303 : ¬ (¬ (n1 = n1 ∧ z1 = z1 ∧ y1 = y1)) := by simp [mk_length]
   refine sx_condPF rfl h5303 ?_
   refine sx_skip ?_
   refine q_n (k153 _ _ ?_)
   refine sx_seq fun K268 k268 => sx_region ?_
   refine sa rfl rfl rfl rfl ?_
   refine wl_nil (q_n (k268 _ _ ?_))
   refine sx_seq fun K269 k269 => sx_region ?_
   have f270 := f181.ext d257
   have f271 := f270.ext c260
   have f272 := f271.ext c266
   refine sx_pure rfl rfl rfl (px_load rfl (f272.loadA (vs := [.bool n1, s56, t56]) (look_lit rfl) Tryz.isAgg32 Tryz.sizeOf32)) ?_
   refine sm rfl rfl rfl rfl ?_
   have f273 := f263.ext c266
   have f274 := f265.ext c266
   refine sx_call rfl rfl Tryz.call10 (c_markRat f273 f274 (by omega) (by first | omega | (simp only [mk_length]; omega)) (by omega)) (fun v275 w275 p275 => ?_)
   obtain ⟨rfl, ov1_275, od1_275, c275⟩ := p275
   have zw275 := c275.size
   refine sa rfl rfl rfl rfl ?_
   refine wl_nil (q_n (k269 _ _ ?_))
   refine sx_sub (Sub.cons (t := 0) rfl (.cons (t := 2) rfl (.cons (t := 4) rfl (.cons (t := 6) rfl (.cons (t := 8) rfl (.cons (t := 9) rfl (.cons (t := 10) rfl (.cons (t := 12) rfl (.cons (t := 13) rfl (.cons (t := 14) rfl (.cons (t := 15) rfl (.nil)))))))))))) ?_
   refine sx_seq fun K276 k276 => ?_
   refine sx_seq fun K277 k277 => sx_region ?_
   refine sm rfl rfl rfl rfl ?_
   refine sx_pure rfl rfl rfl (px_lt rfl rfl) ?_
   refine sm rfl rfl rfl rfl ?_
   have h5308 : ¬ (((1 : Int) + ↑(z1).length + ↑(y1).length : Int) < 0) := by omega
   refine sx_tmpPF (t := 73) rfl h5308 ?_
   refine sx_guardT rfl rfl rfl ?_
   have f278 := f183.ext d257
   have f279 := f278.ext c260
   have f280 := f279.ext c266
   have f281 := f280.chg c275 (by omega)
   refine sx_pure rfl rfl rfl (px_load rfl (f281.loadA (vs := [.string ((rMon cc n1 z1 y1 m).1.1), .bool ((rMon cc n1 z1 y1 m).1.2.1), s76]) (look_lit rfl) Tryz.isAgg30 Tryz.sizeOf30)) ?_
   refine sx_guardT rfl rfl rfl ?_
   have f282 := f173.ext d257
   have f283 := f282.ext c260
   have f284 := f283.ext c266
   have f285 := f284.chg c275 (by omega)
   refine sx_pure rfl rfl rfl (px_load rfl (f285.loadA (vs := [.string ((rMon cc n1 z1 y1 m).1.1), .bool ((rMon cc n1 z1 y1 m).1.2.1), s20]) (look_lit rfl) Tryz.isAgg30 Tryz.sizeOf30)) ?_
   refine sx_guardT rfl rfl rfl ?_
   have f286 := f254.ext d257
   have f287 := f286.ext c260
   have f288 := f287.ext c266
   have f289 := f288.chg c275 (by omega)
   have f290 := f236.ext d257
   have f291 := f290.ext c260
   have f292 := f291.ext c266
   have f293 := f292.chg c275 (by omega)
   refine sx_call rfl rfl Tryz.call8 (c_eqMoney f289.sv f293.sv (by omega)) (fun v294 w294 p294 => ?_)
   obtain ⟨rfl, c294⟩ := p294
   have zw294 := c294.size
   refine sx_guardT rfl rfl rfl ?_
   refine sx_pure rfl rfl rfl (px_notP rfl) ?_
   refine sx_pure rfl rfl rfl (px_pick rfl rfl) ?_
   refine sm rfl rfl rfl rfl ?_
   have h5308x1 : ¬ (¬ (((rMon cc n1 z1 y1 m).1.1) = ((rMon cc n1 z1 y1 m).1.1) ∧ ((rMon cc n1 z1 y1 m).1.2.1) = ((rMon cc n1 z1 y1 m).1.2.1) ∧ ((rMon cc n1 z1 y1 m).1.2.2) = ((rMon cc n1 z1 y1 m).1.2.2))) := by simp [mk_length]
   refine sx_tmpPF (t := 79) rfl h5308x1 ?_
   refine sx_guardT rfl rfl rfl ?_
   have f295 := f184.ext d257
   have f296 := f295.ext c260
   have f297 := f296.ext c266
   have f298 := f297.chg c275 (by omega)
   have f299 := f298.ext c294
   refine sx_pure rfl rfl rfl (px_load rfl (f299.loadA (vs := [.bool ((rMon cc n1 z1 y1 m).2.1.1), t76, u76]) (look_lit rfl) Tryz.isAgg32 Tryz.sizeOf32)) ?_
   refine sx_guardT rfl rfl rfl ?_
   have f300 := f174.ext d257
   have f301 := f300.ext c260
   have f302 := f301.ext c266
   have f303 := f302.chg c275 (by omega)
   have f304 := f303.ext c294
   refine sx_pure rfl rfl rfl (px_load rfl (f304.loadA (vs := [.bool ((rMon cc n1 z1 y1 m).2.1.1), t20, u20]) (look_lit rfl) Tryz.isAgg32 Tryz.sizeOf32)) ?_
   refine sx_guardT rfl rfl rfl ?_
   have f305 := f255.ext d257
   have f306 := f305.ext c260
   have f307 := f306.ext c266
   have f308 := f307.chg c275 (by omega)
   have f309 := f308.ext c294
   have f310 := f256.ext d257
   have f311 := f310.ext c260
   have f312 := f311.ext c266
   have f313 := f312.chg c275 (by omega)
   have f314 := f313.ext c294
   have f315 := f237.ext d257
   have f316 := f315.ext c260
   have f317 := f316.ext c266
   have f318 := f317.chg c275 (by omega)
   have f319 := f318.ext c294
   have f320 := f238.ext d257
   have f321 := f320.ext c260
   have f322 := f321.ext c266
   have f323 := f322.chg c275 (by omega)
   have f324 := f323.ext c294
   refine sx_call rfl rfl Tryz.call9 (c_eqRat f309.sv f314.sv f319.sv f324.sv (by omega)) (fun v325 w325 p325 => ?_)
   obtain ⟨rfl, c325⟩ := p325
   have zw325 := c325.size
   refine sx_guardT rfl rfl rfl ?_
   refine sx_pure rfl rfl rfl (px_notP rfl) ?_
   refine sx_pure rfl rfl rfl (px_pick rfl rfl) ?_
   refine sm rfl rfl rfl rfl ?_
   have h5308x2 : ¬ (¬ (((rMon cc n1 z1 y1 m).2.1.1) = ((rMon cc n1 z1 y1 m).2.1.1) ∧ ((rMon cc n1 z1 y1 m).2.1.2.1) = ((rMon cc n1 z1 y1 m).2.1.2.1) ∧ ((rMon cc n1 z1 y1 m).2.1.2.2) = ((rMon cc n1 z1 y1 m).2.1.2.2))) := by simp [mk_length]
   refine sx_tmpPF (t := 85) rfl h5308x2 ?_
   refine sx_guardT rfl rfl rfl ?_
   refine sm rfl rfl rfl rfl ?_
   refine sx_guardT rfl rfl rfl ?_
   refine sm rfl rfl rfl rfl ?_
   refine sx_guardT rfl rfl rfl ?_
   refine sx_pure rfl rfl rfl (px_neB Tryz.underlying4 rfl rfl) ?_
   refine sx_pure rfl rfl rfl (px_pick rfl rfl) ?_
   refine wl_nil (q_n (k277 _ _ ?_))
   refine sx_sub (Sub.cons (t := 0) rfl (.cons (t := 2) rfl (.cons (t := 4) rfl (.cons (t := 6) rfl (.cons (t := 8) rfl (.cons (t := 9) rfl (.cons (t := 10) rfl (.cons (t := 12) rfl (.cons (t := 13) rfl (.cons (t := 89) rfl (.nil))))))))))) ?_
   have h5308x3 : (((rMon cc n1 z1 y1 m).2.2) != ((rMon cc n1 z1 y1 m).2.2)) = false := by simp [mk_length]
   refine sx_condBF rfl h5308x3 ?_
   refine sx_skip ?_
   refine q_n (k276 _ _ ?_)
   refine sx_seq fun K326 k326 => sx_region ?_
   refine sa rfl rfl rfl rfl ?_
   refine wl_nil (q_n (k326 _ _ ?_))
   refine sx_seq fun K327 k327 => sx_region ?_
   have f328 := f281.ext c294
   have f329 := f328.ext c325
   refine sx_pure rfl rfl rfl (px_load rfl (f329.loadA (vs := [.string ((rMon cc n1 z1 y1 m).1.1), .bool ((rMon cc n1 z1 y1 m).1.2.1), s76]) (look_lit rfl) Tryz.isAgg30 Tryz.sizeOf30)) ?_
   refine sm rfl rfl rfl rfl ?_
   have f330 := f289.ext c294
   have f331 := f330.ext c325
   refine sx_call rfl rfl Tryz.call11 (c_markMoney f331 (by omega) (by omega)) (fun v332 w332 p332 => ?_)
   obtain ⟨rfl, ov1_332, c332⟩ := p332
   have zw332 := c332.size
   refine sa rfl rfl rfl rfl ?_
   refine wl_nil (q_n (k327 _ _ ?_))
   refine sx_seq fun K333 k333 => sx_region ?_
   have f334 := f299.ext c325
   have f335 := f334.chg c332 (by omega)
   refine sx_pure rfl rfl rfl (px_load rfl (f335.loadA (vs := [.bool ((rMon cc n1 z1 y1 m).2.1.1), t76, u76]) (look_lit rfl) Tryz.isAgg32 Tryz.sizeOf32)) ?_
   refine sm rfl rfl rfl rfl ?_
   have f336 := f309.ext c325
   have f337 := f336.chg c332 (by omega)
   have f338 := f314.ext c325
   have f339 := f338.chg c332 (by omega)
   refine sx_call rfl rfl Tryz.call10 (c_markRat f337 f339 (by omega) (by first | omega | (simp only [mk_length]; omega)) (by omega)) (fun v340 w340 p340 => ?_)
   obtain ⟨rfl, ov1_340, od1_340, c340⟩ := p340
   have zw340 := c340.size
   refine sa rfl rfl rfl rfl ?_
   refine wl_nil (q_n (k333 _ _ ?_))
   refine sx_sub (Sub.cons (t := 0) rfl (.cons (t := 2) rfl (.cons (t := 4) rfl (.cons (t := 6) rfl (.cons (t := 8) rfl (.cons (t := 9) rfl (.cons (t := 10) rfl (.cons (t := 12) rfl (.cons (t := 13) rfl (.cons (t := 16) rfl (.nil))))))))))) ?_
   refine sx_seq fun K341 k341 => sx_region ?_
   refine sa rfl rfl rfl rfl ?_
   refine wl_nil (q_n (k341 _ _ ?_))
   refine sx_seq fun K342 k342 => sx_region ?_
   have f343 := f329.chg c332 (by omega)
   have f344 := f343.chg c340 (by omega)
   refine sx_pure rfl rfl rfl (px_load rfl (f344.loadA (vs := [.string ((rMon cc n1 z1 y1 m).1.1), .bool ((rMon cc n1 z1 y1 m).1.2.1), s76]) (look_lit rfl) Tryz.isAgg30 Tryz.sizeOf30)) ?_
   refine sm rfl rfl rfl rfl ?_
   have f345 := ov1_332.chg c340 (by omega)
   refine sx_call rfl rfl Tryz.call12 (c_heldMoney f345.sv (by first | omega | (simp only [mk_length]; omega)) (by omega) (by first | assumption | simp [mk_length])) (fun v346 w346 p346 => ?_)
   obtain ⟨rfl, c346⟩ := p346
   have zw346 := c346.size
   refine sa rfl rfl rfl rfl ?_
   refine wl_nil (q_n (k342 _ _ ?_))
   refine sx_seq fun K347 k347 => ?_
   refine sx_seq fun K348 k348 => sx_region ?_
   refine sm rfl rfl rfl rfl ?_
   refine sx_pure rfl rfl rfl (px_lt rfl rfl) ?_
   refine wl_nil (q_n (k348 _ _ ?_))
   refine sx_sub (Sub.cons (t := 0) rfl (.cons (t := 2) rfl (.cons (t := 4) rfl (.cons (t := 6) rfl (.cons (t := 8) rfl (.cons (t := 9) rfl (.cons (t := 10) rfl (.cons (t := 12) rfl (.cons (t := 13) rfl (.cons (t := 16) rfl (.cons (t := 17) rfl (.cons (t := 100) rfl (.nil))))))))))))) ?_
   have h5316 : ¬ (((1 : Int) + ↑((mk (1 : Int) (((rMon cc n1 z1 y1 m).1.2.2)).length)).length : Int) < 0) := by omega
   refine sx_condPF rfl h5316 ?_
   refine sx_skip ?_
   refine q_n (k347 _ _ ?_)
   refine sx_seq fun K349 k349 => sx_region ?_
   have f350 := f335.chg c340 (by omega)
   have f351 := f350.ext c346
   refine sx_pure rfl rfl rfl (px_load rfl (f351.loadA (vs := [.bool ((rMon cc n1 z1 y1 m).2.1.1), t76, u76]) (look_lit rfl) Tryz.isAgg32 Tryz.sizeOf32)) ?_
   refine sm rfl rfl rfl rfl ?_
   have f352 := ov1_340.ext c346
   have f353 := od1_340.ext c346
   refine sx_call rfl rfl Tryz.call13 (c_heldRat f352.sv f353.sv (by first | omega | (simp only [mk_length]; omega)) (by first | omega | (simp only [mk_length]; omega)) (by simp [mk_length])) (fun v354 w354 p354 => ?_)
   obtain ⟨rfl, c354⟩ := p354
   have zw354 := c354.size
   refine sa rfl rfl rfl rfl ?_
   refine wl_nil (q_n (k349 _ _ ?_))
   refine sx_sub (Sub.cons (t := 0) rfl (.cons (t := 2) rfl (.cons (t := 4) rfl (.cons (t := 6) rfl (.cons (t := 8) rfl (.cons (t := 9) rfl (.cons (t := 10) rfl (.cons (t := 12) rfl (.cons (t := 13) rfl (.cons (t := 16) rfl (.cons (t := 17) rfl (.nil)))))))))))) ?_
   refine sx_seq fun K355 k355 => ?_
   refine sx_seq fun K356 k356 => sx_region ?_
   refine sm rfl rfl rfl rfl ?_
   refine sx_pure rfl rfl rfl (px_lt rfl rfl) ?_
   refine wl_nil (q_n (k356 _ _ ?_))
   have h5320 : ¬ ((((1 : Int) + ↑((mk (1 : Int) (((rMon cc n1 z1 y1 m).1.2.2)).length)).length) + ↑((mk ((1 : Int) + ↑(((rMon cc n1 z1 y1 m).1.2.2)).length) (((rMon cc n1 z1 y1 m).2.1.2.1)).length)).length + ↑((mk (((1 : Int) + ↑(((rMon cc n1 z1 y1 m).1.2.2)).length) + ↑(((rMon cc n1 z1 y1 m).2.1.2.1)).length) (((rMon cc n1 z1 y1 m).2.1.2.2)).length)).length : Int) < 0) := by omega
   refine sx_condPF rfl h5320 ?_
   refine sx_skip ?_
   refine q_n (k355 _ _ ?_)
   refine sx_seq fun K357 k357 => ?_
   refine sx_seq fun K358 k358 => sx_region ?_
   refine sm rfl rfl rfl rfl ?_
   refine sm rfl rfl rfl rfl ?_
   refine sx_pure rfl rfl rfl (px_ne rfl rfl) ?_
   refine wl_nil (q_n (k358 _ _ ?_))
   refine sx_sub (Sub.cons (t := 0) rfl (.cons (t := 2) rfl (.cons (t := 4) rfl (.cons (t := 6) rfl (.cons (t := 8) rfl (.cons (t := 9) rfl (.cons (t := 10) rfl (.cons (t := 12) rfl (.cons (t := 13) rfl (.cons (t := 16) rfl (.cons (t := 17) rfl (.cons (t := 108) rfl (.nil))))))))))))) ?_
   have h5323 : ¬ ((((1 : Int) + ↑((mk (1 : Int) (((rMon cc n1 z1 y1 m).1.2.2)).length)).length) + ↑((mk ((1 : Int) + ↑(((rMon cc n1 z1 y1 m).1.2.2)).length) (((rMon cc n1 z1 y1 m).2.1.2.1)).length)).length + ↑((mk (((1 : Int) + ↑(((rMon cc n1 z1 y1 m).1.2.2)).length) + ↑(((rMon cc n1 z1 y1 m).2.1.2.1)).length) (((rMon cc n1 z1 y1 m).2.1.2.2)).length)).length : Int) ≠ ((1 : Int) + ↑(((rMon cc n1 z1 y1 m).1.2.2)).length) + ↑(((rMon cc n1 z1 y1 m).2.1.2.1)).length + ↑(((rMon cc n1 z1 y1 m).2.1.2.2)).length) := by simp [mk_length]
   refine sx_condPF rfl h5323 ?_
   refine sx_skip ?_
   refine q_n (k357 _ _ ?_)
   refine sx_seq fun K359 k359 => sx_region ?_
   refine sm rfl rfl rfl rfl ?_
   have f360 := f171.ext d257
   have f361 := f360.ext c260
   have f362 := f361.ext c266
   have f363 := f362.chg c275 (by omega)
   have f364 := f363.ext c294
   have f365 := f364.ext c325
   have f366 := f365.chg c332 (by omega)
   have f367 := f366.chg c340 (by omega)
   have f368 := f367.ext c346
   have f369 := f368.ext c354
   refine sx_pure rfl rfl rfl (px_load rfl (f369.loadA (vs := [.bool n1, v1, d1]) (look_lit rfl) Tryz.isAgg26 Tryz.sizeOf26)) ?_
   have f370 := f258.ext c260
   have f371 := f370.ext c266
   have f372 := f371.chg c275 (by omega)
   have f373 := f372.ext c294
   have f374 := f373.ext c325
   have f375 := f374.chg c332 (by omega)
   have f376 := f375.chg c340 (by omega)
   have f377 := f376.ext c346
   have f378 := f377.ext c354
   have f379 := f259.ext c260
   have f380 := f379.ext c266
   have f381 := f380.chg c275 (by omega)
   have f382 := f381.ext c294
   have f383 := f382.ext c325
   have f384 := f383.chg c332 (by omega)
   have f385 := f384.chg c340 (by omega)
   have f386 := f385.ext c346
   have f387 := f386.ext c354
   refine sx_call rfl rfl Tryz.call6 (c_toRat f378 f387 (by omega) (by omega)) (fun v388 w388 p388 => ?_)
   obtain ⟨s388, t388, ls388, us388, lt388, ut388, rfl, os_388, ot_388, hd388, c388⟩ := p388
   have zw388 := c388.size
   refine sm rfl rfl rfl rfl ?_
   have f389 := f161.ext d257
   have f390 := f389.ext c260
   have f391 := f390.ext c266
   have f392 := f391.chg c275 (by omega)
   have f393 := f392.ext c294
   have f394 := f393.ext c325
   have f395 := f394.chg c332 (by omega)
   have f396 := f395.chg c340 (by omega)
   have f397 := f396.ext c346
   have f398 := f397.ext c354
   have f399 := f398.ext c388
   refine sx_call rfl rfl Tryz.call7 (c_iRatMoney f399 os_388.sv ot_388.sv (by omega)) (fun v400 w400 p400 => ?_)
   obtain ⟨s400, t400, u400, ls400, us400, lt400, ut400, lu400, uu400, rfl, os_400, ot_400, ou_400, hd400, hl400, c400⟩ := p400
   have zw400 := c400.size
   refine sm rfl rfl rfl rfl ?_
   refine sx_pure rfl rfl rfl (px_extract (vs := [.agg #[.string ((rMon cc n1 z1 y1 m).1.1), .bool ((rMon cc n1 z1 y1 m).1.2.1), s400], .agg #[.bool ((rMon cc n1 z1 y1 m).2.1.1), t400, u400], .bool ((rMon cc n1 z1 y1 m).2.2)]) rfl rfl) ?_
   refine sx_pure rfl rfl rfl (px_extract (vs := [.agg #[.string ((rMon cc n1 z1 y1 m).1.1), .bool ((rMon cc n1 z1 y1 m).1.2.1), s400], .agg #[.bool ((rMon cc n1 z1 y1 m).2.1.1), t400, u400], .bool ((rMon cc n1 z1 y1 m).2.2)]) rfl rfl) ?_
   refine sx_pure rfl rfl rfl (px_extract (vs := [.agg #[.string ((rMon cc n1 z1 y1 m).1.1), .bool ((rMon cc n1 z1 y1 m).1.2.1), s400], .agg #[.bool ((rMon cc n1 z1 y1 m).2.1.1), t400, u400], .bool ((rMon cc n1 z1 y1 m).2.2)]) rfl rfl) ?_
   refine sx_alloc [.string (⟨#[]⟩), .bool false, (.slice none 0 0)] rfl Tryz.zeroValue30 rfl (fun b401 w402 eb401 sb401 fb401 cb401 => ?_)
   have zw402 := cb401.size
   refine sx_alloc [.bool false, (.slice none 0 0), (.slice none 0 0)] rfl Tryz.zeroValue32 rfl (fun b403 w404 eb403 sb403 fb403 cb403 => ?_)
   have zw404 := cb403.size
   have f406 := fb401.ext cb403
   have f407 := os_400.ext cb401
   have f408 := f407.ext cb403
   refine sx_store (vs := [.string ((rMon cc n1 z1 y1 m).1.1), .bool ((rMon cc n1 z1 y1 m).1.2.1), s400]) rfl rfl f406 rfl Tryz.sizeOf30 (Nat.le_of_ble_eq_true rfl) (one_cons rfl (one_cons rfl (one_cons f408.one one_nil))) (fun w405 sw405 fw405 cw405 => ?_)
   have zw405 := cw405.size
   have gw405 : Blk w405 b401 [.string ((rMon cc n1 z1 y1 m).1.1), .bool ((rMon cc n1 z1 y1 m).1.2.1), s400] 30 := fw405
   have f410 := fb403.chg cw405 (by omega)
   have f411 := ou_400.ext cb401
   have f412 := f411.ext cb403
   have f413 := f412.chg cw405 (by omega)
   have f414 := ot_400.ext cb401
   have f415 := f414.ext cb403
   have f416 := f415.chg cw405 (by omega)
   refine sx_store (vs := [.bool ((rMon cc n1 z1 y1 m).2.1.1), t400, u400]) rfl rfl f410 rfl Tryz.sizeOf32 (Nat.le_of_ble_eq_true rfl) (one_cons rfl (one_cons f416.one (one_cons f413.one one_nil))) (fun w409 sw409 fw409 cw409 => ?_)
   have zw409 := cw409.size
   have gw409 : Blk w409 b403 [.bool ((rMon cc n1 z1 y1 m).2.1.1), t400, u400] 32 := fw409
   refine sa rfl rfl rfl rfl ?_
   refine wl_nil (q_n (k359 _ _ ?_))
   refine sx_sub (Sub.cons (t := 6) rfl (.cons (t := 8) rfl (.cons (t := 9) rfl (.cons (t := 10) rfl (.cons (t := 12) rfl (.cons (t := 13) rfl (.cons (t := 16) rfl (.cons (t := 17) rfl (.cons (t := 18) rfl (.cons (t := 19) rfl (.cons (t := 20) rfl (.nil)))))))))))) ?_
   refine sx_seq fun K417 k417 => ?_
   refine sx_seq fun K418 k418 => sx_region ?_
   have f419 := gw405.chg cw409 (by omega)
   refine sx_pure rfl rfl rfl (px_load rfl (f419.loadA (vs := [.string ((rMon cc n1 z1 y1 m).1.1), .bool ((rMon cc n1 z1 y1 m).1.2.1), s400]) (look_lit rfl) Tryz.isAgg30 Tryz.sizeOf30)) ?_
   have f420 := f285.ext c294
   have f421 := f420.ext c325
   have f422 := f421.chg c332 (by omega)
   have f423 := f422.chg c340 (by omega)
   have f424 := f423.ext c346
   have f425 := f424.ext c354
   have f426 := f425.ext c388
   have f427 := f426.ext c400
   have f428 := f427.ext cb401
   have f429 := f428.ext cb403
   have f430 := f429.chg cw405 (by omega)
   have f431 := f430.chg cw409 (by omega)
   refine sx_pure rfl rfl rfl (px_load rfl (f431.loadA (vs := [.string ((rMon cc n1 z1 y1 m).1.1), .bool ((rMon cc n1 z1 y1 m).1.2.1), s20]) (look_lit rfl) Tryz.isAgg30 Tryz.sizeOf30)) ?_
   have f432 := f408.chg cw405 (by omega)
   have f433 := f432.chg cw409 (by omega)
   have f434 := f293.ext c294
   have f435 := f434.ext c325
   have f436 := f435.chg c332 (by omega)
   have f437 := f436.chg c340 (by omega)
   have f438 := f437.ext c346
   have f439 := f438.ext c354
   have f440 := f439.ext c388
   have f441 := f440.ext c400
   have f442 := f441.ext cb401
   have f443 := f442.ext cb403
   have f444 := f443.chg cw405 (by omega)
   have f445 := f444.chg cw409 (by omega)
   refine sx_call rfl rfl Tryz.call8 (c_eqMoney f433.sv f445.sv (by omega)) (fun v446 w446 p446 => ?_)
   obtain ⟨rfl, c446⟩ := p446
   have zw446 := c446.size
   refine sx_pure rfl rfl rfl (px_notP rfl) ?_
   refine sm rfl rfl rfl rfl ?_
   have h5327 : ¬ (¬ (((rMon cc n1 z1 y1 m).1.1) = ((rMon cc n1 z1 y1 m).1.1) ∧ ((rMon cc n1 z1 y1 m).1.2.1) = ((rMon cc n1 z1 y1 m).1.2.1) ∧ ((rMon cc n1 z1 y1 m).1.2.2) = ((rMon cc n1 z1 y1 m).1.2.2))) := by simp [mk_length]
   refine sx_tmpPF (t := 122) rfl h5327 ?_
   refine sx_guardT rfl rfl rfl ?_
   have f447 := gw409.ext c446
   refine sx_pure rfl rfl rfl (px_load rfl (f447.loadA (vs := [.bool ((rMon cc n1 z1 y1 m).2.1.1), t400, u400]) (look_lit rfl) Tryz.isAgg32 Tryz.sizeOf32)) ?_
   refine sx_guardT rfl rfl rfl ?_
   have f448 := f304.ext c325
   have f449 := f448.chg c332 (by omega)
   have f450 := f449.chg c340 (by omega)
   have f451 := f450.ext c346
   have f452 := f451.ext c354
   have f453 := f452.ext c388
   have f454 := f453.ext c400
   have f455 := f454.ext cb401
   have f456 := f455.ext cb403
   have f457 := f456.chg cw405 (by omega)
   have f458 := f457.chg cw409 (by omega)
   have f459 := f458.ext c446
   refine sx_pure rfl rfl rfl (px_load rfl (f459.loadA (vs := [.bool ((rMon cc n1 z1 y1 m).2.1.1), t20, u20]) (look_lit rfl) Tryz.isAgg32 Tryz.sizeOf32)) ?_
   refine sx_guardT rfl rfl rfl ?_
   have f460 := f416.chg cw409 (by omega)
   have f461 := f460.ext c446
   have f462 := f413.chg cw409 (by omega)
   have f463 := f462.ext c446
   have f464 := f319.ext c325
   have f465 := f464.chg c332 (by omega)
   have f466 := f465.chg c340 (by omega)
   have f467 := f466.ext c346
   have f468 := f467.ext c354
   have f469 := f468.ext c388
   have f470 := f469.ext c400
   have f471 := f470.ext cb401
   have f472 := f471.ext cb403
   have f473 := f472.chg cw405 (by omega)
   have f474 := f473.chg cw409 (by omega)
   have f475 := f474.ext c446
   have f476 := f324.ext c325
   have f477 := f476.chg c332 (by omega)
   have f478 := f477.chg c340 (by omega)
   have f479 := f478.ext c346
   have f480 := f479.ext c354
   have f481 := f480.ext c388
   have f482 := f481.ext c400
   have f483 := f482.ext cb401
   have f484 := f483.ext cb403
   have f485 := f484.chg cw405 (by omega)
   have f486 := f485.chg cw409 (by omega)
   have f487 := f486.ext c446
   refine sx_call rfl rfl Tryz.call9 (c_eqRat f461.sv f463.sv f475.sv f487.sv (by omega)) (fun v488 w488 p488 => ?_)
   obtain ⟨rfl, c488⟩ := p488
   have zw488 := c488.size
   refine sx_guardT rfl rfl rfl ?_
   refine sx_pure rfl rfl rfl (px_notP rfl) ?_
   refine sx_pure rfl rfl rfl (px_pick rfl rfl) ?_
   refine sm rfl rfl rfl rfl ?_
   have h5327x1 : ¬ (¬ (((rMon cc n1 z1 y1 m).2.1.1) = ((rMon cc n1 z1 y1 m).2.1.1) ∧ ((rMon cc n1 z1 y1 m).2.1.2.1) = ((rMon cc n1 z1 y1 m).2.1.2.1) ∧ ((rMon cc n1 z1 y1 m).2.1.2.2) = ((rMon cc n1 z1 y1 m).2.1.2.2))) := by simp [mk_length]
   refine sx_tmpPF (t := 128) rfl h5327x1 ?_
   refine sx_guardT rfl rfl rfl ?_
   refine sm rfl rfl rfl rfl ?_
   refine sx_guardT rfl rfl rfl ?_
   refine sm rfl rfl rfl rfl ?_
   refine sx_guardT rfl rfl rfl ?_
   refine sx_pure rfl rfl rfl (px_neB Tryz.underlying4 rfl rfl) ?_
   refine sx_pure rfl rfl rfl (px_pick rfl rfl) ?_
   refine wl_nil (q_n (k418 _ _ ?_))
   refine sx_sub (Sub.cons (t := 6) rfl (.cons (t := 12) rfl (.cons (t := 13) rfl (.cons (t := 16) rfl (.cons (t := 17) rfl (.cons (t := 132) rfl (.nil))))))) ?_
   have h5327x2 : (((rMon cc n1 z1 y1 m).2.2) != ((rMon cc n1 z1 y1 m).2.2)) = false := by simp [mk_length]
   refine sx_condBF rfl h5327x2 ?_
   refine sx_skip ?_
   refine q_n (k417 _ _ ?_)
   refine sx_seq fun K489 k489 => sx_region ?_
   refine sa rfl rfl rfl rfl ?_
   refine wl_nil (q_n (k489 _ _ ?_))
   refine sx_seq fun K490 k490 => sx_region ?_
   have f491 := f344.ext c346
   have f492 := f491.ext c354
   have f493 := f492.ext c388
   have f494 := f493.ext c400
   have f495 := f494.ext cb401
   have f496 := f495.ext cb403
   have f497 := f496.chg cw405 (by omega)
   have f498 := f497.chg cw409 (by omega)
   have f499 := f498.ext c446
   have f500 := f499.ext c488
   refine sx_pure rfl rfl rfl (px_load rfl (f500.loadA (vs := [.string ((rMon cc n1 z1 y1 m).1.1), .bool ((rMon cc n1 z1 y1 m).1.2.1), s76]) (look_lit rfl) Tryz.isAgg30 Tryz.sizeOf30)) ?_
   refine sm rfl rfl rfl rfl ?_
   have f501 := f345.ext c346
   have f502 := f501.ext c354
   have f503 := f502.ext c388
   have f504 := f503.ext c400
   have f505 := f504.ext cb401
   have f506 := f505.ext cb403
   have f507 := f506.chg cw405 (by omega)
   have f508 := f507.chg cw409 (by omega)
   have f509 := f508.ext c446
   have f510 := f509.ext c488
   refine sx_call rfl rfl Tryz.call12 (c_heldMoney f510.sv (by first | omega | (simp only [mk_length]; omega)) (by omega) (by first | assumption | simp [mk_length])) (fun v511 w511 p511 => ?_)
   obtain ⟨rfl, c511⟩ := p511
   have zw511 := c511.size
   refine sa rfl rfl rfl rfl ?_
   refine wl_nil (q_n (k490 _ _ ?_))
   refine sx_seq fun K512 k512 => ?_
   refine sx_seq fun K513 k513 => sx_region ?_
   refine sm rfl rfl rfl rfl ?_
   refine sx_pure rfl rfl rfl (px_lt rfl rfl) ?_
   refine wl_nil (q_n (k513 _ _ ?_))
   have h5332 : ¬ (((1 : Int) + ↑((mk (1 : Int) (((rMon cc n1 z1 y1 m).1.2.2)).length)).length : Int) < 0) := by omega
   refine sx_condPF rfl h5332 ?_
   refine sx_skip ?_
   refine q_n (k512 _ _ ?_)
   refine sx_seq fun K514 k514 => sx_region ?_
   have f515 := f351.ext c354
   have f516 := f515.ext c388
   have f517 := f516.ext c400
   have f518 := f517.ext cb401
   have f519 := f518.ext cb403
   have f520 := f519.chg cw405 (by omega)
   have f521 := f520.chg cw409 (by omega)
   have f522 := f521.ext c446
   have f523 := f522.ext c488
   have f524 := f523.ext c511
   refine sx_pure rfl rfl rfl (px_load rfl (f524.loadA (vs := [.bool ((rMon cc n1 z1 y1 m).2.1.1), t76, u76]) (look_lit rfl) Tryz.isAgg32 Tryz.sizeOf32)) ?_
   refine sm rfl rfl rfl rfl ?_
   have f525 := f352.ext c354
   have f526 := f525.ext c388
   have f527 := f526.ext c400
   have f528 := f527.ext cb401
   have f529 := f528.ext cb403
   have f530 := f529.chg cw405 (by omega)
   have f531 := f530.chg cw409 (by omega)
   have f532 := f531.ext c446
   have f533 := f532.ext c488
   have f534 := f533.ext c511
   have f535 := f353.ext c354
   have f536 := f535.ext c388
   have f537 := f536.ext c400
   have f538 := f537.ext cb401
   have f539 := f538.ext cb403
   have f540 := f539.chg cw405 (by omega)
   have f541 := f540.chg cw409 (by omega)
   have f542 := f541.ext c446
   have f543 := f542.ext c488
   have f544 := f543.ext c511
   refine sx_call rfl rfl Tryz.call13 (c_heldRat f534.sv f544.sv (by first | omega | (simp only [mk_length]; omega)) (by first | omega | (simp only [mk_length]; omega)) (by simp [mk_length])) (fun v545 w545 p545 => ?_)
   obtain ⟨rfl, c545⟩ := p545
   have zw545 := c545.size
   refine sa rfl rfl rfl rfl ?_
   refine wl_nil (q_n (k514 _ _ ?_))
   refine sx_seq fun K546 k546 => ?_
   refine sx_seq fun K547 k547 => sx_region ?_
   refine sm rfl rfl rfl rfl ?_
   refine sx_pure rfl rfl rfl (px_lt rfl rfl) ?_
   refine wl_nil (q_n (k547 _ _ ?_))
   refine sx_sub (Sub.cons (t := 6) rfl (.cons (t := 16) rfl (.cons (t := 17) rfl (.cons (t := 142) rfl (.nil))))) ?_
   have h5336 : ¬ ((((1 : Int) + ↑((mk (1 : Int) (((rMon cc n1 z1 y1 m).1.2.2)).length)).length) + ↑((mk ((1 : Int) + ↑(((rMon cc n1 z1 y1 m).1.2.2)).length) (((rMon cc n1 z1 y1 m).2.1.2.1)).length)).length + ↑((mk (((1 : Int) + ↑(((rMon cc n1 z1 y1 m).1.2.2)).length) + ↑(((rMon cc n1 z1 y1 m).2.1.2.1)).length) (((rMon cc n1 z1 y1 m).2.1.2.2)).length)).length : Int) < 0) := by omega
   refine sx_condPF rfl h5336 ?_
   refine sx_skip ?_
   refine q_n (k546 _ _ ?_)
   refine sx_seq fun K548 k548 => ?_
   refine sx_seq fun K549 k549 => sx_region ?_
   refine sm rfl rfl rfl rfl ?_
   refine sm rfl rfl rfl rfl ?_
   refine sx_pure rfl rfl rfl (px_ne rfl rfl) ?_
   refine wl_nil (q_n (k549 _ _ ?_))
   have h5339 : ¬ ((((1 : Int) + ↑((mk (1 : Int) (((rMon cc n1 z1 y1 m).1.2.2)).length)).length) + ↑((mk ((1 : Int) + ↑(((rMon cc n1 z1 y1 m).1.2.2)).length) (((rMon cc n1 z1 y1 m).2.1.2.1)).length)).length + ↑((mk (((1 : Int) + ↑(((rMon cc n1 z1 y1 m).1.2.2)).length) + ↑(((rMon cc n1 z1 y1 m).2.1.2.1)).length) (((rMon cc n1 z1 y1 m).2.1.2.2)).length)).length : Int) ≠ ((1 : Int) + ↑(((rMon cc n1 z1 y1 m).1.2.2)).length) + ↑(((rMon cc n1 z1 y1 m).2.1.2.1)).length + ↑(((rMon cc n1 z1 y1 m).2.1.2.2)).length) := by simp [mk_length]
   refine sx_condPF rfl h5339 ?_
   refine sx_skip ?_
   refine q_n (k548 _ _ ?_)
   refine sx_seq fun K550 k550 => sx_region ?_
   refine sa rfl rfl rfl rfl ?_
   refine wl_nil (q_n (k550 _ _ ?_))
   refine sx_retc ?_
   refine sx_ret1 Tryz.results3 rfl ?_
   have q551 := Chg.step (l := 0) (h := 0) (Chg.zero (l := 0) (h := 0) (((((cb2.t c11).t c19).t c20).t cb21).t cb23)) cw25 (by omega)
   have q552 := Chg.step (l := 0) (h := 0) q551 cw29 (by omega)
   have q553 := Chg.step (l := 0) (h := 0) q552 (c56.t cb57) (by omega)
   have q554 := Chg.step (l := 0) (h := 0) q553 cw59 (by omega)
   have q555 := Chg.step (l := 0) (h := 0) q554 ((c76.t cb77).t cb79) (by omega)
   have q556 := Chg.step (l := 0) (h := 0) q555 cw81 (by omega)
   have q557 := Chg.step (l := 0) (h := 0) q556 cw85 (by omega)
   have q558 := Chg.step (l := 0) (h := 0) q557 ((((c117.t c152).t d257).t c260).t c266) (by omega)
   have q559 := Chg.step (l := 0) (h := 0) q558 c275 (by omega)
   have q560 := Chg.step (l := 0) (h := 0) q559 (c294.t c325) (by omega)
   have q561 := Chg.step (l := 0) (h := 0) q560 c332 (by omega)
   have q562 := Chg.step (l := 0) (h := 0) q561 c340 (by omega)
   have q563 := Chg.step (l := 0) (h := 0) q562 (((((c346.t c354).t c388).t c400).t cb401).t cb403) (by omega)
   have q564 := Chg.step (l := 0) (h := 0) q563 cw405 (by omega)
   have q565 := Chg.step (l := 0) (h := 0) q564 cw409 (by omega)
   have q566 := Chg.step (l := 0) (h := 0) q565 (((c446.t c488).t c511).t c545) (by omega)
   exact ⟨rfl, q566⟩

end Go.Proofs.YtfoceofnldnbgaaGreatDoor
