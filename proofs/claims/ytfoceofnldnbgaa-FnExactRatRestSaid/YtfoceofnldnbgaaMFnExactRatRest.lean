/- Contracts of functions of the program: what each call returns, and that it changes nothing that was. Conditions: as each says. -/
import Derived.Test.YtfoceofnldnbgaaTy
import Derived.Test.YtfoceofnldnbgaaNatK
import Derived.Test.YtfoceofnldnbgaaRm
import Derived.Test.YtfoceofnldnbgaaK1
import Derived.Test.YtfoceofnldnbgaaK2
import Derived.Test.YtfoceofnldnbgaaK3
import Derived.Test.YtfoceofnldnbgaaK4
set_option linter.unusedVariables false
set_option linter.unusedSimpArgs false
namespace Go.Proofs.Ytfoceofnldnbgaa
open Go Go.RowKit
set_option maxRecDepth 100000
set_option maxHeartbeats 1000000
theorem law_RatRest {w : World} {n1 : Bool} {v1 : Value} {lv1 uv1 : Nat} {z1 : List Int} {d1 : Value} {ld1 ud1 : Nat} {y1 : List Int} {m : Int} (hv1 : Sl w lv1 uv1 v1 (z1)) (hd1 : Sl w ld1 ud1 d1 (y1)) (bz1 : z1.length ≤ 9223372036854775807) (by1 : y1.length ≤ 9223372036854775807) (bim : -9223372036854775808 ≤ m ∧ m ≤ 9223372036854775807) :
  Ret Try.prog 6 [.agg #[.bool n1, v1, d1], .int .i64 m] w fun v w' => v = .bool (true) ∧ Chg 0 0 w w' := by
 have hv10 := hv1.fit
 have hd10 := hd1.fit
 refine sx_enter Try.func6 rfl Try.ntmps6 (Nat.le_of_ble_eq_true rfl) ?_
 refine sx_seq fun K1 k1 => sx_region ?_
 refine sx_box [.bool n1, v1, d1] rfl rfl rfl (fun b2 w3 eb2 sb2 fb2 cb2 => ?_)
 have zw3 := cb2.size
 refine sa rfl rfl rfl rfl ?_
 refine wl_nil (q_n (k1 _ _ ?_))
 refine sx_seq fun K4 k4 => sx_region ?_
 refine sa rfl rfl rfl rfl ?_
 refine wl_nil (q_n (k4 _ _ ?_))
 refine sx_seq fun K5 k5 => sx_region ?_
 refine sx_pure rfl rfl rfl (px_load rfl (fb2.loadA (vs := [.bool n1, v1, d1]) (look_lit rfl) Try.isAgg40 Try.sizeOf40)) ?_
 refine sm rfl rfl rfl rfl ?_
 have f6 := hv10.ext cb2
 have f7 := hd10.ext cb2
 refine sx_call rfl rfl Try.call17 (c_szRat f6 f7 (by omega) (by omega) (by omega)) (fun v8 w8 p8 => ?_)
 obtain ⟨r8, rfl, hr8, c8⟩ := p8
 have zw8 := c8.size
 refine sa rfl rfl rfl rfl ?_
 refine wl_nil (q_n (k5 _ _ ?_))
 refine sx_seq fun K9 k9 => ?_
 refine sx_seq fun K10 k10 => sx_region ?_
 refine sm rfl rfl rfl rfl ?_
 refine sx_pure rfl rfl rfl (px_lt rfl rfl) ?_
 refine wl_nil (q_n (k10 _ _ ?_))
 refine sx_condP rfl (fun h4144 => ?_) (fun h4144 => ?_)
 ·
  refine sx_seq fun K11 k11 => sx_region ?_
  refine sa rfl rfl rfl rfl ?_
  refine wl_nil (q_n (k11 _ _ ?_))
  refine sx_retc ?_
  refine q_r (sx_ret1 Try.results6 rfl ?_)
  exact ⟨rfl, (cb2.t c8)⟩
 ·
  replace hr8 := hr8.resolve_left h4144
  refine sx_skip ?_
  refine q_n (k9 _ _ ?_)
  refine sx_seq fun K12 k12 => sx_region ?_
  have f13 := fb2.ext c8
  refine sx_pure rfl rfl rfl (px_load rfl (f13.loadA (vs := [.bool n1, v1, d1]) (look_lit rfl) Try.isAgg40 Try.sizeOf40)) ?_
  have f14 := f6.ext c8
  have f15 := f7.ext c8
  refine sx_call rfl rfl Try.call19 (c_toRat f14 f15 (by omega) (by omega)) (fun v16 w16 p16 => ?_)
  obtain ⟨s16, t16, ls16, us16, lt16, ut16, rfl, os_16, ot_16, hd16, c16⟩ := p16
  have zw16 := c16.size
  refine sm rfl rfl rfl rfl ?_
  refine sx_call rfl rfl Try.call23 (c_sRatRest os_16.sv ot_16.sv (by omega)) (fun v17 w17 p17 => ?_)
  obtain ⟨s17, t17, u17, ls17, us17, lt17, ut17, lu17, uu17, rfl, os_17, ot_17, ou_17, hd17, hl17, c17⟩ := p17
  have zw17 := c17.size
  refine sm rfl rfl rfl rfl ?_
  refine sx_pure rfl rfl rfl (px_extract (vs := [.agg #[.bool ((rRest n1 z1 y1 m).1.1), s17], .agg #[.bool ((rRest n1 z1 y1 m).2.1.1), t17, u17], .bool ((rRest n1 z1 y1 m).2.2)]) rfl rfl) ?_
  refine sx_pure rfl rfl rfl (px_extract (vs := [.agg #[.bool ((rRest n1 z1 y1 m).1.1), s17], .agg #[.bool ((rRest n1 z1 y1 m).2.1.1), t17, u17], .bool ((rRest n1 z1 y1 m).2.2)]) rfl rfl) ?_
  refine sx_pure rfl rfl rfl (px_extract (vs := [.agg #[.bool ((rRest n1 z1 y1 m).1.1), s17], .agg #[.bool ((rRest n1 z1 y1 m).2.1.1), t17, u17], .bool ((rRest n1 z1 y1 m).2.2)]) rfl rfl) ?_
  refine sx_alloc [.bool false, (.slice none 0 0)] rfl Try.zeroValue28 rfl (fun b18 w19 eb18 sb18 fb18 cb18 => ?_)
  have zw19 := cb18.size
  refine sx_alloc [.bool false, (.slice none 0 0), (.slice none 0 0)] rfl Try.zeroValue44 rfl (fun b20 w21 eb20 sb20 fb20 cb20 => ?_)
  have zw21 := cb20.size
  have f23 := fb18.ext cb20
  have f24 := os_17.ext cb18
  have f25 := f24.ext cb20
  refine sx_store (vs := [.bool ((rRest n1 z1 y1 m).1.1), s17]) rfl rfl f23 rfl Try.sizeOf28 (Nat.le_of_ble_eq_true rfl) (one_cons rfl (one_cons f25.one one_nil)) (fun w22 sw22 fw22 cw22 => ?_)
  have zw22 := cw22.size
  have gw22 : Blk w22 b18 [.bool ((rRest n1 z1 y1 m).1.1), s17] 28 := fw22
  have f27 := fb20.chg cw22 (by omega)
  have f28 := ou_17.ext cb18
  have f29 := f28.ext cb20
  have f30 := f29.chg cw22 (by omega)
  have f31 := ot_17.ext cb18
  have f32 := f31.ext cb20
  have f33 := f32.chg cw22 (by omega)
  refine sx_store (vs := [.bool ((rRest n1 z1 y1 m).2.1.1), t17, u17]) rfl rfl f27 rfl Try.sizeOf44 (Nat.le_of_ble_eq_true rfl) (one_cons rfl (one_cons f33.one (one_cons f30.one one_nil))) (fun w26 sw26 fw26 cw26 => ?_)
  have zw26 := cw26.size
  have gw26 : Blk w26 b20 [.bool ((rRest n1 z1 y1 m).2.1.1), t17, u17] 44 := fw26
  refine sa rfl rfl rfl rfl ?_
  refine wl_nil (q_n (k12 _ _ ?_))
  refine sx_sub (Sub.cons (t := 1) rfl (.cons (t := 2) rfl (.cons (t := 4) rfl (.cons (t := 6) rfl (.cons (t := 7) rfl (.cons (t := 8) rfl (.nil))))))) ?_
  refine sx_seq fun K34 k34 => sx_region ?_
  have f35 := f13.ext c16
  have f36 := f35.ext c17
  have f37 := f36.ext cb18
  have f38 := f37.ext cb20
  have f39 := f38.chg cw22 (by omega)
  have f40 := f39.chg cw26 (by omega)
  refine sx_pure rfl rfl rfl (px_load rfl (f40.loadA (vs := [.bool n1, v1, d1]) (look_lit rfl) Try.isAgg40 Try.sizeOf40)) ?_
  have f41 := f14.ext c16
  have f42 := f41.ext c17
  have f43 := f42.ext cb18
  have f44 := f43.ext cb20
  have f45 := f44.chg cw22 (by omega)
  have f46 := f45.chg cw26 (by omega)
  have f47 := f15.ext c16
  have f48 := f47.ext c17
  have f49 := f48.ext cb18
  have f50 := f49.ext cb20
  have f51 := f50.chg cw22 (by omega)
  have f52 := f51.chg cw26 (by omega)
  refine sx_call rfl rfl Try.call19 (c_toRat f46 f52 (by omega) (by omega)) (fun v53 w53 p53 => ?_)
  obtain ⟨s53, t53, ls53, us53, lt53, ut53, rfl, os_53, ot_53, hd53, c53⟩ := p53
  have zw53 := c53.size
  refine sx_alloc [.bool false, (.slice none 0 0), (.slice none 0 0)] rfl Try.zeroValue44 rfl (fun b54 w55 eb54 sb54 fb54 cb54 => ?_)
  have zw55 := cb54.size
  have f57 := ot_53.ext cb54
  have f58 := os_53.ext cb54
  refine sx_store (vs := [.bool n1, s53, t53]) rfl rfl fb54 rfl Try.sizeOf44 (Nat.le_of_ble_eq_true rfl) (one_cons rfl (one_cons f58.one (one_cons f57.one one_nil))) (fun w56 sw56 fw56 cw56 => ?_)
  have zw56 := cw56.size
  have gw56 : Blk w56 b54 [.bool n1, s53, t53] 44 := fw56
  refine wl_nil (q_n (k34 _ _ ?_))
  refine sx_seq fun K59 k59 => sx_region ?_
  refine sx_pure rfl rfl rfl (px_load rfl (gw56.loadA (vs := [.bool n1, s53, t53]) (look_lit rfl) Try.isAgg44 Try.sizeOf44)) ?_
  refine sm rfl rfl rfl rfl ?_
  have f60 := f58.chg cw56 (by omega)
  have f61 := f57.chg cw56 (by omega)
  refine sx_call rfl rfl Try.call24 (c_iRatRest f60.sv f61.sv (by omega)) (fun v62 w62 p62 => ?_)
  obtain ⟨s62, t62, u62, ls62, us62, lt62, ut62, lu62, uu62, rfl, os_62, ot_62, ou_62, hd62, hl62, c62⟩ := p62
  have zw62 := c62.size
  refine sm rfl rfl rfl rfl ?_
  refine sx_pure rfl rfl rfl (px_extract (vs := [.agg #[.bool ((rRest n1 z1 y1 m).1.1), s62], .agg #[.bool ((rRest n1 z1 y1 m).2.1.1), t62, u62], .bool ((rRest n1 z1 y1 m).2.2)]) rfl rfl) ?_
  refine sx_pure rfl rfl rfl (px_extract (vs := [.agg #[.bool ((rRest n1 z1 y1 m).1.1), s62], .agg #[.bool ((rRest n1 z1 y1 m).2.1.1), t62, u62], .bool ((rRest n1 z1 y1 m).2.2)]) rfl rfl) ?_
  refine sx_pure rfl rfl rfl (px_extract (vs := [.agg #[.bool ((rRest n1 z1 y1 m).1.1), s62], .agg #[.bool ((rRest n1 z1 y1 m).2.1.1), t62, u62], .bool ((rRest n1 z1 y1 m).2.2)]) rfl rfl) ?_
  refine sx_alloc [.bool false, (.slice none 0 0)] rfl Try.zeroValue28 rfl (fun b63 w64 eb63 sb63 fb63 cb63 => ?_)
  have zw64 := cb63.size
  refine sx_alloc [.bool false, (.slice none 0 0), (.slice none 0 0)] rfl Try.zeroValue44 rfl (fun b65 w66 eb65 sb65 fb65 cb65 => ?_)
  have zw66 := cb65.size
  have f68 := fb63.ext cb65
  have f69 := os_62.ext cb63
  have f70 := f69.ext cb65
  refine sx_store (vs := [.bool ((rRest n1 z1 y1 m).1.1), s62]) rfl rfl f68 rfl Try.sizeOf28 (Nat.le_of_ble_eq_true rfl) (one_cons rfl (one_cons f70.one one_nil)) (fun w67 sw67 fw67 cw67 => ?_)
  have zw67 := cw67.size
  have gw67 : Blk w67 b63 [.bool ((rRest n1 z1 y1 m).1.1), s62] 28 := fw67
  have f72 := fb65.chg cw67 (by omega)
  have f73 := ou_62.ext cb63
  have f74 := f73.ext cb65
  have f75 := f74.chg cw67 (by omega)
  have f76 := ot_62.ext cb63
  have f77 := f76.ext cb65
  have f78 := f77.chg cw67 (by omega)
  refine sx_store (vs := [.bool ((rRest n1 z1 y1 m).2.1.1), t62, u62]) rfl rfl f72 rfl Try.sizeOf44 (Nat.le_of_ble_eq_true rfl) (one_cons rfl (one_cons f78.one (one_cons f75.one one_nil))) (fun w71 sw71 fw71 cw71 => ?_)
  have zw71 := cw71.size
  have gw71 : Blk w71 b65 [.bool ((rRest n1 z1 y1 m).2.1.1), t62, u62] 44 := fw71
  refine sa rfl rfl rfl rfl ?_
  refine wl_nil (q_n (k59 _ _ ?_))
  refine sx_sub (Sub.cons (t := 1) rfl (.cons (t := 2) rfl (.cons (t := 4) rfl (.cons (t := 6) rfl (.cons (t := 7) rfl (.cons (t := 8) rfl (.cons (t := 9) rfl (.cons (t := 10) rfl (.cons (t := 11) rfl (.cons (t := 12) rfl (.nil))))))))))) ?_
  refine sx_seq fun K79 k79 => ?_
  refine sx_seq fun K80 k80 => sx_region ?_
  have f81 := gw67.chg cw71 (by omega)
  refine sx_pure rfl rfl rfl (px_load rfl (f81.loadA (vs := [.bool ((rRest n1 z1 y1 m).1.1), s62]) (look_lit rfl) Try.isAgg28 Try.sizeOf28)) ?_
  have f82 := gw22.chg cw26 (by omega)
  have f83 := f82.ext c53
  have f84 := f83.ext cb54
  have f85 := f84.chg cw56 (by omega)
  have f86 := f85.ext c62
  have f87 := f86.ext cb63
  have f88 := f87.ext cb65
  have f89 := f88.chg cw67 (by omega)
  have f90 := f89.chg cw71 (by omega)
  refine sx_pure rfl rfl rfl (px_load rfl (f90.loadA (vs := [.bool ((rRest n1 z1 y1 m).1.1), s17]) (look_lit rfl) Try.isAgg28 Try.sizeOf28)) ?_
  have f91 := f70.chg cw67 (by omega)
  have f92 := f91.chg cw71 (by omega)
  have f93 := f25.chg cw22 (by omega)
  have f94 := f93.chg cw26 (by omega)
  have f95 := f94.ext c53
  have f96 := f95.ext cb54
  have f97 := f96.chg cw56 (by omega)
  have f98 := f97.ext c62
  have f99 := f98.ext cb63
  have f100 := f99.ext cb65
  have f101 := f100.chg cw67 (by omega)
  have f102 := f101.chg cw71 (by omega)
  refine sx_call rfl rfl Try.call25 (c_eqSigned f92.sv f102.sv (by omega)) (fun v103 w103 p103 => ?_)
  obtain ⟨rfl, c103⟩ := p103
  have zw103 := c103.size
  refine sx_pure rfl rfl rfl (px_notP rfl) ?_
  refine sm rfl rfl rfl rfl ?_
  have h4150 : ¬ (¬ (((rRest n1 z1 y1 m).1.1) = ((rRest n1 z1 y1 m).1.1) ∧ ((rRest n1 z1 y1 m).1.2) = ((rRest n1 z1 y1 m).1.2))) := by simp [mk_length]
  refine sx_tmpPF (t := 45) rfl h4150 ?_
  refine sx_guardT rfl rfl rfl ?_
  have f104 := gw71.ext c103
  refine sx_pure rfl rfl rfl (px_load rfl (f104.loadA (vs := [.bool ((rRest n1 z1 y1 m).2.1.1), t62, u62]) (look_lit rfl) Try.isAgg44 Try.sizeOf44)) ?_
  refine sx_guardT rfl rfl rfl ?_
  have f105 := gw26.ext c53
  have f106 := f105.ext cb54
  have f107 := f106.chg cw56 (by omega)
  have f108 := f107.ext c62
  have f109 := f108.ext cb63
  have f110 := f109.ext cb65
  have f111 := f110.chg cw67 (by omega)
  have f112 := f111.chg cw71 (by omega)
  have f113 := f112.ext c103
  refine sx_pure rfl rfl rfl (px_load rfl (f113.loadA (vs := [.bool ((rRest n1 z1 y1 m).2.1.1), t17, u17]) (look_lit rfl) Try.isAgg44 Try.sizeOf44)) ?_
  refine sx_guardT rfl rfl rfl ?_
  have f114 := f78.chg cw71 (by omega)
  have f115 := f114.ext c103
  have f116 := f75.chg cw71 (by omega)
  have f117 := f116.ext c103
  have f118 := f33.chg cw26 (by omega)
  have f119 := f118.ext c53
  have f120 := f119.ext cb54
  have f121 := f120.chg cw56 (by omega)
  have f122 := f121.ext c62
  have f123 := f122.ext cb63
  have f124 := f123.ext cb65
  have f125 := f124.chg cw67 (by omega)
  have f126 := f125.chg cw71 (by omega)
  have f127 := f126.ext c103
  have f128 := f30.chg cw26 (by omega)
  have f129 := f128.ext c53
  have f130 := f129.ext cb54
  have f131 := f130.chg cw56 (by omega)
  have f132 := f131.ext c62
  have f133 := f132.ext cb63
  have f134 := f133.ext cb65
  have f135 := f134.chg cw67 (by omega)
  have f136 := f135.chg cw71 (by omega)
  have f137 := f136.ext c103
  refine sx_call rfl rfl Try.call21 (c_eqRat f115.sv f117.sv f127.sv f137.sv (by omega)) (fun v138 w138 p138 => ?_)
  obtain ⟨rfl, c138⟩ := p138
  have zw138 := c138.size
  refine sx_guardT rfl rfl rfl ?_
  refine sx_pure rfl rfl rfl (px_notP rfl) ?_
  refine sx_pure rfl rfl rfl (px_pick rfl rfl) ?_
  refine sm rfl rfl rfl rfl ?_
  have h4150x1 : ¬ (¬ (((rRest n1 z1 y1 m).2.1.1) = ((rRest n1 z1 y1 m).2.1.1) ∧ ((rRest n1 z1 y1 m).2.1.2.1) = ((rRest n1 z1 y1 m).2.1.2.1) ∧ ((rRest n1 z1 y1 m).2.1.2.2) = ((rRest n1 z1 y1 m).2.1.2.2))) := by simp [mk_length]
  refine sx_tmpPF (t := 51) rfl h4150x1 ?_
  refine sx_guardT rfl rfl rfl ?_
  refine sm rfl rfl rfl rfl ?_
  refine sx_guardT rfl rfl rfl ?_
  refine sm rfl rfl rfl rfl ?_
  refine sx_guardT rfl rfl rfl ?_
  refine sx_pure rfl rfl rfl (px_neB Try.underlying4 rfl rfl) ?_
  refine sx_pure rfl rfl rfl (px_pick rfl rfl) ?_
  refine wl_nil (q_n (k80 _ _ ?_))
  refine sx_sub (Sub.cons (t := 1) rfl (.cons (t := 2) rfl (.cons (t := 4) rfl (.cons (t := 6) rfl (.cons (t := 7) rfl (.cons (t := 8) rfl (.cons (t := 9) rfl (.cons (t := 10) rfl (.cons (t := 11) rfl (.cons (t := 12) rfl (.cons (t := 55) rfl (.nil)))))))))))) ?_
  have h4150x2 : (((rRest n1 z1 y1 m).2.2) != ((rRest n1 z1 y1 m).2.2)) = false := by simp [mk_length]
  refine sx_condBF rfl h4150x2 ?_
  refine sx_skip ?_
  refine q_n (k79 _ _ ?_)
  refine sx_seq fun K139 k139 => ?_
  refine sx_seq fun K140 k140 => ?_
  have f141 := f40.ext c53
  have f142 := f141.ext cb54
  have f143 := f142.chg cw56 (by omega)
  have f144 := f143.ext c62
  have f145 := f144.ext cb63
  have f146 := f145.ext cb65
  have f147 := f146.chg cw67 (by omega)
  have f148 := f147.chg cw71 (by omega)
  have f149 := f148.ext c103
  have f150 := f149.ext c138
  have f151 := f90.ext c103
  have f152 := f151.ext c138
  have f153 := f113.ext c138
  have f154 := gw56.ext c62
  have f155 := f154.ext cb63
  have f156 := f155.ext cb65
  have f157 := f156.chg cw67 (by omega)
  have f158 := f157.chg cw71 (by omega)
  have f159 := f158.ext c103
  have f160 := f159.ext c138
  have f161 := f81.ext c103
  have f162 := f161.ext c138
  have f163 := f104.ext c138
  have f164 := f46.ext c53
  have f165 := f164.ext cb54
  have f166 := f165.chg cw56 (by omega)
  have f167 := f166.ext c62
  have f168 := f167.ext cb63
  have f169 := f168.ext cb65
  have f170 := f169.chg cw67 (by omega)
  have f171 := f170.chg cw71 (by omega)
  have f172 := f171.ext c103
  have f173 := f172.ext c138
  have f174 := f52.ext c53
  have f175 := f174.ext cb54
  have f176 := f175.chg cw56 (by omega)
  have f177 := f176.ext c62
  have f178 := f177.ext cb63
  have f179 := f178.ext cb65
  have f180 := f179.chg cw67 (by omega)
  have f181 := f180.chg cw71 (by omega)
  have f182 := f181.ext c103
  have f183 := f182.ext c138
  have f184 := os_16.ext c17
  have f185 := f184.ext cb18
  have f186 := f185.ext cb20
  have f187 := f186.chg cw22 (by omega)
  have f188 := f187.chg cw26 (by omega)
  have f189 := f188.ext c53
  have f190 := f189.ext cb54
  have f191 := f190.chg cw56 (by omega)
  have f192 := f191.ext c62
  have f193 := f192.ext cb63
  have f194 := f193.ext cb65
  have f195 := f194.chg cw67 (by omega)
  have f196 := f195.chg cw71 (by omega)
  have f197 := f196.ext c103
  have f198 := f197.ext c138
  have f199 := ot_16.ext c17
  have f200 := f199.ext cb18
  have f201 := f200.ext cb20
  have f202 := f201.chg cw22 (by omega)
  have f203 := f202.chg cw26 (by omega)
  have f204 := f203.ext c53
  have f205 := f204.ext cb54
  have f206 := f205.chg cw56 (by omega)
  have f207 := f206.ext c62
  have f208 := f207.ext cb63
  have f209 := f208.ext cb65
  have f210 := f209.chg cw67 (by omega)
  have f211 := f210.chg cw71 (by omega)
  have f212 := f211.ext c103
  have f213 := f212.ext c138
  have f214 := f102.ext c103
  have f215 := f214.ext c138
  have f216 := f127.ext c138
  have f217 := f137.ext c138
  have f218 := f60.ext c62
  have f219 := f218.ext cb63
  have f220 := f219.ext cb65
  have f221 := f220.chg cw67 (by omega)
  have f222 := f221.chg cw71 (by omega)
  have f223 := f222.ext c103
  have f224 := f223.ext c138
  have f225 := f61.ext c62
  have f226 := f225.ext cb63
  have f227 := f226.ext cb65
  have f228 := f227.chg cw67 (by omega)
  have f229 := f228.chg cw71 (by omega)
  have f230 := f229.ext c103
  have f231 := f230.ext c138
  have f232 := f92.ext c103
  have f233 := f232.ext c138
  have f234 := f115.ext c138
  have f235 := f117.ext c138
  refine dx_region (fun w' => Chg 0 0 w138 w') (by kernel_rfl) (Chg.zero (Chg.drew _)) ?_
  have d236 := Chg.drew w138
  have s236 : Chg 0 0 w138 (World.drew w138) := Chg.zero (Chg.drew _)
  have y236 : (World.drew w138).heap.size = w138.heap.size := rfl
  generalize World.drew w138 = w236 at *
  have zw236 := d236.size
  refine dx_take 0 rfl rfl rfl rfl (by kernel_rfl) (by kernel_rfl) (by kernel_rfl) s236 (fun _ hS => px_load rfl ((f160.chg hS (by omega)).loadA (vs := [.bool n1, s53, t53]) (look_lit rfl) Try.isAgg44 Try.sizeOf44)) ?_
  refine dx_take 1 rfl rfl rfl rfl (by kernel_rfl) (by kernel_rfl) (by kernel_rfl) s236 (fun _ hS => px_load rfl ((f150.chg hS (by omega)).loadA (vs := [.bool n1, v1, d1]) (look_lit rfl) Try.isAgg40 Try.sizeOf40)) ?_
  refine dx_eff 2 rfl (by kernel_rfl) ?_
  have f237 := f173.ext d236
  have f238 := f183.ext d236
  refine sx_call rfl rfl Try.call19 (c_toRat f237 f238 (by omega) (by omega)) (fun v239 w239 p239 => ?_)
  obtain ⟨s239, t239, ls239, us239, lt239, ut239, rfl, os_239, ot_239, hd239, c239⟩ := p239
  have zw239 := c239.size
  have s240 : Chg 0 0 w138 w239 := (d236.t c239)
  refine wl_nil ?_
  refine dx_next s240 ?_
  refine dx_eff 3 rfl (by kernel_rfl) ?_
  have f241 := f224.ext d236
  have f242 := f241.ext c239
  have f243 := f231.ext d236
  have f244 := f243.ext c239
  refine sx_call rfl rfl Try.call21 (c_eqRat f242.sv f244.sv os_239.sv ot_239.sv (by omega)) (fun v245 w245 p245 => ?_)
  obtain ⟨rfl, c245⟩ := p245
  have zw245 := c245.size
  have s246 : Chg 0 0 w138 w245 := ((d236.t c239).t c245)
  refine wl_nil ?_
  refine dx_next s246 ?_
  refine dx_take 4 rfl rfl rfl rfl (by kernel_rfl) (by kernel_rfl) (by kernel_rfl) s246 (fun _ hS => px_notP rfl) ?_
  refine dx_done (by kernel_rfl) ?_
  refine q_n (k140 _ _ ?_)
  refine sx_sub (Sub.cons (t := 1) rfl (.cons (t := 2) rfl (.cons (t := 4) rfl (.cons (t := 6) rfl (.cons (t := 7) rfl (.cons (t := 8) rfl (.cons (t := 9) rfl (.cons (t := 10) rfl (.cons (t := 11) rfl (.cons (t := 12) rfl (.cons (t := 60) rfl (.nil)))))))))))) ?_
  have h4153 : ¬ (¬ (n1 = n1 ∧ z1 = z1 ∧ y1 = y1)) := by simp [mk_length]
  refine sx_condPF rfl h4153 ?_
  refine sx_skip ?_
  refine q_n (k139 _ _ ?_)
  refine sx_seq fun K247 k247 => sx_region ?_
  refine sa rfl rfl rfl rfl ?_
  refine wl_nil (q_n (k247 _ _ ?_))
  refine sx_seq fun K248 k248 => sx_region ?_
  have f249 := f160.ext d236
  have f250 := f249.ext c239
  have f251 := f250.ext c245
  refine sx_pure rfl rfl rfl (px_load rfl (f251.loadA (vs := [.bool n1, s53, t53]) (look_lit rfl) Try.isAgg44 Try.sizeOf44)) ?_
  refine sm rfl rfl rfl rfl ?_
  have f252 := f242.ext c245
  have f253 := f244.ext c245
  refine sx_call rfl rfl Try.call22 (c_markRat f252 f253 (by omega) (by first | omega | (simp only [mk_length]; omega)) (by omega)) (fun v254 w254 p254 => ?_)
  obtain ⟨rfl, ov1_254, od1_254, c254⟩ := p254
  have zw254 := c254.size
  refine sa rfl rfl rfl rfl ?_
  refine wl_nil (q_n (k248 _ _ ?_))
  refine sx_sub (Sub.cons (t := 1) rfl (.cons (t := 2) rfl (.cons (t := 4) rfl (.cons (t := 6) rfl (.cons (t := 7) rfl (.cons (t := 8) rfl (.cons (t := 10) rfl (.cons (t := 11) rfl (.cons (t := 12) rfl (.cons (t := 13) rfl (.nil))))))))))) ?_
  refine sx_seq fun K255 k255 => ?_
  refine sx_seq fun K256 k256 => sx_region ?_
  refine sm rfl rfl rfl rfl ?_
  refine sx_pure rfl rfl rfl (px_lt rfl rfl) ?_
  refine sm rfl rfl rfl rfl ?_
  have h4158 : ¬ (((1 : Int) + ↑(z1).length + ↑(y1).length : Int) < 0) := by omega
  refine sx_tmpPF (t := 66) rfl h4158 ?_
  refine sx_guardT rfl rfl rfl ?_
  have f257 := f162.ext d236
  have f258 := f257.ext c239
  have f259 := f258.ext c245
  have f260 := f259.chg c254 (by omega)
  refine sx_pure rfl rfl rfl (px_load rfl (f260.loadA (vs := [.bool ((rRest n1 z1 y1 m).1.1), s62]) (look_lit rfl) Try.isAgg28 Try.sizeOf28)) ?_
  refine sx_guardT rfl rfl rfl ?_
  have f261 := f152.ext d236
  have f262 := f261.ext c239
  have f263 := f262.ext c245
  have f264 := f263.chg c254 (by omega)
  refine sx_pure rfl rfl rfl (px_load rfl (f264.loadA (vs := [.bool ((rRest n1 z1 y1 m).1.1), s17]) (look_lit rfl) Try.isAgg28 Try.sizeOf28)) ?_
  refine sx_guardT rfl rfl rfl ?_
  have f265 := f233.ext d236
  have f266 := f265.ext c239
  have f267 := f266.ext c245
  have f268 := f267.chg c254 (by omega)
  have f269 := f215.ext d236
  have f270 := f269.ext c239
  have f271 := f270.ext c245
  have f272 := f271.chg c254 (by omega)
  refine sx_call rfl rfl Try.call25 (c_eqSigned f268.sv f272.sv (by omega)) (fun v273 w273 p273 => ?_)
  obtain ⟨rfl, c273⟩ := p273
  have zw273 := c273.size
  refine sx_guardT rfl rfl rfl ?_
  refine sx_pure rfl rfl rfl (px_notP rfl) ?_
  refine sx_pure rfl rfl rfl (px_pick rfl rfl) ?_
  refine sm rfl rfl rfl rfl ?_
  have h4158x1 : ¬ (¬ (((rRest n1 z1 y1 m).1.1) = ((rRest n1 z1 y1 m).1.1) ∧ ((rRest n1 z1 y1 m).1.2) = ((rRest n1 z1 y1 m).1.2))) := by simp [mk_length]
  refine sx_tmpPF (t := 72) rfl h4158x1 ?_
  refine sx_guardT rfl rfl rfl ?_
  have f274 := f163.ext d236
  have f275 := f274.ext c239
  have f276 := f275.ext c245
  have f277 := f276.chg c254 (by omega)
  have f278 := f277.ext c273
  refine sx_pure rfl rfl rfl (px_load rfl (f278.loadA (vs := [.bool ((rRest n1 z1 y1 m).2.1.1), t62, u62]) (look_lit rfl) Try.isAgg44 Try.sizeOf44)) ?_
  refine sx_guardT rfl rfl rfl ?_
  have f279 := f153.ext d236
  have f280 := f279.ext c239
  have f281 := f280.ext c245
  have f282 := f281.chg c254 (by omega)
  have f283 := f282.ext c273
  refine sx_pure rfl rfl rfl (px_load rfl (f283.loadA (vs := [.bool ((rRest n1 z1 y1 m).2.1.1), t17, u17]) (look_lit rfl) Try.isAgg44 Try.sizeOf44)) ?_
  refine sx_guardT rfl rfl rfl ?_
  have f284 := f234.ext d236
  have f285 := f284.ext c239
  have f286 := f285.ext c245
  have f287 := f286.chg c254 (by omega)
  have f288 := f287.ext c273
  have f289 := f235.ext d236
  have f290 := f289.ext c239
  have f291 := f290.ext c245
  have f292 := f291.chg c254 (by omega)
  have f293 := f292.ext c273
  have f294 := f216.ext d236
  have f295 := f294.ext c239
  have f296 := f295.ext c245
  have f297 := f296.chg c254 (by omega)
  have f298 := f297.ext c273
  have f299 := f217.ext d236
  have f300 := f299.ext c239
  have f301 := f300.ext c245
  have f302 := f301.chg c254 (by omega)
  have f303 := f302.ext c273
  refine sx_call rfl rfl Try.call21 (c_eqRat f288.sv f293.sv f298.sv f303.sv (by omega)) (fun v304 w304 p304 => ?_)
  obtain ⟨rfl, c304⟩ := p304
  have zw304 := c304.size
  refine sx_guardT rfl rfl rfl ?_
  refine sx_pure rfl rfl rfl (px_notP rfl) ?_
  refine sx_pure rfl rfl rfl (px_pick rfl rfl) ?_
  refine sm rfl rfl rfl rfl ?_
  have h4158x2 : ¬ (¬ (((rRest n1 z1 y1 m).2.1.1) = ((rRest n1 z1 y1 m).2.1.1) ∧ ((rRest n1 z1 y1 m).2.1.2.1) = ((rRest n1 z1 y1 m).2.1.2.1) ∧ ((rRest n1 z1 y1 m).2.1.2.2) = ((rRest n1 z1 y1 m).2.1.2.2))) := by simp [mk_length]
  refine sx_tmpPF (t := 78) rfl h4158x2 ?_
  refine sx_guardT rfl rfl rfl ?_
  refine sm rfl rfl rfl rfl ?_
  refine sx_guardT rfl rfl rfl ?_
  refine sm rfl rfl rfl rfl ?_
  refine sx_guardT rfl rfl rfl ?_
  refine sx_pure rfl rfl rfl (px_neB Try.underlying4 rfl rfl) ?_
  refine sx_pure rfl rfl rfl (px_pick rfl rfl) ?_
  refine wl_nil (q_n (k256 _ _ ?_))
  refine sx_sub (Sub.cons (t := 1) rfl (.cons (t := 2) rfl (.cons (t := 4) rfl (.cons (t := 6) rfl (.cons (t := 7) rfl (.cons (t := 8) rfl (.cons (t := 10) rfl (.cons (t := 11) rfl (.cons (t := 82) rfl (.nil)))))))))) ?_
  have h4158x3 : (((rRest n1 z1 y1 m).2.2) != ((rRest n1 z1 y1 m).2.2)) = false := by simp [mk_length]
  refine sx_condBF rfl h4158x3 ?_
  refine sx_skip ?_
  refine q_n (k255 _ _ ?_)
  refine sx_seq fun K305 k305 => sx_region ?_
  refine sa rfl rfl rfl rfl ?_
  refine wl_nil (q_n (k305 _ _ ?_))
  refine sx_seq fun K306 k306 => sx_region ?_
  have f307 := f260.ext c273
  have f308 := f307.ext c304
  refine sx_pure rfl rfl rfl (px_load rfl (f308.loadA (vs := [.bool ((rRest n1 z1 y1 m).1.1), s62]) (look_lit rfl) Try.isAgg28 Try.sizeOf28)) ?_
  refine sm rfl rfl rfl rfl ?_
  have f309 := f268.ext c273
  have f310 := f309.ext c304
  refine sx_call rfl rfl Try.call26 (c_markSigned f310 (by omega) (by omega)) (fun v311 w311 p311 => ?_)
  obtain ⟨rfl, ov1_311, c311⟩ := p311
  have zw311 := c311.size
  refine sa rfl rfl rfl rfl ?_
  refine wl_nil (q_n (k306 _ _ ?_))
  refine sx_seq fun K312 k312 => sx_region ?_
  have f313 := f278.ext c304
  have f314 := f313.chg c311 (by omega)
  refine sx_pure rfl rfl rfl (px_load rfl (f314.loadA (vs := [.bool ((rRest n1 z1 y1 m).2.1.1), t62, u62]) (look_lit rfl) Try.isAgg44 Try.sizeOf44)) ?_
  refine sm rfl rfl rfl rfl ?_
  have f315 := f288.ext c304
  have f316 := f315.chg c311 (by omega)
  have f317 := f293.ext c304
  have f318 := f317.chg c311 (by omega)
  refine sx_call rfl rfl Try.call22 (c_markRat f316 f318 (by omega) (by first | omega | (simp only [mk_length]; omega)) (by omega)) (fun v319 w319 p319 => ?_)
  obtain ⟨rfl, ov1_319, od1_319, c319⟩ := p319
  have zw319 := c319.size
  refine sa rfl rfl rfl rfl ?_
  refine wl_nil (q_n (k312 _ _ ?_))
  refine sx_sub (Sub.cons (t := 1) rfl (.cons (t := 2) rfl (.cons (t := 4) rfl (.cons (t := 6) rfl (.cons (t := 7) rfl (.cons (t := 8) rfl (.cons (t := 10) rfl (.cons (t := 11) rfl (.cons (t := 14) rfl (.nil)))))))))) ?_
  refine sx_seq fun K320 k320 => sx_region ?_
  refine sa rfl rfl rfl rfl ?_
  refine wl_nil (q_n (k320 _ _ ?_))
  refine sx_seq fun K321 k321 => sx_region ?_
  have f322 := f308.chg c311 (by omega)
  have f323 := f322.chg c319 (by omega)
  refine sx_pure rfl rfl rfl (px_load rfl (f323.loadA (vs := [.bool ((rRest n1 z1 y1 m).1.1), s62]) (look_lit rfl) Try.isAgg28 Try.sizeOf28)) ?_
  refine sm rfl rfl rfl rfl ?_
  have f324 := ov1_311.chg c319 (by omega)
  refine sx_call rfl rfl Try.call27 (c_heldSigned f324.sv (by first | omega | (simp only [mk_length]; omega)) (by omega) (by first | assumption | simp [mk_length])) (fun v325 w325 p325 => ?_)
  obtain ⟨rfl, c325⟩ := p325
  have zw325 := c325.size
  refine sa rfl rfl rfl rfl ?_
  refine wl_nil (q_n (k321 _ _ ?_))
  refine sx_seq fun K326 k326 => ?_
  refine sx_seq fun K327 k327 => sx_region ?_
  refine sm rfl rfl rfl rfl ?_
  refine sx_pure rfl rfl rfl (px_lt rfl rfl) ?_
  refine wl_nil (q_n (k327 _ _ ?_))
  refine sx_sub (Sub.cons (t := 1) rfl (.cons (t := 2) rfl (.cons (t := 4) rfl (.cons (t := 6) rfl (.cons (t := 7) rfl (.cons (t := 8) rfl (.cons (t := 10) rfl (.cons (t := 11) rfl (.cons (t := 14) rfl (.cons (t := 15) rfl (.cons (t := 93) rfl (.nil)))))))))))) ?_
  have h4166 : ¬ (((1 : Int) + ↑((mk (1 : Int) (((rRest n1 z1 y1 m).1.2)).length)).length : Int) < 0) := by omega
  refine sx_condPF rfl h4166 ?_
  refine sx_skip ?_
  refine q_n (k326 _ _ ?_)
  refine sx_seq fun K328 k328 => sx_region ?_
  have f329 := f314.chg c319 (by omega)
  have f330 := f329.ext c325
  refine sx_pure rfl rfl rfl (px_load rfl (f330.loadA (vs := [.bool ((rRest n1 z1 y1 m).2.1.1), t62, u62]) (look_lit rfl) Try.isAgg44 Try.sizeOf44)) ?_
  refine sm rfl rfl rfl rfl ?_
  have f331 := ov1_319.ext c325
  have f332 := od1_319.ext c325
  refine sx_call rfl rfl Try.call28 (c_heldRat f331.sv f332.sv (by first | omega | (simp only [mk_length]; omega)) (by first | omega | (simp only [mk_length]; omega)) (by simp [mk_length])) (fun v333 w333 p333 => ?_)
  obtain ⟨rfl, c333⟩ := p333
  have zw333 := c333.size
  refine sa rfl rfl rfl rfl ?_
  refine wl_nil (q_n (k328 _ _ ?_))
  refine sx_seq fun K334 k334 => ?_
  refine sx_seq fun K335 k335 => sx_region ?_
  refine sm rfl rfl rfl rfl ?_
  refine sx_pure rfl rfl rfl (px_lt rfl rfl) ?_
  refine wl_nil (q_n (k335 _ _ ?_))
  refine sx_sub (Sub.cons (t := 1) rfl (.cons (t := 2) rfl (.cons (t := 4) rfl (.cons (t := 6) rfl (.cons (t := 7) rfl (.cons (t := 8) rfl (.cons (t := 10) rfl (.cons (t := 11) rfl (.cons (t := 14) rfl (.cons (t := 15) rfl (.cons (t := 98) rfl (.nil)))))))))))) ?_
  have h4170 : ¬ ((((1 : Int) + ↑((mk (1 : Int) (((rRest n1 z1 y1 m).1.2)).length)).length) + ↑((mk ((1 : Int) + ↑(((rRest n1 z1 y1 m).1.2)).length) (((rRest n1 z1 y1 m).2.1.2.1)).length)).length + ↑((mk (((1 : Int) + ↑(((rRest n1 z1 y1 m).1.2)).length) + ↑(((rRest n1 z1 y1 m).2.1.2.1)).length) (((rRest n1 z1 y1 m).2.1.2.2)).length)).length : Int) < 0) := by omega
  refine sx_condPF rfl h4170 ?_
  refine sx_skip ?_
  refine q_n (k334 _ _ ?_)
  refine sx_seq fun K336 k336 => ?_
  refine sx_seq fun K337 k337 => sx_region ?_
  refine sm rfl rfl rfl rfl ?_
  refine sm rfl rfl rfl rfl ?_
  refine sx_pure rfl rfl rfl (px_ne rfl rfl) ?_
  refine wl_nil (q_n (k337 _ _ ?_))
  have h4173 : ¬ ((((1 : Int) + ↑((mk (1 : Int) (((rRest n1 z1 y1 m).1.2)).length)).length) + ↑((mk ((1 : Int) + ↑(((rRest n1 z1 y1 m).1.2)).length) (((rRest n1 z1 y1 m).2.1.2.1)).length)).length + ↑((mk (((1 : Int) + ↑(((rRest n1 z1 y1 m).1.2)).length) + ↑(((rRest n1 z1 y1 m).2.1.2.1)).length) (((rRest n1 z1 y1 m).2.1.2.2)).length)).length : Int) ≠ ((1 : Int) + ↑(((rRest n1 z1 y1 m).1.2)).length) + ↑(((rRest n1 z1 y1 m).2.1.2.1)).length + ↑(((rRest n1 z1 y1 m).2.1.2.2)).length) := by simp [mk_length]
  refine sx_condPF rfl h4173 ?_
  refine sx_skip ?_
  refine q_n (k336 _ _ ?_)
  refine sx_seq fun K338 k338 => sx_region ?_
  have f339 := f150.ext d236
  have f340 := f339.ext c239
  have f341 := f340.ext c245
  have f342 := f341.chg c254 (by omega)
  have f343 := f342.ext c273
  have f344 := f343.ext c304
  have f345 := f344.chg c311 (by omega)
  have f346 := f345.chg c319 (by omega)
  have f347 := f346.ext c325
  have f348 := f347.ext c333
  refine sx_pure rfl rfl rfl (px_load rfl (f348.loadA (vs := [.bool n1, v1, d1]) (look_lit rfl) Try.isAgg40 Try.sizeOf40)) ?_
  have f349 := f237.ext c239
  have f350 := f349.ext c245
  have f351 := f350.chg c254 (by omega)
  have f352 := f351.ext c273
  have f353 := f352.ext c304
  have f354 := f353.chg c311 (by omega)
  have f355 := f354.chg c319 (by omega)
  have f356 := f355.ext c325
  have f357 := f356.ext c333
  have f358 := f238.ext c239
  have f359 := f358.ext c245
  have f360 := f359.chg c254 (by omega)
  have f361 := f360.ext c273
  have f362 := f361.ext c304
  have f363 := f362.chg c311 (by omega)
  have f364 := f363.chg c319 (by omega)
  have f365 := f364.ext c325
  have f366 := f365.ext c333
  refine sx_call rfl rfl Try.call19 (c_toRat f357 f366 (by omega) (by omega)) (fun v367 w367 p367 => ?_)
  obtain ⟨s367, t367, ls367, us367, lt367, ut367, rfl, os_367, ot_367, hd367, c367⟩ := p367
  have zw367 := c367.size
  refine sm rfl rfl rfl rfl ?_
  refine sx_call rfl rfl Try.call24 (c_iRatRest os_367.sv ot_367.sv (by omega)) (fun v368 w368 p368 => ?_)
  obtain ⟨s368, t368, u368, ls368, us368, lt368, ut368, lu368, uu368, rfl, os_368, ot_368, ou_368, hd368, hl368, c368⟩ := p368
  have zw368 := c368.size
  refine sm rfl rfl rfl rfl ?_
  refine sx_pure rfl rfl rfl (px_extract (vs := [.agg #[.bool ((rRest n1 z1 y1 m).1.1), s368], .agg #[.bool ((rRest n1 z1 y1 m).2.1.1), t368, u368], .bool ((rRest n1 z1 y1 m).2.2)]) rfl rfl) ?_
  refine sx_pure rfl rfl rfl (px_extract (vs := [.agg #[.bool ((rRest n1 z1 y1 m).1.1), s368], .agg #[.bool ((rRest n1 z1 y1 m).2.1.1), t368, u368], .bool ((rRest n1 z1 y1 m).2.2)]) rfl rfl) ?_
  refine sx_pure rfl rfl rfl (px_extract (vs := [.agg #[.bool ((rRest n1 z1 y1 m).1.1), s368], .agg #[.bool ((rRest n1 z1 y1 m).2.1.1), t368, u368], .bool ((rRest n1 z1 y1 m).2.2)]) rfl rfl) ?_
  refine sx_alloc [.bool false, (.slice none 0 0)] rfl Try.zeroValue28 rfl (fun b369 w370 eb369 sb369 fb369 cb369 => ?_)
  have zw370 := cb369.size
  refine sx_alloc [.bool false, (.slice none 0 0), (.slice none 0 0)] rfl Try.zeroValue44 rfl (fun b371 w372 eb371 sb371 fb371 cb371 => ?_)
  have zw372 := cb371.size
  have f374 := fb369.ext cb371
  have f375 := os_368.ext cb369
  have f376 := f375.ext cb371
  refine sx_store (vs := [.bool ((rRest n1 z1 y1 m).1.1), s368]) rfl rfl f374 rfl Try.sizeOf28 (Nat.le_of_ble_eq_true rfl) (one_cons rfl (one_cons f376.one one_nil)) (fun w373 sw373 fw373 cw373 => ?_)
  have zw373 := cw373.size
  have gw373 : Blk w373 b369 [.bool ((rRest n1 z1 y1 m).1.1), s368] 28 := fw373
  have f378 := fb371.chg cw373 (by omega)
  have f379 := ou_368.ext cb369
  have f380 := f379.ext cb371
  have f381 := f380.chg cw373 (by omega)
  have f382 := ot_368.ext cb369
  have f383 := f382.ext cb371
  have f384 := f383.chg cw373 (by omega)
  refine sx_store (vs := [.bool ((rRest n1 z1 y1 m).2.1.1), t368, u368]) rfl rfl f378 rfl Try.sizeOf44 (Nat.le_of_ble_eq_true rfl) (one_cons rfl (one_cons f384.one (one_cons f381.one one_nil))) (fun w377 sw377 fw377 cw377 => ?_)
  have zw377 := cw377.size
  have gw377 : Blk w377 b371 [.bool ((rRest n1 z1 y1 m).2.1.1), t368, u368] 44 := fw377
  refine sa rfl rfl rfl rfl ?_
  refine wl_nil (q_n (k338 _ _ ?_))
  refine sx_sub (Sub.cons (t := 4) rfl (.cons (t := 6) rfl (.cons (t := 7) rfl (.cons (t := 8) rfl (.cons (t := 10) rfl (.cons (t := 11) rfl (.cons (t := 14) rfl (.cons (t := 15) rfl (.cons (t := 16) rfl (.cons (t := 17) rfl (.cons (t := 18) rfl (.nil)))))))))))) ?_
  refine sx_seq fun K385 k385 => ?_
  refine sx_seq fun K386 k386 => sx_region ?_
  have f387 := gw373.chg cw377 (by omega)
  refine sx_pure rfl rfl rfl (px_load rfl (f387.loadA (vs := [.bool ((rRest n1 z1 y1 m).1.1), s368]) (look_lit rfl) Try.isAgg28 Try.sizeOf28)) ?_
  have f388 := f264.ext c273
  have f389 := f388.ext c304
  have f390 := f389.chg c311 (by omega)
  have f391 := f390.chg c319 (by omega)
  have f392 := f391.ext c325
  have f393 := f392.ext c333
  have f394 := f393.ext c367
  have f395 := f394.ext c368
  have f396 := f395.ext cb369
  have f397 := f396.ext cb371
  have f398 := f397.chg cw373 (by omega)
  have f399 := f398.chg cw377 (by omega)
  refine sx_pure rfl rfl rfl (px_load rfl (f399.loadA (vs := [.bool ((rRest n1 z1 y1 m).1.1), s17]) (look_lit rfl) Try.isAgg28 Try.sizeOf28)) ?_
  have f400 := f376.chg cw373 (by omega)
  have f401 := f400.chg cw377 (by omega)
  have f402 := f272.ext c273
  have f403 := f402.ext c304
  have f404 := f403.chg c311 (by omega)
  have f405 := f404.chg c319 (by omega)
  have f406 := f405.ext c325
  have f407 := f406.ext c333
  have f408 := f407.ext c367
  have f409 := f408.ext c368
  have f410 := f409.ext cb369
  have f411 := f410.ext cb371
  have f412 := f411.chg cw373 (by omega)
  have f413 := f412.chg cw377 (by omega)
  refine sx_call rfl rfl Try.call25 (c_eqSigned f401.sv f413.sv (by omega)) (fun v414 w414 p414 => ?_)
  obtain ⟨rfl, c414⟩ := p414
  have zw414 := c414.size
  refine sx_pure rfl rfl rfl (px_notP rfl) ?_
  refine sm rfl rfl rfl rfl ?_
  have h4177 : ¬ (¬ (((rRest n1 z1 y1 m).1.1) = ((rRest n1 z1 y1 m).1.1) ∧ ((rRest n1 z1 y1 m).1.2) = ((rRest n1 z1 y1 m).1.2))) := by simp [mk_length]
  refine sx_tmpPF (t := 114) rfl h4177 ?_
  refine sx_guardT rfl rfl rfl ?_
  have f415 := gw377.ext c414
  refine sx_pure rfl rfl rfl (px_load rfl (f415.loadA (vs := [.bool ((rRest n1 z1 y1 m).2.1.1), t368, u368]) (look_lit rfl) Try.isAgg44 Try.sizeOf44)) ?_
  refine sx_guardT rfl rfl rfl ?_
  have f416 := f283.ext c304
  have f417 := f416.chg c311 (by omega)
  have f418 := f417.chg c319 (by omega)
  have f419 := f418.ext c325
  have f420 := f419.ext c333
  have f421 := f420.ext c367
  have f422 := f421.ext c368
  have f423 := f422.ext cb369
  have f424 := f423.ext cb371
  have f425 := f424.chg cw373 (by omega)
  have f426 := f425.chg cw377 (by omega)
  have f427 := f426.ext c414
  refine sx_pure rfl rfl rfl (px_load rfl (f427.loadA (vs := [.bool ((rRest n1 z1 y1 m).2.1.1), t17, u17]) (look_lit rfl) Try.isAgg44 Try.sizeOf44)) ?_
  refine sx_guardT rfl rfl rfl ?_
  have f428 := f384.chg cw377 (by omega)
  have f429 := f428.ext c414
  have f430 := f381.chg cw377 (by omega)
  have f431 := f430.ext c414
  have f432 := f298.ext c304
  have f433 := f432.chg c311 (by omega)
  have f434 := f433.chg c319 (by omega)
  have f435 := f434.ext c325
  have f436 := f435.ext c333
  have f437 := f436.ext c367
  have f438 := f437.ext c368
  have f439 := f438.ext cb369
  have f440 := f439.ext cb371
  have f441 := f440.chg cw373 (by omega)
  have f442 := f441.chg cw377 (by omega)
  have f443 := f442.ext c414
  have f444 := f303.ext c304
  have f445 := f444.chg c311 (by omega)
  have f446 := f445.chg c319 (by omega)
  have f447 := f446.ext c325
  have f448 := f447.ext c333
  have f449 := f448.ext c367
  have f450 := f449.ext c368
  have f451 := f450.ext cb369
  have f452 := f451.ext cb371
  have f453 := f452.chg cw373 (by omega)
  have f454 := f453.chg cw377 (by omega)
  have f455 := f454.ext c414
  refine sx_call rfl rfl Try.call21 (c_eqRat f429.sv f431.sv f443.sv f455.sv (by omega)) (fun v456 w456 p456 => ?_)
  obtain ⟨rfl, c456⟩ := p456
  have zw456 := c456.size
  refine sx_guardT rfl rfl rfl ?_
  refine sx_pure rfl rfl rfl (px_notP rfl) ?_
  refine sx_pure rfl rfl rfl (px_pick rfl rfl) ?_
  refine sm rfl rfl rfl rfl ?_
  have h4177x1 : ¬ (¬ (((rRest n1 z1 y1 m).2.1.1) = ((rRest n1 z1 y1 m).2.1.1) ∧ ((rRest n1 z1 y1 m).2.1.2.1) = ((rRest n1 z1 y1 m).2.1.2.1) ∧ ((rRest n1 z1 y1 m).2.1.2.2) = ((rRest n1 z1 y1 m).2.1.2.2))) := by simp [mk_length]
  refine sx_tmpPF (t := 120) rfl h4177x1 ?_
  refine sx_guardT rfl rfl rfl ?_
  refine sm rfl rfl rfl rfl ?_
  refine sx_guardT rfl rfl rfl ?_
  refine sm rfl rfl rfl rfl ?_
  refine sx_guardT rfl rfl rfl ?_
  refine sx_pure rfl rfl rfl (px_neB Try.underlying4 rfl rfl) ?_
  refine sx_pure rfl rfl rfl (px_pick rfl rfl) ?_
  refine wl_nil (q_n (k386 _ _ ?_))
  refine sx_sub (Sub.cons (t := 4) rfl (.cons (t := 10) rfl (.cons (t := 11) rfl (.cons (t := 14) rfl (.cons (t := 15) rfl (.cons (t := 124) rfl (.nil))))))) ?_
  have h4177x2 : (((rRest n1 z1 y1 m).2.2) != ((rRest n1 z1 y1 m).2.2)) = false := by simp [mk_length]
  refine sx_condBF rfl h4177x2 ?_
  refine sx_skip ?_
  refine q_n (k385 _ _ ?_)
  refine sx_seq fun K457 k457 => sx_region ?_
  refine sa rfl rfl rfl rfl ?_
  refine wl_nil (q_n (k457 _ _ ?_))
  refine sx_seq fun K458 k458 => sx_region ?_
  have f459 := f323.ext c325
  have f460 := f459.ext c333
  have f461 := f460.ext c367
  have f462 := f461.ext c368
  have f463 := f462.ext cb369
  have f464 := f463.ext cb371
  have f465 := f464.chg cw373 (by omega)
  have f466 := f465.chg cw377 (by omega)
  have f467 := f466.ext c414
  have f468 := f467.ext c456
  refine sx_pure rfl rfl rfl (px_load rfl (f468.loadA (vs := [.bool ((rRest n1 z1 y1 m).1.1), s62]) (look_lit rfl) Try.isAgg28 Try.sizeOf28)) ?_
  refine sm rfl rfl rfl rfl ?_
  have f469 := f324.ext c325
  have f470 := f469.ext c333
  have f471 := f470.ext c367
  have f472 := f471.ext c368
  have f473 := f472.ext cb369
  have f474 := f473.ext cb371
  have f475 := f474.chg cw373 (by omega)
  have f476 := f475.chg cw377 (by omega)
  have f477 := f476.ext c414
  have f478 := f477.ext c456
  refine sx_call rfl rfl Try.call27 (c_heldSigned f478.sv (by first | omega | (simp only [mk_length]; omega)) (by omega) (by first | assumption | simp [mk_length])) (fun v479 w479 p479 => ?_)
  obtain ⟨rfl, c479⟩ := p479
  have zw479 := c479.size
  refine sa rfl rfl rfl rfl ?_
  refine wl_nil (q_n (k458 _ _ ?_))
  refine sx_seq fun K480 k480 => ?_
  refine sx_seq fun K481 k481 => sx_region ?_
  refine sm rfl rfl rfl rfl ?_
  refine sx_pure rfl rfl rfl (px_lt rfl rfl) ?_
  refine wl_nil (q_n (k481 _ _ ?_))
  have h4182 : ¬ (((1 : Int) + ↑((mk (1 : Int) (((rRest n1 z1 y1 m).1.2)).length)).length : Int) < 0) := by omega
  refine sx_condPF rfl h4182 ?_
  refine sx_skip ?_
  refine q_n (k480 _ _ ?_)
  refine sx_seq fun K482 k482 => sx_region ?_
  have f483 := f330.ext c333
  have f484 := f483.ext c367
  have f485 := f484.ext c368
  have f486 := f485.ext cb369
  have f487 := f486.ext cb371
  have f488 := f487.chg cw373 (by omega)
  have f489 := f488.chg cw377 (by omega)
  have f490 := f489.ext c414
  have f491 := f490.ext c456
  have f492 := f491.ext c479
  refine sx_pure rfl rfl rfl (px_load rfl (f492.loadA (vs := [.bool ((rRest n1 z1 y1 m).2.1.1), t62, u62]) (look_lit rfl) Try.isAgg44 Try.sizeOf44)) ?_
  refine sm rfl rfl rfl rfl ?_
  have f493 := f331.ext c333
  have f494 := f493.ext c367
  have f495 := f494.ext c368
  have f496 := f495.ext cb369
  have f497 := f496.ext cb371
  have f498 := f497.chg cw373 (by omega)
  have f499 := f498.chg cw377 (by omega)
  have f500 := f499.ext c414
  have f501 := f500.ext c456
  have f502 := f501.ext c479
  have f503 := f332.ext c333
  have f504 := f503.ext c367
  have f505 := f504.ext c368
  have f506 := f505.ext cb369
  have f507 := f506.ext cb371
  have f508 := f507.chg cw373 (by omega)
  have f509 := f508.chg cw377 (by omega)
  have f510 := f509.ext c414
  have f511 := f510.ext c456
  have f512 := f511.ext c479
  refine sx_call rfl rfl Try.call28 (c_heldRat f502.sv f512.sv (by first | omega | (simp only [mk_length]; omega)) (by first | omega | (simp only [mk_length]; omega)) (by simp [mk_length])) (fun v513 w513 p513 => ?_)
  obtain ⟨rfl, c513⟩ := p513
  have zw513 := c513.size
  refine sa rfl rfl rfl rfl ?_
  refine wl_nil (q_n (k482 _ _ ?_))
  refine sx_seq fun K514 k514 => ?_
  refine sx_seq fun K515 k515 => sx_region ?_
  refine sm rfl rfl rfl rfl ?_
  refine sx_pure rfl rfl rfl (px_lt rfl rfl) ?_
  refine wl_nil (q_n (k515 _ _ ?_))
  refine sx_sub (Sub.cons (t := 4) rfl (.cons (t := 14) rfl (.cons (t := 15) rfl (.cons (t := 134) rfl (.nil))))) ?_
  have h4186 : ¬ ((((1 : Int) + ↑((mk (1 : Int) (((rRest n1 z1 y1 m).1.2)).length)).length) + ↑((mk ((1 : Int) + ↑(((rRest n1 z1 y1 m).1.2)).length) (((rRest n1 z1 y1 m).2.1.2.1)).length)).length + ↑((mk (((1 : Int) + ↑(((rRest n1 z1 y1 m).1.2)).length) + ↑(((rRest n1 z1 y1 m).2.1.2.1)).length) (((rRest n1 z1 y1 m).2.1.2.2)).length)).length : Int) < 0) := by omega
  refine sx_condPF rfl h4186 ?_
  refine sx_skip ?_
  refine q_n (k514 _ _ ?_)
  refine sx_seq fun K516 k516 => ?_
  refine sx_seq fun K517 k517 => sx_region ?_
  refine sm rfl rfl rfl rfl ?_
  refine sm rfl rfl rfl rfl ?_
  refine sx_pure rfl rfl rfl (px_ne rfl rfl) ?_
  refine wl_nil (q_n (k517 _ _ ?_))
  have h4189 : ¬ ((((1 : Int) + ↑((mk (1 : Int) (((rRest n1 z1 y1 m).1.2)).length)).length) + ↑((mk ((1 : Int) + ↑(((rRest n1 z1 y1 m).1.2)).length) (((rRest n1 z1 y1 m).2.1.2.1)).length)).length + ↑((mk (((1 : Int) + ↑(((rRest n1 z1 y1 m).1.2)).length) + ↑(((rRest n1 z1 y1 m).2.1.2.1)).length) (((rRest n1 z1 y1 m).2.1.2.2)).length)).length : Int) ≠ ((1 : Int) + ↑(((rRest n1 z1 y1 m).1.2)).length) + ↑(((rRest n1 z1 y1 m).2.1.2.1)).length + ↑(((rRest n1 z1 y1 m).2.1.2.2)).length) := by simp [mk_length]
  refine sx_condPF rfl h4189 ?_
  refine sx_skip ?_
  refine q_n (k516 _ _ ?_)
  refine sx_seq fun K518 k518 => sx_region ?_
  refine sa rfl rfl rfl rfl ?_
  refine wl_nil (q_n (k518 _ _ ?_))
  refine sx_retc ?_
  refine sx_ret1 Try.results6 rfl ?_
  have q519 := Chg.step (l := 0) (h := 0) (Chg.zero (l := 0) (h := 0) (((((cb2.t c8).t c16).t c17).t cb18).t cb20)) cw22 (by omega)
  have q520 := Chg.step (l := 0) (h := 0) q519 cw26 (by omega)
  have q521 := Chg.step (l := 0) (h := 0) q520 (c53.t cb54) (by omega)
  have q522 := Chg.step (l := 0) (h := 0) q521 cw56 (by omega)
  have q523 := Chg.step (l := 0) (h := 0) q522 ((c62.t cb63).t cb65) (by omega)
  have q524 := Chg.step (l := 0) (h := 0) q523 cw67 (by omega)
  have q525 := Chg.step (l := 0) (h := 0) q524 cw71 (by omega)
  have q526 := Chg.step (l := 0) (h := 0) q525 ((((c103.t c138).t d236).t c239).t c245) (by omega)
  have q527 := Chg.step (l := 0) (h := 0) q526 c254 (by omega)
  have q528 := Chg.step (l := 0) (h := 0) q527 (c273.t c304) (by omega)
  have q529 := Chg.step (l := 0) (h := 0) q528 c311 (by omega)
  have q530 := Chg.step (l := 0) (h := 0) q529 c319 (by omega)
  have q531 := Chg.step (l := 0) (h := 0) q530 (((((c325.t c333).t c367).t c368).t cb369).t cb371) (by omega)
  have q532 := Chg.step (l := 0) (h := 0) q531 cw373 (by omega)
  have q533 := Chg.step (l := 0) (h := 0) q532 cw377 (by omega)
  have q534 := Chg.step (l := 0) (h := 0) q533 (((c414.t c456).t c479).t c513) (by omega)
  exact ⟨rfl, q534⟩

end Go.Proofs.Ytfoceofnldnbgaa
