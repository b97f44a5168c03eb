/- Contracts of functions of the program: what each call returns, and that it changes nothing that was. Conditions: as each says. -/
import Derived.Test.YtomfgkfpihemlaaDoorTy
import Derived.Test.YtomfgkfpihemlaaDoorNatE
import Derived.Test.YtomfgkfpihemlaaDoorK0
import Derived.Test.YtomfgkfpihemlaaDoorK2
set_option linter.unusedVariables false
set_option linter.unusedSimpArgs false
namespace Go.Proofs.YtomfgkfpihemlaaDoor
open Go Go.RowKit
set_option maxRecDepth 100000
theorem law_MoneyCmp {w : World} {c1 : ByteArray} {n1 : Bool} {v1 : Value} {lv1 uv1 : Nat} {z1 : List Int} {c2 : ByteArray} {n2 : Bool} {v2 : Value} {lv2 uv2 : Nat} {z2 : List Int} (hG0 : Glob w) (hv1 : Sl w lv1 uv1 v1 (z1)) (hv2 : Sl w lv2 uv2 v2 (z2)) (bc1 : c1.size ≤ 9223372036854775807) (bz1 : z1.length ≤ 9223372036854775807) (bc2 : c2.size ≤ 9223372036854775807) (bz2 : z2.length ≤ 9223372036854775807) :
  Ret Tryd.prog 8 [.agg #[.string c1, .bool n1, v1], .agg #[.string c2, .bool n2, v2]] w fun v w' => v = .bool (true) ∧ Chg 0 0 w w' := by
 have hv10 := hv1.fit
 have hv20 := hv2.fit
 have hG0l : 0 < w.heap.size := by obtain ⟨T, fz, h1⟩ := hG0; rcases Nat.lt_or_ge 0 w.heap.size with h2 | h2; exact h2; simp [Array.getElem?_eq_none h2] at h1
 refine sx_enter Tryd.func8 rfl Tryd.ntmps8 (Nat.le_of_ble_eq_true rfl) ?_
 refine sx_seq fun K1 k1 => sx_region ?_
 refine sx_box [.string c1, .bool n1, v1] rfl rfl rfl (fun b2 w3 eb2 sb2 fb2 cb2 => ?_)
 have zw3 := cb2.size
 refine sx_box [.string c2, .bool n2, v2] rfl rfl rfl (fun b4 w5 eb4 sb4 fb4 cb4 => ?_)
 have zw5 := cb4.size
 refine sa rfl rfl rfl rfl ?_
 refine wl_nil (q_n (k1 _ _ ?_))
 refine sx_seq fun K6 k6 => sx_region ?_
 refine sa rfl rfl rfl rfl ?_
 refine wl_nil (q_n (k6 _ _ ?_))
 refine sx_seq fun K7 k7 => sx_region ?_
 have f8 := fb2.ext cb4
 refine sx_pure rfl rfl rfl (px_load rfl (f8.loadA (vs := [.string c1, .bool n1, v1]) (look_lit rfl) Tryd.isAgg26 Tryd.sizeOf26)) ?_
 refine sm rfl rfl rfl rfl ?_
 have f9 := hv10.ext cb2
 have f10 := f9.ext cb4
 refine sx_call rfl rfl Tryd.call15 (c_szMoney f10 (by omega) (by omega) (by omega)) (fun v11 w11 p11 => ?_)
 obtain ⟨r11, rfl, hr11, c11⟩ := p11
 have zw11 := c11.size
 refine sa rfl rfl rfl rfl ?_
 refine wl_nil (q_n (k7 _ _ ?_))
 refine sx_seq fun K12 k12 => ?_
 refine sx_seq fun K13 k13 => sx_region ?_
 refine sm rfl rfl rfl rfl ?_
 refine sx_pure rfl rfl rfl (px_lt rfl rfl) ?_
 refine wl_nil (q_n (k13 _ _ ?_))
 refine sx_condP rfl (fun h5191 => ?_) (fun h5191 => ?_)
 ·
  refine sx_seq fun K14 k14 => sx_region ?_
  refine sa rfl rfl rfl rfl ?_
  refine wl_nil (q_n (k14 _ _ ?_))
  refine sx_retc ?_
  refine q_r (sx_ret1 Tryd.results8 rfl ?_)
  exact ⟨rfl, ((cb2.t cb4).t c11)⟩
 ·
  refine sx_skip ?_
  refine q_n (k12 _ _ ?_)
  refine sx_seq fun K15 k15 => sx_region ?_
  have f16 := fb4.ext c11
  refine sx_pure rfl rfl rfl (px_load rfl (f16.loadA (vs := [.string c2, .bool n2, v2]) (look_lit rfl) Tryd.isAgg26 Tryd.sizeOf26)) ?_
  refine sm rfl rfl rfl rfl ?_
  have f17 := hv20.ext cb2
  have f18 := f17.ext cb4
  have f19 := f18.ext c11
  refine sx_call rfl rfl Tryd.call15 (c_szMoney f19 (by omega) (by omega) (by omega)) (fun v20 w20 p20 => ?_)
  obtain ⟨r20, rfl, hr20, c20⟩ := p20
  have zw20 := c20.size
  refine sa rfl rfl rfl rfl ?_
  refine wl_nil (q_n (k15 _ _ ?_))
  refine sx_seq fun K21 k21 => ?_
  refine sx_seq fun K22 k22 => sx_region ?_
  refine sm rfl rfl rfl rfl ?_
  refine sx_pure rfl rfl rfl (px_lt rfl rfl) ?_
  refine wl_nil (q_n (k22 _ _ ?_))
  refine sx_sub (Sub.cons (t := 2) rfl (.cons (t := 3) rfl (.cons (t := 4) rfl (.cons (t := 21) rfl (.nil))))) ?_
  refine sx_condP rfl (fun h5195 => ?_) (fun h5195 => ?_)
  ·
   refine sx_seq fun K23 k23 => sx_region ?_
   refine sa rfl rfl rfl rfl ?_
   refine wl_nil (q_n (k23 _ _ ?_))
   refine sx_retc ?_
   refine q_r (sx_ret1 Tryd.results8 rfl ?_)
   exact ⟨rfl, (((cb2.t cb4).t c11).t c20)⟩
  ·
   refine sx_skip ?_
   refine q_n (k21 _ _ ?_)
   refine sx_seq fun K24 k24 => ?_
   have f25 := hG0.ext cb2
   have f26 := f25.ext cb4
   have f27 := f26.ext c11
   have f28 := f27.ext c20
   have f29 := f8.ext c11
   have f30 := f29.ext c20
   have f31 := f16.ext c20
   have f32 := f10.ext c11
   have f33 := f32.ext c20
   have f34 := f19.ext c20
   refine dx_region (fun w' => Chg 0 0 w20 w') (by kernel_rfl) (Chg.zero (Chg.drew _)) ?_
   have d35 := Chg.drew w20
   have s35 : Chg 0 0 w20 (World.drew w20) := Chg.zero (Chg.drew _)
   have y35 : (World.drew w20).heap.size = w20.heap.size := rfl
   generalize World.drew w20 = w35 at *
   have zw35 := d35.size
   refine dx_take 0 rfl rfl rfl rfl (by kernel_rfl) (by kernel_rfl) (by kernel_rfl) s35 (fun _ hS => px_load rfl ((f30.chg hS (by omega)).loadA (vs := [.string c1, .bool n1, v1]) (look_lit rfl) Tryd.isAgg26 Tryd.sizeOf26)) ?_
   refine dx_take 2 rfl rfl rfl rfl (by kernel_rfl) (by kernel_rfl) (by kernel_rfl) s35 (fun _ hS => px_load rfl ((f31.chg hS (by omega)).loadA (vs := [.string c2, .bool n2, v2]) (look_lit rfl) Tryd.isAgg26 Tryd.sizeOf26)) ?_
   refine dx_eff 1 rfl (by kernel_rfl) ?_
   have f36 := f33.ext d35
   refine sx_call rfl rfl Tryd.call17 (c_toMoney f36 (by omega)) (fun v37 w37 p37 => ?_)
   obtain ⟨s237, rfl, os2_37, c37⟩ := p37
   have zw37 := c37.size
   have s38 : Chg 0 0 w20 w37 := (d35.t c37)
   refine wl_nil ?_
   refine dx_next s38 ?_
   refine dx_eff 3 rfl (by kernel_rfl) ?_
   have f39 := f34.ext d35
   have f40 := f39.ext c37
   refine sx_call rfl rfl Tryd.call17 (c_toMoney f40 (by omega)) (fun v41 w41 p41 => ?_)
   obtain ⟨s241, rfl, os2_41, c41⟩ := p41
   have zw41 := c41.size
   have s42 : Chg 0 0 w20 w41 := ((d35.t c37).t c41)
   refine wl_nil ?_
   refine dx_next s42 ?_
   refine dx_eff 4 rfl (by kernel_rfl) ?_
   have f43 := os2_37.ext c41
   refine sx_call rfl rfl Tryd.call36 (c_sMoneyCmp f43.sv os2_41.sv (by omega)) (fun v44 w44 p44 => ?_)
   obtain ⟨rfl, c44⟩ := p44
   have zw44 := c44.size
   have s45 : Chg 0 0 w20 w44 := (((d35.t c37).t c41).t c44)
   refine wl_nil ?_
   refine dx_next s45 ?_
   refine dx_take 5 rfl rfl rfl rfl (by kernel_rfl) (by kernel_rfl) (by kernel_rfl) s45 (fun _ hS => px_move rfl) ?_
   refine dx_take 6 rfl rfl rfl rfl (by kernel_rfl) (by kernel_rfl) (by kernel_rfl) s45 (fun _ hS => px_extract (vs := [.int .i64 ((mCmp c1 n1 z1 c2 n2 z2).1), .bool ((mCmp c1 n1 z1 c2 n2 z2).2)]) rfl rfl) ?_
   refine dx_take 7 rfl rfl rfl rfl (by kernel_rfl) (by kernel_rfl) (by kernel_rfl) s45 (fun _ hS => px_extract (vs := [.int .i64 ((mCmp c1 n1 z1 c2 n2 z2).1), .bool ((mCmp c1 n1 z1 c2 n2 z2).2)]) rfl rfl) ?_
   refine dx_take 8 rfl rfl rfl rfl (by kernel_rfl) (by kernel_rfl) (by kernel_rfl) s45 (fun _ hS => px_assign rfl) ?_
   refine dx_take 9 rfl rfl rfl rfl (by kernel_rfl) (by kernel_rfl) (by kernel_rfl) s45 (fun _ hS => px_assign rfl) ?_
   refine dx_done (by kernel_rfl) ?_
   refine q_n (k24 _ _ ?_)
   refine sx_seq fun K46 k46 => sx_region ?_
   have f47 := f30.ext d35
   have f48 := f47.ext c37
   have f49 := f48.ext c41
   have f50 := f49.ext c44
   refine sx_pure rfl rfl rfl (px_load rfl (f50.loadA (vs := [.string c1, .bool n1, v1]) (look_lit rfl) Tryd.isAgg26 Tryd.sizeOf26)) ?_
   have f51 := f36.ext c37
   have f52 := f51.ext c41
   have f53 := f52.ext c44
   refine sx_call rfl rfl Tryd.call17 (c_toMoney f53 (by omega)) (fun v54 w54 p54 => ?_)
   obtain ⟨s254, rfl, os2_54, c54⟩ := p54
   have zw54 := c54.size
   refine sx_alloc [.string (⟨#[]⟩), .bool false, (.slice none 0 0)] rfl Tryd.zeroValue31 rfl (fun b55 w56 eb55 sb55 fb55 cb55 => ?_)
   have zw56 := cb55.size
   have f58 := os2_54.ext cb55
   refine sx_store (vs := [.string c1, .bool n1, s254]) rfl rfl fb55 rfl Tryd.sizeOf31 (Nat.le_of_ble_eq_true rfl) (one_cons rfl (one_cons rfl (one_cons f58.one one_nil))) (fun w57 sw57 fw57 cw57 => ?_)
   have zw57 := cw57.size
   have gw57 : Blk w57 b55 [.string c1, .bool n1, s254] 31 := fw57
   refine wl_nil (q_n (k46 _ _ ?_))
   refine sx_sub (Sub.cons (t := 2) rfl (.cons (t := 3) rfl (.cons (t := 4) rfl (.cons (t := 6) rfl (.cons (t := 7) rfl (.cons (t := 8) rfl (.nil))))))) ?_
   refine sx_seq fun K59 k59 => sx_region ?_
   have f60 := f31.ext d35
   have f61 := f60.ext c37
   have f62 := f61.ext c41
   have f63 := f62.ext c44
   have f64 := f63.ext c54
   have f65 := f64.ext cb55
   have f66 := f65.chg cw57 (by omega)
   refine sx_pure rfl rfl rfl (px_load rfl (f66.loadA (vs := [.string c2, .bool n2, v2]) (look_lit rfl) Tryd.isAgg26 Tryd.sizeOf26)) ?_
   have f67 := f40.ext c41
   have f68 := f67.ext c44
   have f69 := f68.ext c54
   have f70 := f69.ext cb55
   have f71 := f70.chg cw57 (by omega)
   refine sx_call rfl rfl Tryd.call17 (c_toMoney f71 (by omega)) (fun v72 w72 p72 => ?_)
   obtain ⟨s272, rfl, os2_72, c72⟩ := p72
   have zw72 := c72.size
   refine sx_alloc [.string (⟨#[]⟩), .bool false, (.slice none 0 0)] rfl Tryd.zeroValue31 rfl (fun b73 w74 eb73 sb73 fb73 cb73 => ?_)
   have zw74 := cb73.size
   have f76 := os2_72.ext cb73
   refine sx_store (vs := [.string c2, .bool n2, s272]) rfl rfl fb73 rfl Tryd.sizeOf31 (Nat.le_of_ble_eq_true rfl) (one_cons rfl (one_cons rfl (one_cons f76.one one_nil))) (fun w75 sw75 fw75 cw75 => ?_)
   have zw75 := cw75.size
   have gw75 : Blk w75 b73 [.string c2, .bool n2, s272] 31 := fw75
   refine wl_nil (q_n (k59 _ _ ?_))
   refine sx_seq fun K77 k77 => sx_region ?_
   have f78 := gw57.ext c72
   have f79 := f78.ext cb73
   have f80 := f79.chg cw75 (by omega)
   refine sx_pure rfl rfl rfl (px_load rfl (f80.loadA (vs := [.string c1, .bool n1, s254]) (look_lit rfl) Tryd.isAgg31 Tryd.sizeOf31)) ?_
   refine sx_pure rfl rfl rfl (px_load rfl (gw75.loadA (vs := [.string c2, .bool n2, s272]) (look_lit rfl) Tryd.isAgg31 Tryd.sizeOf31)) ?_
   have f81 := f28.ext d35
   have f82 := f81.ext c37
   have f83 := f82.ext c41
   have f84 := f83.ext c44
   have f85 := f84.ext c54
   have f86 := f85.ext cb55
   have f87 := f86.chg cw57 (by omega)
   have f88 := f87.ext c72
   have f89 := f88.ext cb73
   have f90 := f89.chg cw75 (by omega)
   have f91 := f58.chg cw57 (by omega)
   have f92 := f91.ext c72
   have f93 := f92.ext cb73
   have f94 := f93.chg cw75 (by omega)
   have f95 := f76.chg cw75 (by omega)
   refine sx_call rfl rfl Tryd.call37 (c_iMoneyCmp f90 f94.sv f95.sv (by omega)) (fun v96 w96 p96 => ?_)
   obtain ⟨rfl, c96⟩ := p96
   have zw96 := c96.size
   refine sm rfl rfl rfl rfl ?_
   refine sx_pure rfl rfl rfl (px_extract (vs := [.int .i64 ((mCmp c1 n1 z1 c2 n2 z2).1), .bool ((mCmp c1 n1 z1 c2 n2 z2).2)]) rfl rfl) ?_
   refine sx_pure rfl rfl rfl (px_extract (vs := [.int .i64 ((mCmp c1 n1 z1 c2 n2 z2).1), .bool ((mCmp c1 n1 z1 c2 n2 z2).2)]) rfl rfl) ?_
   refine sa rfl rfl rfl rfl ?_
   refine sa rfl rfl rfl rfl ?_
   refine wl_nil (q_n (k77 _ _ ?_))
   refine sx_sub (Sub.cons (t := 2) rfl (.cons (t := 3) rfl (.cons (t := 4) rfl (.cons (t := 6) rfl (.cons (t := 7) rfl (.cons (t := 8) rfl (.cons (t := 9) rfl (.cons (t := 10) rfl (.cons (t := 11) rfl (.nil)))))))))) ?_
   refine sx_seq fun K97 k97 => ?_
   refine sx_seq fun K98 k98 => sx_region ?_
   refine sm rfl rfl rfl rfl ?_
   refine sm rfl rfl rfl rfl ?_
   refine sx_pure rfl rfl rfl (px_ne rfl rfl) ?_
   refine sm rfl rfl rfl rfl ?_
   have h5202 : ¬ (((mCmp c1 n1 z1 c2 n2 z2).1 : Int) ≠ (mCmp c1 n1 z1 c2 n2 z2).1) := by simp [mk_length]
   refine sx_tmpPF (t := 43) rfl h5202 ?_
   refine sx_guardT rfl rfl rfl ?_
   refine sm rfl rfl rfl rfl ?_
   refine sx_guardT rfl rfl rfl ?_
   refine sm rfl rfl rfl rfl ?_
   refine sx_guardT rfl rfl rfl ?_
   refine sx_pure rfl rfl rfl (px_neB Tryd.underlying4 rfl rfl) ?_
   refine sx_pure rfl rfl rfl (px_pick rfl rfl) ?_
   refine wl_nil (q_n (k98 _ _ ?_))
   refine sx_sub (Sub.cons (t := 2) rfl (.cons (t := 3) rfl (.cons (t := 4) rfl (.cons (t := 8) rfl (.cons (t := 9) rfl (.cons (t := 47) rfl (.nil))))))) ?_
   have h5202x1 : (((mCmp c1 n1 z1 c2 n2 z2).2) != ((mCmp c1 n1 z1 c2 n2 z2).2)) = false := by simp [mk_length]
   refine sx_condBF rfl h5202x1 ?_
   refine sx_skip ?_
   refine q_n (k97 _ _ ?_)
   refine sx_seq fun K99 k99 => ?_
   refine sx_seq fun K100 k100 => ?_
   have f101 := f90.ext c96
   have f102 := f50.ext c54
   have f103 := f102.ext cb55
   have f104 := f103.chg cw57 (by omega)
   have f105 := f104.ext c72
   have f106 := f105.ext cb73
   have f107 := f106.chg cw75 (by omega)
   have f108 := f107.ext c96
   have f109 := f66.ext c72
   have f110 := f109.ext cb73
   have f111 := f110.chg cw75 (by omega)
   have f112 := f111.ext c96
   have f113 := f80.ext c96
   have f114 := gw75.ext c96
   have f115 := f53.ext c54
   have f116 := f115.ext cb55
   have f117 := f116.chg cw57 (by omega)
   have f118 := f117.ext c72
   have f119 := f118.ext cb73
   have f120 := f119.chg cw75 (by omega)
   have f121 := f120.ext c96
   have f122 := f71.ext c72
   have f123 := f122.ext cb73
   have f124 := f123.chg cw75 (by omega)
   have f125 := f124.ext c96
   have f126 := f43.ext c44
   have f127 := f126.ext c54
   have f128 := f127.ext cb55
   have f129 := f128.chg cw57 (by omega)
   have f130 := f129.ext c72
   have f131 := f130.ext cb73
   have f132 := f131.chg cw75 (by omega)
   have f133 := f132.ext c96
   have f134 := os2_41.ext c44
   have f135 := f134.ext c54
   have f136 := f135.ext cb55
   have f137 := f136.chg cw57 (by omega)
   have f138 := f137.ext c72
   have f139 := f138.ext cb73
   have f140 := f139.chg cw75 (by omega)
   have f141 := f140.ext c96
   have f142 := f94.ext c96
   have f143 := f95.ext c96
   refine dx_region (fun w' => Chg 0 0 w96 w') (by kernel_rfl) (Chg.zero (Chg.drew _)) ?_
   have d144 := Chg.drew w96
   have s144 : Chg 0 0 w96 (World.drew w96) := Chg.zero (Chg.drew _)
   have y144 : (World.drew w96).heap.size = w96.heap.size := rfl
   generalize World.drew w96 = w144 at *
   have zw144 := d144.size
   refine dx_take 0 rfl rfl rfl rfl (by kernel_rfl) (by kernel_rfl) (by kernel_rfl) s144 (fun _ hS => px_load rfl ((f113.chg hS (by omega)).loadA (vs := [.string c1, .bool n1, s254]) (look_lit rfl) Tryd.isAgg31 Tryd.sizeOf31)) ?_
   refine dx_take 1 rfl rfl rfl rfl (by kernel_rfl) (by kernel_rfl) (by kernel_rfl) s144 (fun _ hS => px_load rfl ((f108.chg hS (by omega)).loadA (vs := [.string c1, .bool n1, v1]) (look_lit rfl) Tryd.isAgg26 Tryd.sizeOf26)) ?_
   refine dx_eff 2 rfl (by kernel_rfl) ?_
   have f145 := f121.ext d144
   refine sx_call rfl rfl Tryd.call17 (c_toMoney f145 (by omega)) (fun v146 w146 p146 => ?_)
   obtain ⟨s2146, rfl, os2_146, c146⟩ := p146
   have zw146 := c146.size
   have s147 : Chg 0 0 w96 w146 := (d144.t c146)
   refine wl_nil ?_
   refine dx_next s147 ?_
   refine dx_eff 3 rfl (by kernel_rfl) ?_
   have f148 := f142.ext d144
   have f149 := f148.ext c146
   refine sx_call rfl rfl Tryd.call19 (c_eqMoney f149.sv os2_146.sv (by omega)) (fun v150 w150 p150 => ?_)
   obtain ⟨rfl, c150⟩ := p150
   have zw150 := c150.size
   have s151 : Chg 0 0 w96 w150 := ((d144.t c146).t c150)
   refine wl_nil ?_
   refine dx_next s151 ?_
   refine dx_take 4 rfl rfl rfl rfl (by kernel_rfl) (by kernel_rfl) (by kernel_rfl) s151 (fun _ hS => px_notP rfl) ?_
   refine dx_done (by kernel_rfl) ?_
   refine q_n (k100 _ _ ?_)
   have h5205 : ¬ (¬ (c1 = c1 ∧ n1 = n1 ∧ z1 = z1)) := by simp [mk_length]
   refine sx_condPF rfl h5205 ?_
   refine sx_skip ?_
   refine q_n (k99 _ _ ?_)
   refine sx_seq fun K152 k152 => ?_
   refine sx_seq fun K153 k153 => ?_
   have f154 := f101.ext d144
   have f155 := f154.ext c146
   have f156 := f155.ext c150
   have f157 := f108.ext d144
   have f158 := f157.ext c146
   have f159 := f158.ext c150
   have f160 := f112.ext d144
   have f161 := f160.ext c146
   have f162 := f161.ext c150
   have f163 := f113.ext d144
   have f164 := f163.ext c146
   have f165 := f164.ext c150
   have f166 := f114.ext d144
   have f167 := f166.ext c146
   have f168 := f167.ext c150
   have f169 := f145.ext c146
   have f170 := f169.ext c150
   have f171 := f125.ext d144
   have f172 := f171.ext c146
   have f173 := f172.ext c150
   have f174 := f133.ext d144
   have f175 := f174.ext c146
   have f176 := f175.ext c150
   have f177 := f141.ext d144
   have f178 := f177.ext c146
   have f179 := f178.ext c150
   have f180 := f149.ext c150
   have f181 := f143.ext d144
   have f182 := f181.ext c146
   have f183 := f182.ext c150
   have f184 := os2_146.ext c150
   refine dx_region (fun w' => Chg 0 0 w150 w') (by kernel_rfl) (Chg.zero (Chg.drew _)) ?_
   have d185 := Chg.drew w150
   have s185 : Chg 0 0 w150 (World.drew w150) := Chg.zero (Chg.drew _)
   have y185 : (World.drew w150).heap.size = w150.heap.size := rfl
   generalize World.drew w150 = w185 at *
   have zw185 := d185.size
   refine dx_take 0 rfl rfl rfl rfl (by kernel_rfl) (by kernel_rfl) (by kernel_rfl) s185 (fun _ hS => px_load rfl ((f168.chg hS (by omega)).loadA (vs := [.string c2, .bool n2, s272]) (look_lit rfl) Tryd.isAgg31 Tryd.sizeOf31)) ?_
   refine dx_take 1 rfl rfl rfl rfl (by kernel_rfl) (by kernel_rfl) (by kernel_rfl) s185 (fun _ hS => px_load rfl ((f162.chg hS (by omega)).loadA (vs := [.string c2, .bool n2, v2]) (look_lit rfl) Tryd.isAgg26 Tryd.sizeOf26)) ?_
   refine dx_eff 2 rfl (by kernel_rfl) ?_
   have f186 := f173.ext d185
   refine sx_call rfl rfl Tryd.call17 (c_toMoney f186 (by omega)) (fun v187 w187 p187 => ?_)
   obtain ⟨s2187, rfl, os2_187, c187⟩ := p187
   have zw187 := c187.size
   have s188 : Chg 0 0 w150 w187 := (d185.t c187)
   refine wl_nil ?_
   refine dx_next s188 ?_
   refine dx_eff 3 rfl (by kernel_rfl) ?_
   have f189 := f183.ext d185
   have f190 := f189.ext c187
   refine sx_call rfl rfl Tryd.call19 (c_eqMoney f190.sv os2_187.sv (by omega)) (fun v191 w191 p191 => ?_)
   obtain ⟨rfl, c191⟩ := p191
   have zw191 := c191.size
   have s192 : Chg 0 0 w150 w191 := ((d185.t c187).t c191)
   refine wl_nil ?_
   refine dx_next s192 ?_
   refine dx_take 4 rfl rfl rfl rfl (by kernel_rfl) (by kernel_rfl) (by kernel_rfl) s192 (fun _ hS => px_notP rfl) ?_
   refine dx_done (by kernel_rfl) ?_
   refine q_n (k153 _ _ ?_)
   refine sx_sub (Sub.cons (t := 4) rfl (.cons (t := 57) rfl (.nil))) ?_
   have h5208 : ¬ (¬ (c2 = c2 ∧ n2 = n2 ∧ z2 = z2)) := by simp [mk_length]
   refine sx_condPF rfl h5208 ?_
   refine sx_skip ?_
   refine q_n (k152 _ _ ?_)
   refine sx_seq fun K193 k193 => sx_region ?_
   refine sa rfl rfl rfl rfl ?_
   refine wl_nil (q_n (k193 _ _ ?_))
   refine sx_retc ?_
   refine sx_ret1 Tryd.results8 rfl ?_
   have q194 := Chg.step (l := 0) (h := 0) (Chg.zero (l := 0) (h := 0) (((((((((cb2.t cb4).t c11).t c20).t d35).t c37).t c41).t c44).t c54).t cb55)) cw57 (by omega)
   have q195 := Chg.step (l := 0) (h := 0) q194 (c72.t cb73) (by omega)
   have q196 := Chg.step (l := 0) (h := 0) q195 cw75 (by omega)
   have q197 := Chg.step (l := 0) (h := 0) q196 ((((((c96.t d144).t c146).t c150).t d185).t c187).t c191) (by omega)
   exact ⟨rfl, q197⟩

end Go.Proofs.YtomfgkfpihemlaaDoor
