/- Contracts of functions of the program: what each call returns, and that it changes nothing that was. Conditions: as each says. -/
import Derived.Test.YteiifmkclokgnaaTy
import Derived.Test.YteiifmkclokgnaaNatE
import Derived.Test.YteiifmkclokgnaaK0
import Derived.Test.YteiifmkclokgnaaK1
import Derived.Test.YteiifmkclokgnaaK2
set_option linter.unusedVariables false
set_option linter.unusedSimpArgs false
namespace Go.Proofs.Yteiifmkclokgnaa
open Go Go.RowKit
set_option maxRecDepth 100000
theorem law_DecCmp {w : World} {n1 : Bool} {v1 : Value} {lv1 uv1 : Nat} {z1 : List Int} {p1 : Int} {n2 : Bool} {v2 : Value} {lv2 uv2 : Nat} {z2 : List Int} {p2 : Int} (hv1 : Sl w lv1 uv1 v1 (z1)) (hv2 : Sl w lv2 uv2 v2 (z2)) (bz1 : z1.length ≤ 9223372036854775807) (bz2 : z2.length ≤ 9223372036854775807) :
  Ret Try.prog 6 [.agg #[.bool n1, v1, .int .i64 p1], .agg #[.bool n2, v2, .int .i64 p2]] w fun v w' => v = .bool (true) ∧ Chg 0 0 w w' := by
 have hv10 := hv1.fit
 have hv20 := hv2.fit
 refine sx_enter Try.func6 rfl Try.ntmps6 (Nat.le_of_ble_eq_true rfl) ?_
 refine sx_seq fun K1 k1 => sx_region ?_
 refine sx_box [.bool n1, v1, .int .i64 p1] rfl rfl rfl (fun b2 w3 eb2 sb2 fb2 cb2 => ?_)
 have zw3 := cb2.size
 refine sx_box [.bool n2, v2, .int .i64 p2] rfl rfl rfl (fun b4 w5 eb4 sb4 fb4 cb4 => ?_)
 have zw5 := cb4.size
 refine sa rfl rfl rfl rfl ?_
 refine wl_nil (q_n (k1 _ _ ?_))
 refine sx_seq fun K6 k6 => sx_region ?_
 refine sa rfl rfl rfl rfl ?_
 refine wl_nil (q_n (k6 _ _ ?_))
 refine sx_seq fun K7 k7 => sx_region ?_
 have f8 := fb2.ext cb4
 refine sx_pure rfl rfl rfl (px_load rfl (f8.loadA (vs := [.bool n1, v1, .int .i64 p1]) (look_lit rfl) Try.isAgg26 Try.sizeOf26)) ?_
 refine sm rfl rfl rfl rfl ?_
 have f9 := hv10.ext cb2
 have f10 := f9.ext cb4
 refine sx_call rfl rfl Try.call15 (c_szDec f10 (by omega) (by omega)) (fun v11 w11 p11 => ?_)
 obtain ⟨r11, rfl, hr11, c11⟩ := p11
 have zw11 := c11.size
 refine sa rfl rfl rfl rfl ?_
 refine wl_nil (q_n (k7 _ _ ?_))
 refine sx_seq fun K12 k12 => ?_
 refine sx_seq fun K13 k13 => sx_region ?_
 refine sm rfl rfl rfl rfl ?_
 refine sx_pure rfl rfl rfl (px_lt rfl rfl) ?_
 refine wl_nil (q_n (k13 _ _ ?_))
 refine sx_condP rfl (fun h4621 => ?_) (fun h4621 => ?_)
 ·
  refine sx_seq fun K14 k14 => sx_region ?_
  refine sa rfl rfl rfl rfl ?_
  refine wl_nil (q_n (k14 _ _ ?_))
  refine sx_retc ?_
  refine q_r (sx_ret1 Try.results6 rfl ?_)
  exact ⟨rfl, ((cb2.t cb4).t c11)⟩
 ·
  refine sx_skip ?_
  refine q_n (k12 _ _ ?_)
  refine sx_seq fun K15 k15 => sx_region ?_
  have f16 := fb4.ext c11
  refine sx_pure rfl rfl rfl (px_load rfl (f16.loadA (vs := [.bool n2, v2, .int .i64 p2]) (look_lit rfl) Try.isAgg26 Try.sizeOf26)) ?_
  refine sm rfl rfl rfl rfl ?_
  have f17 := hv20.ext cb2
  have f18 := f17.ext cb4
  have f19 := f18.ext c11
  refine sx_call rfl rfl Try.call15 (c_szDec f19 (by omega) (by omega)) (fun v20 w20 p20 => ?_)
  obtain ⟨r20, rfl, hr20, c20⟩ := p20
  have zw20 := c20.size
  refine sa rfl rfl rfl rfl ?_
  refine wl_nil (q_n (k15 _ _ ?_))
  refine sx_seq fun K21 k21 => ?_
  refine sx_seq fun K22 k22 => sx_region ?_
  refine sm rfl rfl rfl rfl ?_
  refine sx_pure rfl rfl rfl (px_lt rfl rfl) ?_
  refine wl_nil (q_n (k22 _ _ ?_))
  refine sx_sub (Sub.cons (t := 2) rfl (.cons (t := 3) rfl (.cons (t := 4) rfl (.cons (t := 19) rfl (.nil))))) ?_
  refine sx_condP rfl (fun h4625 => ?_) (fun h4625 => ?_)
  ·
   refine sx_seq fun K23 k23 => sx_region ?_
   refine sa rfl rfl rfl rfl ?_
   refine wl_nil (q_n (k23 _ _ ?_))
   refine sx_retc ?_
   refine q_r (sx_ret1 Try.results6 rfl ?_)
   exact ⟨rfl, (((cb2.t cb4).t c11).t c20)⟩
  ·
   refine sx_skip ?_
   refine q_n (k21 _ _ ?_)
   refine sx_seq fun K24 k24 => ?_
   have f25 := f8.ext c11
   have f26 := f25.ext c20
   have f27 := f16.ext c20
   have f28 := f10.ext c11
   have f29 := f28.ext c20
   have f30 := f19.ext c20
   refine dx_region (fun w' => Chg 0 0 w20 w') (by kernel_rfl) (Chg.zero (Chg.drew _)) ?_
   have d31 := Chg.drew w20
   have s31 : Chg 0 0 w20 (World.drew w20) := Chg.zero (Chg.drew _)
   have y31 : (World.drew w20).heap.size = w20.heap.size := rfl
   generalize World.drew w20 = w31 at *
   have zw31 := d31.size
   refine dx_take 0 rfl rfl rfl rfl (by kernel_rfl) (by kernel_rfl) (by kernel_rfl) s31 (fun _ hS => px_load rfl ((f26.chg hS (by omega)).loadA (vs := [.bool n1, v1, .int .i64 p1]) (look_lit rfl) Try.isAgg26 Try.sizeOf26)) ?_
   refine dx_take 2 rfl rfl rfl rfl (by kernel_rfl) (by kernel_rfl) (by kernel_rfl) s31 (fun _ hS => px_load rfl ((f27.chg hS (by omega)).loadA (vs := [.bool n2, v2, .int .i64 p2]) (look_lit rfl) Try.isAgg26 Try.sizeOf26)) ?_
   refine dx_eff 1 rfl (by kernel_rfl) ?_
   have f32 := f29.ext d31
   refine sx_call rfl rfl Try.call17 (c_toDec f32 (by omega)) (fun v33 w33 p33 => ?_)
   obtain ⟨s133, rfl, os1_33, c33⟩ := p33
   have zw33 := c33.size
   have s34 : Chg 0 0 w20 w33 := (d31.t c33)
   refine wl_nil ?_
   refine dx_next s34 ?_
   refine dx_eff 3 rfl (by kernel_rfl) ?_
   have f35 := f30.ext d31
   have f36 := f35.ext c33
   refine sx_call rfl rfl Try.call17 (c_toDec f36 (by omega)) (fun v37 w37 p37 => ?_)
   obtain ⟨s137, rfl, os1_37, c37⟩ := p37
   have zw37 := c37.size
   have s38 : Chg 0 0 w20 w37 := ((d31.t c33).t c37)
   refine wl_nil ?_
   refine dx_next s38 ?_
   refine dx_eff 4 rfl (by kernel_rfl) ?_
   have f39 := os1_33.ext c37
   refine sx_call rfl rfl Try.call29 (c_sDecCmp f39.sv os1_37.sv (by omega)) (fun v40 w40 p40 => ?_)
   obtain ⟨rfl, c40⟩ := p40
   have zw40 := c40.size
   have s41 : Chg 0 0 w20 w40 := (((d31.t c33).t c37).t c40)
   refine wl_nil ?_
   refine dx_next s41 ?_
   refine dx_take 5 rfl rfl rfl rfl (by kernel_rfl) (by kernel_rfl) (by kernel_rfl) s41 (fun _ hS => px_assign rfl) ?_
   refine dx_done (by kernel_rfl) ?_
   refine q_n (k24 _ _ ?_)
   refine sx_seq fun K42 k42 => sx_region ?_
   have f43 := f26.ext d31
   have f44 := f43.ext c33
   have f45 := f44.ext c37
   have f46 := f45.ext c40
   refine sx_pure rfl rfl rfl (px_load rfl (f46.loadA (vs := [.bool n1, v1, .int .i64 p1]) (look_lit rfl) Try.isAgg26 Try.sizeOf26)) ?_
   have f47 := f32.ext c33
   have f48 := f47.ext c37
   have f49 := f48.ext c40
   refine sx_call rfl rfl Try.call17 (c_toDec f49 (by omega)) (fun v50 w50 p50 => ?_)
   obtain ⟨s150, rfl, os1_50, c50⟩ := p50
   have zw50 := c50.size
   refine sx_alloc [.bool false, (.slice none 0 0), .int .i64 0] rfl Try.zeroValue31 rfl (fun b51 w52 eb51 sb51 fb51 cb51 => ?_)
   have zw52 := cb51.size
   have f54 := os1_50.ext cb51
   refine sx_store (vs := [.bool n1, s150, .int .i64 p1]) rfl rfl fb51 rfl Try.sizeOf31 (Nat.le_of_ble_eq_true rfl) (one_cons rfl (one_cons f54.one (one_cons rfl one_nil))) (fun w53 sw53 fw53 cw53 => ?_)
   have zw53 := cw53.size
   have gw53 : Blk w53 b51 [.bool n1, s150, .int .i64 p1] 31 := fw53
   refine wl_nil (q_n (k42 _ _ ?_))
   refine sx_seq fun K55 k55 => sx_region ?_
   have f56 := f27.ext d31
   have f57 := f56.ext c33
   have f58 := f57.ext c37
   have f59 := f58.ext c40
   have f60 := f59.ext c50
   have f61 := f60.ext cb51
   have f62 := f61.chg cw53 (by omega)
   refine sx_pure rfl rfl rfl (px_load rfl (f62.loadA (vs := [.bool n2, v2, .int .i64 p2]) (look_lit rfl) Try.isAgg26 Try.sizeOf26)) ?_
   have f63 := f36.ext c37
   have f64 := f63.ext c40
   have f65 := f64.ext c50
   have f66 := f65.ext cb51
   have f67 := f66.chg cw53 (by omega)
   refine sx_call rfl rfl Try.call17 (c_toDec f67 (by omega)) (fun v68 w68 p68 => ?_)
   obtain ⟨s168, rfl, os1_68, c68⟩ := p68
   have zw68 := c68.size
   refine sx_alloc [.bool false, (.slice none 0 0), .int .i64 0] rfl Try.zeroValue31 rfl (fun b69 w70 eb69 sb69 fb69 cb69 => ?_)
   have zw70 := cb69.size
   have f72 := os1_68.ext cb69
   refine sx_store (vs := [.bool n2, s168, .int .i64 p2]) rfl rfl fb69 rfl Try.sizeOf31 (Nat.le_of_ble_eq_true rfl) (one_cons rfl (one_cons f72.one (one_cons rfl one_nil))) (fun w71 sw71 fw71 cw71 => ?_)
   have zw71 := cw71.size
   have gw71 : Blk w71 b69 [.bool n2, s168, .int .i64 p2] 31 := fw71
   refine wl_nil (q_n (k55 _ _ ?_))
   refine sx_sub (Sub.cons (t := 2) rfl (.cons (t := 3) rfl (.cons (t := 4) rfl (.cons (t := 6) rfl (.cons (t := 7) rfl (.cons (t := 8) rfl (.nil))))))) ?_
   refine sx_seq fun K73 k73 => sx_region ?_
   have f74 := gw53.ext c68
   have f75 := f74.ext cb69
   have f76 := f75.chg cw71 (by omega)
   refine sx_pure rfl rfl rfl (px_load rfl (f76.loadA (vs := [.bool n1, s150, .int .i64 p1]) (look_lit rfl) Try.isAgg31 Try.sizeOf31)) ?_
   refine sx_pure rfl rfl rfl (px_load rfl (gw71.loadA (vs := [.bool n2, s168, .int .i64 p2]) (look_lit rfl) Try.isAgg31 Try.sizeOf31)) ?_
   have f77 := f54.chg cw53 (by omega)
   have f78 := f77.ext c68
   have f79 := f78.ext cb69
   have f80 := f79.chg cw71 (by omega)
   have f81 := f72.chg cw71 (by omega)
   refine sx_call rfl rfl Try.call30 (c_iDecCmp f80.sv f81.sv (by omega)) (fun v82 w82 p82 => ?_)
   obtain ⟨rfl, c82⟩ := p82
   have zw82 := c82.size
   refine sa rfl rfl rfl rfl ?_
   refine wl_nil (q_n (k73 _ _ ?_))
   refine sx_seq fun K83 k83 => ?_
   refine sx_seq fun K84 k84 => sx_region ?_
   refine sm rfl rfl rfl rfl ?_
   refine sm rfl rfl rfl rfl ?_
   refine sx_pure rfl rfl rfl (px_ne rfl rfl) ?_
   refine wl_nil (q_n (k84 _ _ ?_))
   have h4632 : ¬ ((dCmp n1 z1 p1 n2 z2 p2 : Int) ≠ dCmp n1 z1 p1 n2 z2 p2) := by simp [mk_length]
   refine sx_condPF rfl h4632 ?_
   refine sx_skip ?_
   refine q_n (k83 _ _ ?_)
   refine sx_seq fun K85 k85 => ?_
   refine sx_seq fun K86 k86 => ?_
   have f87 := f46.ext c50
   have f88 := f87.ext cb51
   have f89 := f88.chg cw53 (by omega)
   have f90 := f89.ext c68
   have f91 := f90.ext cb69
   have f92 := f91.chg cw71 (by omega)
   have f93 := f92.ext c82
   have f94 := f62.ext c68
   have f95 := f94.ext cb69
   have f96 := f95.chg cw71 (by omega)
   have f97 := f96.ext c82
   have f98 := f76.ext c82
   have f99 := gw71.ext c82
   have f100 := f49.ext c50
   have f101 := f100.ext cb51
   have f102 := f101.chg cw53 (by omega)
   have f103 := f102.ext c68
   have f104 := f103.ext cb69
   have f105 := f104.chg cw71 (by omega)
   have f106 := f105.ext c82
   have f107 := f67.ext c68
   have f108 := f107.ext cb69
   have f109 := f108.chg cw71 (by omega)
   have f110 := f109.ext c82
   have f111 := f39.ext c40
   have f112 := f111.ext c50
   have f113 := f112.ext cb51
   have f114 := f113.chg cw53 (by omega)
   have f115 := f114.ext c68
   have f116 := f115.ext cb69
   have f117 := f116.chg cw71 (by omega)
   have f118 := f117.ext c82
   have f119 := os1_37.ext c40
   have f120 := f119.ext c50
   have f121 := f120.ext cb51
   have f122 := f121.chg cw53 (by omega)
   have f123 := f122.ext c68
   have f124 := f123.ext cb69
   have f125 := f124.chg cw71 (by omega)
   have f126 := f125.ext c82
   have f127 := f80.ext c82
   have f128 := f81.ext c82
   refine dx_region (fun w' => Chg 0 0 w82 w') (by kernel_rfl) (Chg.zero (Chg.drew _)) ?_
   have d129 := Chg.drew w82
   have s129 : Chg 0 0 w82 (World.drew w82) := Chg.zero (Chg.drew _)
   have y129 : (World.drew w82).heap.size = w82.heap.size := rfl
   generalize World.drew w82 = w129 at *
   have zw129 := d129.size
   refine dx_take 0 rfl rfl rfl rfl (by kernel_rfl) (by kernel_rfl) (by kernel_rfl) s129 (fun _ hS => px_load rfl ((f98.chg hS (by omega)).loadA (vs := [.bool n1, s150, .int .i64 p1]) (look_lit rfl) Try.isAgg31 Try.sizeOf31)) ?_
   refine dx_take 1 rfl rfl rfl rfl (by kernel_rfl) (by kernel_rfl) (by kernel_rfl) s129 (fun _ hS => px_load rfl ((f93.chg hS (by omega)).loadA (vs := [.bool n1, v1, .int .i64 p1]) (look_lit rfl) Try.isAgg26 Try.sizeOf26)) ?_
   refine dx_eff 2 rfl (by kernel_rfl) ?_
   have f130 := f106.ext d129
   refine sx_call rfl rfl Try.call17 (c_toDec f130 (by omega)) (fun v131 w131 p131 => ?_)
   obtain ⟨s1131, rfl, os1_131, c131⟩ := p131
   have zw131 := c131.size
   have s132 : Chg 0 0 w82 w131 := (d129.t c131)
   refine wl_nil ?_
   refine dx_next s132 ?_
   refine dx_eff 3 rfl (by kernel_rfl) ?_
   have f133 := f127.ext d129
   have f134 := f133.ext c131
   refine sx_call rfl rfl Try.call19 (c_eqDec f134.sv os1_131.sv (by omega)) (fun v135 w135 p135 => ?_)
   obtain ⟨rfl, c135⟩ := p135
   have zw135 := c135.size
   have s136 : Chg 0 0 w82 w135 := ((d129.t c131).t c135)
   refine wl_nil ?_
   refine dx_next s136 ?_
   refine dx_take 4 rfl rfl rfl rfl (by kernel_rfl) (by kernel_rfl) (by kernel_rfl) s136 (fun _ hS => px_notP rfl) ?_
   refine dx_done (by kernel_rfl) ?_
   refine q_n (k86 _ _ ?_)
   refine sx_sub (Sub.cons (t := 3) rfl (.cons (t := 4) rfl (.cons (t := 8) rfl (.cons (t := 39) rfl (.nil))))) ?_
   have h4635 : ¬ (¬ (n1 = n1 ∧ z1 = z1 ∧ p1 = p1)) := by simp [mk_length]
   refine sx_condPF rfl h4635 ?_
   refine sx_skip ?_
   refine q_n (k85 _ _ ?_)
   refine sx_seq fun K137 k137 => ?_
   refine sx_seq fun K138 k138 => ?_
   have f139 := f93.ext d129
   have f140 := f139.ext c131
   have f141 := f140.ext c135
   have f142 := f97.ext d129
   have f143 := f142.ext c131
   have f144 := f143.ext c135
   have f145 := f98.ext d129
   have f146 := f145.ext c131
   have f147 := f146.ext c135
   have f148 := f99.ext d129
   have f149 := f148.ext c131
   have f150 := f149.ext c135
   have f151 := f130.ext c131
   have f152 := f151.ext c135
   have f153 := f110.ext d129
   have f154 := f153.ext c131
   have f155 := f154.ext c135
   have f156 := f118.ext d129
   have f157 := f156.ext c131
   have f158 := f157.ext c135
   have f159 := f126.ext d129
   have f160 := f159.ext c131
   have f161 := f160.ext c135
   have f162 := f134.ext c135
   have f163 := f128.ext d129
   have f164 := f163.ext c131
   have f165 := f164.ext c135
   have f166 := os1_131.ext c135
   refine dx_region (fun w' => Chg 0 0 w135 w') (by kernel_rfl) (Chg.zero (Chg.drew _)) ?_
   have d167 := Chg.drew w135
   have s167 : Chg 0 0 w135 (World.drew w135) := Chg.zero (Chg.drew _)
   have y167 : (World.drew w135).heap.size = w135.heap.size := rfl
   generalize World.drew w135 = w167 at *
   have zw167 := d167.size
   refine dx_take 0 rfl rfl rfl rfl (by kernel_rfl) (by kernel_rfl) (by kernel_rfl) s167 (fun _ hS => px_load rfl ((f150.chg hS (by omega)).loadA (vs := [.bool n2, s168, .int .i64 p2]) (look_lit rfl) Try.isAgg31 Try.sizeOf31)) ?_
   refine dx_take 1 rfl rfl rfl rfl (by kernel_rfl) (by kernel_rfl) (by kernel_rfl) s167 (fun _ hS => px_load rfl ((f144.chg hS (by omega)).loadA (vs := [.bool n2, v2, .int .i64 p2]) (look_lit rfl) Try.isAgg26 Try.sizeOf26)) ?_
   refine dx_eff 2 rfl (by kernel_rfl) ?_
   have f168 := f155.ext d167
   refine sx_call rfl rfl Try.call17 (c_toDec f168 (by omega)) (fun v169 w169 p169 => ?_)
   obtain ⟨s1169, rfl, os1_169, c169⟩ := p169
   have zw169 := c169.size
   have s170 : Chg 0 0 w135 w169 := (d167.t c169)
   refine wl_nil ?_
   refine dx_next s170 ?_
   refine dx_eff 3 rfl (by kernel_rfl) ?_
   have f171 := f165.ext d167
   have f172 := f171.ext c169
   refine sx_call rfl rfl Try.call19 (c_eqDec f172.sv os1_169.sv (by omega)) (fun v173 w173 p173 => ?_)
   obtain ⟨rfl, c173⟩ := p173
   have zw173 := c173.size
   have s174 : Chg 0 0 w135 w173 := ((d167.t c169).t c173)
   refine wl_nil ?_
   refine dx_next s174 ?_
   refine dx_take 4 rfl rfl rfl rfl (by kernel_rfl) (by kernel_rfl) (by kernel_rfl) s174 (fun _ hS => px_notP rfl) ?_
   refine dx_done (by kernel_rfl) ?_
   refine q_n (k138 _ _ ?_)
   have h4638 : ¬ (¬ (n2 = n2 ∧ z2 = z2 ∧ p2 = p2)) := by simp [mk_length]
   refine sx_condPF rfl h4638 ?_
   refine sx_skip ?_
   refine q_n (k137 _ _ ?_)
   refine sx_seq fun K175 k175 => sx_region ?_
   refine sa rfl rfl rfl rfl ?_
   refine wl_nil (q_n (k175 _ _ ?_))
   refine sx_retc ?_
   refine sx_ret1 Try.results6 rfl ?_
   have q176 := Chg.step (l := 0) (h := 0) (Chg.zero (l := 0) (h := 0) (((((((((cb2.t cb4).t c11).t c20).t d31).t c33).t c37).t c40).t c50).t cb51)) cw53 (by omega)
   have q177 := Chg.step (l := 0) (h := 0) q176 (c68.t cb69) (by omega)
   have q178 := Chg.step (l := 0) (h := 0) q177 cw71 (by omega)
   have q179 := Chg.step (l := 0) (h := 0) q178 ((((((c82.t d129).t c131).t c135).t d167).t c169).t c173) (by omega)
   exact ⟨rfl, q179⟩

end Go.Proofs.Yteiifmkclokgnaa
