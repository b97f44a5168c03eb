/- Contracts of functions of the program: what each call returns, and that it changes nothing that was. Conditions: as each says. -/
import Derived.Test.YteiifmkclokgnaaTy
import Derived.Test.YteiifmkclokgnaaNatH
import Derived.Test.YteiifmkclokgnaaSxB
import Derived.Test.YteiifmkclokgnaaK3
set_option linter.unusedVariables false
set_option linter.unusedSimpArgs false
namespace Go.Proofs.Yteiifmkclokgnaa
open Go Go.RowKit
set_option maxRecDepth 100000
theorem law_RatWhole {w : World} {n1 : Bool} {v1 : Value} {lv1 uv1 : Nat} {z1 : List Int} {d1 : Value} {ld1 ud1 : Nat} {y1 : List Int} (hv1 : Sl w lv1 uv1 v1 (z1)) (hd1 : Sl w ld1 ud1 d1 (y1)) (bz1 : z1.length ≤ 9223372036854775807) (by1 : y1.length ≤ 9223372036854775807) :
  Ret Try.prog 7 [.agg #[.bool n1, v1, d1]] w fun v w' => v = .bool (true) ∧ Chg 0 0 w w' := by
 have hv10 := hv1.fit
 have hd10 := hd1.fit
 refine sx_enter Try.func7 rfl Try.ntmps7 (Nat.le_of_ble_eq_true rfl) ?_
 refine sx_seq fun K1 k1 => sx_region ?_
 refine sx_box [.bool n1, v1, d1] rfl rfl rfl (fun b2 w3 eb2 sb2 fb2 cb2 => ?_)
 have zw3 := cb2.size
 refine sa rfl rfl rfl rfl ?_
 refine wl_nil (q_n (k1 _ _ ?_))
 refine sx_seq fun K4 k4 => sx_region ?_
 refine sa rfl rfl rfl rfl ?_
 refine wl_nil (q_n (k4 _ _ ?_))
 refine sx_seq fun K5 k5 => sx_region ?_
 refine sx_pure rfl rfl rfl (px_load rfl (fb2.loadA (vs := [.bool n1, v1, d1]) (look_lit rfl) Try.isAgg49 Try.sizeOf49)) ?_
 refine sm rfl rfl rfl rfl ?_
 have f6 := hv10.ext cb2
 have f7 := hd10.ext cb2
 refine sx_call rfl rfl Try.call31 (c_szRat f6 f7 (by omega) (by omega) (by omega)) (fun v8 w8 p8 => ?_)
 obtain ⟨r8, rfl, hr8, c8⟩ := p8
 have zw8 := c8.size
 refine sa rfl rfl rfl rfl ?_
 refine wl_nil (q_n (k5 _ _ ?_))
 refine sx_seq fun K9 k9 => ?_
 refine sx_seq fun K10 k10 => sx_region ?_
 refine sm rfl rfl rfl rfl ?_
 refine sx_pure rfl rfl rfl (px_lt rfl rfl) ?_
 refine wl_nil (q_n (k10 _ _ ?_))
 refine sx_condP rfl (fun h4106 => ?_) (fun h4106 => ?_)
 ·
  refine sx_seq fun K11 k11 => sx_region ?_
  refine sa rfl rfl rfl rfl ?_
  refine wl_nil (q_n (k11 _ _ ?_))
  refine sx_retc ?_
  refine q_r (sx_ret1 Try.results7 rfl ?_)
  exact ⟨rfl, (cb2.t c8)⟩
 ·
  refine sx_skip ?_
  refine q_n (k9 _ _ ?_)
  refine sx_seq fun K12 k12 => sx_region ?_
  have f13 := fb2.ext c8
  refine sx_pure rfl rfl rfl (px_load rfl (f13.loadA (vs := [.bool n1, v1, d1]) (look_lit rfl) Try.isAgg49 Try.sizeOf49)) ?_
  have f14 := f6.ext c8
  have f15 := f7.ext c8
  refine sx_call rfl rfl Try.call33 (c_toRat f14 f15 (by omega) (by omega)) (fun v16 w16 p16 => ?_)
  obtain ⟨s16, t16, ls16, us16, lt16, ut16, rfl, os_16, ot_16, hd16, c16⟩ := p16
  have zw16 := c16.size
  refine sx_call rfl rfl Try.call32 (c_sRatWhole os_16.sv ot_16.sv (by omega)) (fun v17 w17 p17 => ?_)
  obtain ⟨rfl, c17⟩ := p17
  have zw17 := c17.size
  refine sa rfl rfl rfl rfl ?_
  refine wl_nil (q_n (k12 _ _ ?_))
  refine sx_seq fun K18 k18 => sx_region ?_
  have f19 := f13.ext c16
  have f20 := f19.ext c17
  refine sx_pure rfl rfl rfl (px_load rfl (f20.loadA (vs := [.bool n1, v1, d1]) (look_lit rfl) Try.isAgg49 Try.sizeOf49)) ?_
  have f21 := f14.ext c16
  have f22 := f21.ext c17
  have f23 := f15.ext c16
  have f24 := f23.ext c17
  refine sx_call rfl rfl Try.call33 (c_toRat f22 f24 (by omega) (by omega)) (fun v25 w25 p25 => ?_)
  obtain ⟨s25, t25, ls25, us25, lt25, ut25, rfl, os_25, ot_25, hd25, c25⟩ := p25
  have zw25 := c25.size
  refine sx_alloc [.bool false, (.slice none 0 0), (.slice none 0 0)] rfl Try.zeroValue53 rfl (fun b26 w27 eb26 sb26 fb26 cb26 => ?_)
  have zw27 := cb26.size
  have f29 := ot_25.ext cb26
  have f30 := os_25.ext cb26
  refine sx_store (vs := [.bool n1, s25, t25]) rfl rfl fb26 rfl Try.sizeOf53 (Nat.le_of_ble_eq_true rfl) (one_cons rfl (one_cons f30.one (one_cons f29.one one_nil))) (fun w28 sw28 fw28 cw28 => ?_)
  have zw28 := cw28.size
  have gw28 : Blk w28 b26 [.bool n1, s25, t25] 53 := fw28
  refine wl_nil (q_n (k18 _ _ ?_))
  refine sx_sub (Sub.cons (t := 1) rfl (.cons (t := 2) rfl (.cons (t := 4) rfl (.cons (t := 5) rfl (.nil))))) ?_
  refine sx_seq fun K31 k31 => sx_region ?_
  refine sx_pure rfl rfl rfl (px_load rfl (gw28.loadA (vs := [.bool n1, s25, t25]) (look_lit rfl) Try.isAgg53 Try.sizeOf53)) ?_
  have f32 := f30.chg cw28 (by omega)
  have f33 := f29.chg cw28 (by omega)
  refine sx_call rfl rfl Try.call34 (c_iRatWhole f32.sv f33.sv (by omega)) (fun v34 w34 p34 => ?_)
  obtain ⟨rfl, c34⟩ := p34
  have zw34 := c34.size
  refine sa rfl rfl rfl rfl ?_
  refine wl_nil (q_n (k31 _ _ ?_))
  refine sx_seq fun K35 k35 => ?_
  refine sx_seq fun K36 k36 => sx_region ?_
  refine sm rfl rfl rfl rfl ?_
  refine sm rfl rfl rfl rfl ?_
  refine sx_pure rfl rfl rfl (px_neB Try.underlying4 rfl rfl) ?_
  refine wl_nil (q_n (k36 _ _ ?_))
  have h4112 : ((decide (ROk n1 z1 y1 ∧ y1 = [1])) != (decide (ROk n1 z1 y1 ∧ y1 = [1]))) = false := by simp [mk_length]
  refine sx_condBF rfl h4112 ?_
  refine sx_skip ?_
  refine q_n (k35 _ _ ?_)
  refine sx_seq fun K37 k37 => ?_
  refine sx_seq fun K38 k38 => ?_
  have f39 := f20.ext c25
  have f40 := f39.ext cb26
  have f41 := f40.chg cw28 (by omega)
  have f42 := f41.ext c34
  have f43 := gw28.ext c34
  have f44 := f22.ext c25
  have f45 := f44.ext cb26
  have f46 := f45.chg cw28 (by omega)
  have f47 := f46.ext c34
  have f48 := f24.ext c25
  have f49 := f48.ext cb26
  have f50 := f49.chg cw28 (by omega)
  have f51 := f50.ext c34
  have f52 := os_16.ext c17
  have f53 := f52.ext c25
  have f54 := f53.ext cb26
  have f55 := f54.chg cw28 (by omega)
  have f56 := f55.ext c34
  have f57 := ot_16.ext c17
  have f58 := f57.ext c25
  have f59 := f58.ext cb26
  have f60 := f59.chg cw28 (by omega)
  have f61 := f60.ext c34
  have f62 := f32.ext c34
  have f63 := f33.ext c34
  refine dx_region (fun w' => Chg 0 0 w34 w') (by kernel_rfl) (Chg.zero (Chg.drew _)) ?_
  have d64 := Chg.drew w34
  have s64 : Chg 0 0 w34 (World.drew w34) := Chg.zero (Chg.drew _)
  have y64 : (World.drew w34).heap.size = w34.heap.size := rfl
  generalize World.drew w34 = w64 at *
  have zw64 := d64.size
  refine dx_take 0 rfl rfl rfl rfl (by kernel_rfl) (by kernel_rfl) (by kernel_rfl) s64 (fun _ hS => px_load rfl ((f43.chg hS (by omega)).loadA (vs := [.bool n1, s25, t25]) (look_lit rfl) Try.isAgg53 Try.sizeOf53)) ?_
  refine dx_take 1 rfl rfl rfl rfl (by kernel_rfl) (by kernel_rfl) (by kernel_rfl) s64 (fun _ hS => px_load rfl ((f42.chg hS (by omega)).loadA (vs := [.bool n1, v1, d1]) (look_lit rfl) Try.isAgg49 Try.sizeOf49)) ?_
  refine dx_eff 2 rfl (by kernel_rfl) ?_
  have f65 := f47.ext d64
  have f66 := f51.ext d64
  refine sx_call rfl rfl Try.call33 (c_toRat f65 f66 (by omega) (by omega)) (fun v67 w67 p67 => ?_)
  obtain ⟨s67, t67, ls67, us67, lt67, ut67, rfl, os_67, ot_67, hd67, c67⟩ := p67
  have zw67 := c67.size
  have s68 : Chg 0 0 w34 w67 := (d64.t c67)
  refine wl_nil ?_
  refine dx_next s68 ?_
  refine dx_eff 3 rfl (by kernel_rfl) ?_
  have f69 := f62.ext d64
  have f70 := f69.ext c67
  have f71 := f63.ext d64
  have f72 := f71.ext c67
  refine sx_call rfl rfl Try.call35 (c_eqRat f70.sv f72.sv os_67.sv ot_67.sv (by omega)) (fun v73 w73 p73 => ?_)
  obtain ⟨rfl, c73⟩ := p73
  have zw73 := c73.size
  have s74 : Chg 0 0 w34 w73 := ((d64.t c67).t c73)
  refine wl_nil ?_
  refine dx_next s74 ?_
  refine dx_take 4 rfl rfl rfl rfl (by kernel_rfl) (by kernel_rfl) (by kernel_rfl) s74 (fun _ hS => px_notP rfl) ?_
  refine dx_done (by kernel_rfl) ?_
  refine q_n (k38 _ _ ?_)
  refine sx_sub (Sub.cons (t := 2) rfl (.cons (t := 26) rfl (.nil))) ?_
  have h4115 : ¬ (¬ (n1 = n1 ∧ z1 = z1 ∧ y1 = y1)) := by simp [mk_length]
  refine sx_condPF rfl h4115 ?_
  refine sx_skip ?_
  refine q_n (k37 _ _ ?_)
  refine sx_seq fun K75 k75 => sx_region ?_
  refine sa rfl rfl rfl rfl ?_
  refine wl_nil (q_n (k75 _ _ ?_))
  refine sx_retc ?_
  refine sx_ret1 Try.results7 rfl ?_
  have q76 := Chg.step (l := 0) (h := 0) (Chg.zero (l := 0) (h := 0) (((((cb2.t c8).t c16).t c17).t c25).t cb26)) cw28 (by omega)
  have q77 := Chg.step (l := 0) (h := 0) q76 (((c34.t d64).t c67).t c73) (by omega)
  exact ⟨rfl, q77⟩

end Go.Proofs.Yteiifmkclokgnaa
