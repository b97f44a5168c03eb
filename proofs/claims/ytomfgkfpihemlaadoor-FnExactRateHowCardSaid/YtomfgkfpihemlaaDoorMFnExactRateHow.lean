/- Contracts of functions of the program: what each call returns, and that it changes nothing that was. Conditions: as each says. -/
import Derived.Test.YtomfgkfpihemlaaDoorTy
import Derived.Test.YtomfgkfpihemlaaDoorNatJ
import Derived.Test.YtomfgkfpihemlaaDoorPair
import Derived.Test.YtomfgkfpihemlaaDoorK4
set_option linter.unusedVariables false
set_option linter.unusedSimpArgs false
namespace Go.Proofs.YtomfgkfpihemlaaDoor
open Go Go.RowKit
set_option maxRecDepth 100000
theorem law_RateHow {w : World} {pv : ByteArray} {vt : Value} {lvt uvt : Nat} {ts : List Rt} {vvt : List Value} {a : ByteArray} {b : ByteArray} (hG0 : Glob w) (hvt : RtS w lvt uvt vt ts vvt) (bpv : pv.size ≤ 9223372036854775807) (bts : ts.length ≤ 9223372036854775807) (hb : ∀ i, i < ts.length → RB (ts.getD i rt0)) (ba : a.size ≤ 9223372036854775807) (bb : b.size ≤ 9223372036854775807) :
  Ret Tryd.prog 12 [.agg #[.string pv, vt], .string a, .string b] w fun v w' => v = .bool (true) ∧ Chg 0 0 w w' := by
 have hvt0 := hvt.fit
 have hG0l : 0 < w.heap.size := by obtain ⟨T, fz, h1⟩ := hG0; rcases Nat.lt_or_ge 0 w.heap.size with h2 | h2; exact h2; simp [Array.getElem?_eq_none h2] at h1
 refine sx_enter Tryd.func12 rfl Tryd.ntmps12 (Nat.le_of_ble_eq_true rfl) ?_
 refine sx_seq fun K1 k1 => sx_region ?_
 refine sx_box [.string pv, vt] rfl rfl rfl (fun b2 w3 eb2 sb2 fb2 cb2 => ?_)
 have zw3 := cb2.size
 refine sa rfl rfl rfl rfl ?_
 refine wl_nil (q_n (k1 _ _ ?_))
 refine sx_seq fun K4 k4 => ?_
 refine sx_seq fun K5 k5 => sx_region ?_
 refine sm rfl rfl rfl rfl ?_
 refine sx_pure rfl rfl rfl (px_lenS rfl Tryd.underlying9) ?_
 refine sx_pure rfl rfl rfl (px_gt rfl rfl) ?_
 refine wl_nil (q_n (k5 _ _ ?_))
 refine sx_condP rfl (fun h5489 => ?_) (fun h5489 => ?_)
 ·
  refine sx_seq fun K6 k6 => sx_region ?_
  refine sa rfl rfl rfl rfl ?_
  refine wl_nil (q_n (k6 _ _ ?_))
  refine sx_retc ?_
  refine q_r (sx_ret1 Tryd.results12 rfl ?_)
  exact ⟨rfl, cb2⟩
 ·
  refine sx_skip ?_
  refine q_n (k4 _ _ ?_)
  refine sx_seq fun K7 k7 => ?_
  refine sx_seq fun K8 k8 => sx_region ?_
  refine sm rfl rfl rfl rfl ?_
  refine sx_pure rfl rfl rfl (px_lenS rfl Tryd.underlying9) ?_
  refine sx_pure rfl rfl rfl (px_gt rfl rfl) ?_
  refine wl_nil (q_n (k8 _ _ ?_))
  refine sx_condP rfl (fun h5492 => ?_) (fun h5492 => ?_)
  ·
   refine sx_seq fun K9 k9 => sx_region ?_
   refine sa rfl rfl rfl rfl ?_
   refine wl_nil (q_n (k9 _ _ ?_))
   refine sx_retc ?_
   refine q_r (sx_ret1 Tryd.results12 rfl ?_)
   exact ⟨rfl, cb2⟩
  ·
   refine sx_skip ?_
   refine q_n (k7 _ _ ?_)
   refine sx_seq fun K10 k10 => sx_region ?_
   refine sa rfl rfl rfl rfl ?_
   refine wl_nil (q_n (k10 _ _ ?_))
   refine sx_seq fun K11 k11 => sx_region ?_
   refine sx_pure rfl rfl rfl (px_load rfl (fb2.loadA (vs := [.string pv, vt]) (look_lit rfl) Tryd.isAgg66 Tryd.sizeOf66)) ?_
   refine sm rfl rfl rfl rfl ?_
   have f12 := hvt0.ext cb2
   refine sx_call rfl rfl Tryd.call40 (c_szRates f12 (by omega) (by omega) (by assumption) (by omega)) (fun v13 w13 p13 => ?_)
   obtain ⟨r13, rfl, hr13, hzz13, c13⟩ := p13
   have zw13 := c13.size
   have hzs := hzz13
   refine sa rfl rfl rfl rfl ?_
   refine wl_nil (q_n (k11 _ _ ?_))
   refine sx_sub (Sub.cons (t := 1) rfl (.cons (t := 2) rfl (.cons (t := 3) rfl (.cons (t := 6) rfl (.cons (t := 7) rfl (.nil)))))) ?_
   refine sx_seq fun K14 k14 => ?_
   refine sx_seq fun K15 k15 => sx_region ?_
   refine sm rfl rfl rfl rfl ?_
   refine sx_pure rfl rfl rfl (px_lt rfl rfl) ?_
   refine wl_nil (q_n (k15 _ _ ?_))
   refine sx_condP rfl (fun h5497 => ?_) (fun h5497 => ?_)
   ·
    refine sx_seq fun K16 k16 => sx_region ?_
    refine sa rfl rfl rfl rfl ?_
    refine wl_nil (q_n (k16 _ _ ?_))
    refine sx_retc ?_
    refine q_r (sx_ret1 Tryd.results12 rfl ?_)
    exact ⟨rfl, (cb2.t c13)⟩
   ·
    refine sx_skip ?_
    refine q_n (k14 _ _ ?_)
    refine sx_seq fun K17 k17 => sx_region ?_
    have f18 := fb2.ext c13
    refine sx_pure rfl rfl rfl (px_load rfl (f18.loadA (vs := [.string pv, vt]) (look_lit rfl) Tryd.isAgg66 Tryd.sizeOf66)) ?_
    have f19 := f12.ext c13
    refine sx_call rfl rfl Tryd.call42 (c_toRates f19 (by omega) (hzs (by omega))) (fun v20 w20 p20 => ?_)
    obtain ⟨s20, us20, rfl, os_20, c20⟩ := p20
    have zw20 := c20.size
    refine sm rfl rfl rfl rfl ?_
    refine sm rfl rfl rfl rfl ?_
    refine sx_call rfl rfl Tryd.call47 (c_sRateHow os_20 (by omega) (fun i hi => Nat.le_trans (hzs (by omega) i hi) (by omega))) (fun v21 w21 p21 => ?_)
    obtain ⟨rfl, c21⟩ := p21
    have zw21 := c21.size
    refine sa rfl rfl rfl rfl ?_
    refine wl_nil (q_n (k17 _ _ ?_))
    refine sx_seq fun K22 k22 => sx_region ?_
    have f23 := f18.ext c20
    have f24 := f23.ext c21
    refine sx_pure rfl rfl rfl (px_load rfl (f24.loadA (vs := [.string pv, vt]) (look_lit rfl) Tryd.isAgg66 Tryd.sizeOf66)) ?_
    have f25 := f19.ext c20
    have f26 := f25.ext c21
    refine sx_call rfl rfl Tryd.call42 (c_toRates f26 (by omega) (hzs (by omega))) (fun v27 w27 p27 => ?_)
    obtain ⟨s27, us27, rfl, os_27, c27⟩ := p27
    have zw27 := c27.size
    refine sx_alloc [.string (⟨#[]⟩), (.slice none 0 0)] rfl Tryd.zeroValue71 rfl (fun b28 w29 eb28 sb28 fb28 cb28 => ?_)
    have zw29 := cb28.size
    have f31 := os_27.ext cb28
    refine sx_store (vs := [.string pv, s27]) rfl rfl fb28 rfl Tryd.sizeOf71 (Nat.le_of_ble_eq_true rfl) (one_cons rfl (one_cons f31.one one_nil)) (fun w30 sw30 fw30 cw30 => ?_)
    have zw30 := cw30.size
    have gw30 : Blk w30 b28 [.string pv, s27] 71 := fw30
    refine wl_nil (q_n (k22 _ _ ?_))
    refine sx_sub (Sub.cons (t := 1) rfl (.cons (t := 2) rfl (.cons (t := 3) rfl (.cons (t := 6) rfl (.cons (t := 8) rfl (.cons (t := 9) rfl (.nil))))))) ?_
    refine sx_seq fun K32 k32 => sx_region ?_
    refine sx_pure rfl rfl rfl (px_load rfl (gw30.loadA (vs := [.string pv, s27]) (look_lit rfl) Tryd.isAgg71 Tryd.sizeOf71)) ?_
    refine sm rfl rfl rfl rfl ?_
    refine sm rfl rfl rfl rfl ?_
    have f33 := hG0.ext cb2
    have f34 := f33.ext c13
    have f35 := f34.ext c20
    have f36 := f35.ext c21
    have f37 := f36.ext c27
    have f38 := f37.ext cb28
    have f39 := f38.chg cw30 (by omega)
    have f40 := f31.chg cw30 (by omega)
    refine sx_call rfl rfl Tryd.call48 (c_iRateHow f39 f40 (by omega) (fun i hi => Nat.le_trans (hzs (by omega) i hi) (by omega))) (fun v41 w41 p41 => ?_)
    obtain ⟨rfl, c41⟩ := p41
    have zw41 := c41.size
    refine sa rfl rfl rfl rfl ?_
    refine wl_nil (q_n (k32 _ _ ?_))
    refine sx_seq fun K42 k42 => ?_
    refine sx_seq fun K43 k43 => sx_region ?_
    refine sm rfl rfl rfl rfl ?_
    refine sm rfl rfl rfl rfl ?_
    refine sx_pure rfl rfl rfl (px_ne rfl rfl) ?_
    refine wl_nil (q_n (k43 _ _ ?_))
    have h5503 : ¬ ((how pv ts a b : Int) ≠ how pv ts a b) := by simp [mk_length]
    refine sx_condPF rfl h5503 ?_
    refine sx_skip ?_
    refine q_n (k42 _ _ ?_)
    refine sx_seq fun K44 k44 => ?_
    refine sx_seq fun K45 k45 => ?_
    have f46 := f39.ext c41
    have f47 := f24.ext c27
    have f48 := f47.ext cb28
    have f49 := f48.chg cw30 (by omega)
    have f50 := f49.ext c41
    have f51 := gw30.ext c41
    have f52 := f26.ext c27
    have f53 := f52.ext cb28
    have f54 := f53.chg cw30 (by omega)
    have f55 := f54.ext c41
    have f56 := os_20.ext c21
    have f57 := f56.ext c27
    have f58 := f57.ext cb28
    have f59 := f58.chg cw30 (by omega)
    have f60 := f59.ext c41
    have f61 := f40.ext c41
    refine dx_region (fun w' => Chg 0 0 w41 w') (by kernel_rfl) (Chg.zero (Chg.drew _)) ?_
    have d62 := Chg.drew w41
    have s62 : Chg 0 0 w41 (World.drew w41) := Chg.zero (Chg.drew _)
    have y62 : (World.drew w41).heap.size = w41.heap.size := rfl
    generalize World.drew w41 = w62 at *
    have zw62 := d62.size
    refine dx_take 0 rfl rfl rfl rfl (by kernel_rfl) (by kernel_rfl) (by kernel_rfl) s62 (fun _ hS => px_load rfl ((f51.chg hS (by omega)).loadA (vs := [.string pv, s27]) (look_lit rfl) Tryd.isAgg71 Tryd.sizeOf71)) ?_
    refine dx_take 1 rfl rfl rfl rfl (by kernel_rfl) (by kernel_rfl) (by kernel_rfl) s62 (fun _ hS => px_load rfl ((f50.chg hS (by omega)).loadA (vs := [.string pv, vt]) (look_lit rfl) Tryd.isAgg66 Tryd.sizeOf66)) ?_
    refine dx_eff 2 rfl (by kernel_rfl) ?_
    have f63 := f55.ext d62
    refine sx_call rfl rfl Tryd.call42 (c_toRates f63 (by omega) (hzs (by omega))) (fun v64 w64 p64 => ?_)
    obtain ⟨s64, us64, rfl, os_64, c64⟩ := p64
    have zw64 := c64.size
    have s65 : Chg 0 0 w41 w64 := (d62.t c64)
    refine wl_nil ?_
    refine dx_next s65 ?_
    refine dx_eff 3 rfl (by kernel_rfl) ?_
    have f66 := f61.ext d62
    have f67 := f66.ext c64
    refine sx_call rfl rfl Tryd.call44 (c_eqRates f67 os_64 (by omega) (hzs (by omega)) (hzs (by omega))) (fun v68 w68 p68 => ?_)
    obtain ⟨rfl, c68⟩ := p68
    have zw68 := c68.size
    have s69 : Chg 0 0 w41 w68 := ((d62.t c64).t c68)
    refine wl_nil ?_
    refine dx_next s69 ?_
    refine dx_take 4 rfl rfl rfl rfl (by kernel_rfl) (by kernel_rfl) (by kernel_rfl) s69 (fun _ hS => px_notP rfl) ?_
    refine dx_done (by kernel_rfl) ?_
    refine q_n (k45 _ _ ?_)
    refine sx_sub (Sub.cons (t := 6) rfl (.cons (t := 40) rfl (.nil))) ?_
    have h5506 : ¬ (¬ (pv = pv ∧ ts = ts)) := by simp [mk_length]
    refine sx_condPF rfl h5506 ?_
    refine sx_skip ?_
    refine q_n (k44 _ _ ?_)
    refine sx_seq fun K70 k70 => sx_region ?_
    refine sa rfl rfl rfl rfl ?_
    refine wl_nil (q_n (k70 _ _ ?_))
    refine sx_retc ?_
    refine sx_ret1 Tryd.results12 rfl ?_
    have q71 := Chg.step (l := 0) (h := 0) (Chg.zero (l := 0) (h := 0) (((((cb2.t c13).t c20).t c21).t c27).t cb28)) cw30 (by omega)
    have q72 := Chg.step (l := 0) (h := 0) q71 (((c41.t d62).t c64).t c68) (by omega)
    exact ⟨rfl, q72⟩

end Go.Proofs.YtomfgkfpihemlaaDoor
