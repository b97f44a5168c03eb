/- Contracts of functions of the program: what each call returns, and that it changes nothing that was. Conditions: as each says. -/
import Derived.Test.YtomfgkfpihemlaaDoorTy
import Derived.Test.YtomfgkfpihemlaaDoorNatJ
import Derived.Test.YtomfgkfpihemlaaDoorPair
import Derived.Test.YtomfgkfpihemlaaDoorK4
set_option linter.unusedVariables false
set_option linter.unusedSimpArgs false
namespace Go.Proofs.YtomfgkfpihemlaaDoor
open Go Go.RowKit
set_option maxRecDepth 100000
theorem law_RatesOk {w : World} {pv : ByteArray} {vt : Value} {lvt uvt : Nat} {ts : List Rt} {vvt : List Value} (hG0 : Glob w) (hvt : RtS w lvt uvt vt ts vvt) (bpv : pv.size ≤ 9223372036854775807) (bts : ts.length ≤ 9223372036854775807) (hb : ∀ i, i < ts.length → RB (ts.getD i rt0)) :
  Ret Tryd.prog 10 [.agg #[.string pv, vt]] w fun v w' => v = .bool (true) ∧ Chg 0 0 w w' := by
 have hvt0 := hvt.fit
 have hG0l : 0 < w.heap.size := by obtain ⟨T, fz, h1⟩ := hG0; rcases Nat.lt_or_ge 0 w.heap.size with h2 | h2; exact h2; simp [Array.getElem?_eq_none h2] at h1
 refine sx_enter Tryd.func10 rfl Tryd.ntmps10 (Nat.le_of_ble_eq_true rfl) ?_
 refine sx_seq fun K1 k1 => sx_region ?_
 refine sx_box [.string pv, vt] rfl rfl rfl (fun b2 w3 eb2 sb2 fb2 cb2 => ?_)
 have zw3 := cb2.size
 refine sa rfl rfl rfl rfl ?_
 refine wl_nil (q_n (k1 _ _ ?_))
 refine sx_seq fun K4 k4 => sx_region ?_
 refine sa rfl rfl rfl rfl ?_
 refine wl_nil (q_n (k4 _ _ ?_))
 refine sx_seq fun K5 k5 => sx_region ?_
 refine sx_pure rfl rfl rfl (px_load rfl (fb2.loadA (vs := [.string pv, vt]) (look_lit rfl) Tryd.isAgg66 Tryd.sizeOf66)) ?_
 refine sm rfl rfl rfl rfl ?_
 have f6 := hvt0.ext cb2
 refine sx_call rfl rfl Tryd.call40 (c_szRates f6 (by omega) (by omega) (by assumption) (by omega)) (fun v7 w7 p7 => ?_)
 obtain ⟨r7, rfl, hr7, hzz7, c7⟩ := p7
 have zw7 := c7.size
 have hzs := hzz7
 refine sa rfl rfl rfl rfl ?_
 refine wl_nil (q_n (k5 _ _ ?_))
 refine sx_seq fun K8 k8 => ?_
 refine sx_seq fun K9 k9 => sx_region ?_
 refine sm rfl rfl rfl rfl ?_
 refine sx_pure rfl rfl rfl (px_lt rfl rfl) ?_
 refine wl_nil (q_n (k9 _ _ ?_))
 refine sx_condP rfl (fun h5417 => ?_) (fun h5417 => ?_)
 ·
  refine sx_seq fun K10 k10 => sx_region ?_
  refine sa rfl rfl rfl rfl ?_
  refine wl_nil (q_n (k10 _ _ ?_))
  refine sx_retc ?_
  refine q_r (sx_ret1 Tryd.results10 rfl ?_)
  exact ⟨rfl, (cb2.t c7)⟩
 ·
  refine sx_skip ?_
  refine q_n (k8 _ _ ?_)
  refine sx_seq fun K11 k11 => sx_region ?_
  have f12 := fb2.ext c7
  refine sx_pure rfl rfl rfl (px_load rfl (f12.loadA (vs := [.string pv, vt]) (look_lit rfl) Tryd.isAgg66 Tryd.sizeOf66)) ?_
  have f13 := f6.ext c7
  refine sx_call rfl rfl Tryd.call42 (c_toRates f13 (by omega) (hzs (by omega))) (fun v14 w14 p14 => ?_)
  obtain ⟨s14, us14, rfl, os_14, c14⟩ := p14
  have zw14 := c14.size
  refine sx_call rfl rfl Tryd.call41 (c_sRatesOk os_14 (by omega) (fun i hi => Nat.le_trans (hzs (by omega) i hi) (by omega))) (fun v15 w15 p15 => ?_)
  obtain ⟨rfl, c15⟩ := p15
  have zw15 := c15.size
  refine sa rfl rfl rfl rfl ?_
  refine wl_nil (q_n (k11 _ _ ?_))
  refine sx_seq fun K16 k16 => sx_region ?_
  have f17 := f12.ext c14
  have f18 := f17.ext c15
  refine sx_pure rfl rfl rfl (px_load rfl (f18.loadA (vs := [.string pv, vt]) (look_lit rfl) Tryd.isAgg66 Tryd.sizeOf66)) ?_
  have f19 := f13.ext c14
  have f20 := f19.ext c15
  refine sx_call rfl rfl Tryd.call42 (c_toRates f20 (by omega) (hzs (by omega))) (fun v21 w21 p21 => ?_)
  obtain ⟨s21, us21, rfl, os_21, c21⟩ := p21
  have zw21 := c21.size
  refine sx_alloc [.string (⟨#[]⟩), (.slice none 0 0)] rfl Tryd.zeroValue71 rfl (fun b22 w23 eb22 sb22 fb22 cb22 => ?_)
  have zw23 := cb22.size
  have f25 := os_21.ext cb22
  refine sx_store (vs := [.string pv, s21]) rfl rfl fb22 rfl Tryd.sizeOf71 (Nat.le_of_ble_eq_true rfl) (one_cons rfl (one_cons f25.one one_nil)) (fun w24 sw24 fw24 cw24 => ?_)
  have zw24 := cw24.size
  have gw24 : Blk w24 b22 [.string pv, s21] 71 := fw24
  refine wl_nil (q_n (k16 _ _ ?_))
  refine sx_sub (Sub.cons (t := 1) rfl (.cons (t := 2) rfl (.cons (t := 4) rfl (.cons (t := 5) rfl (.nil))))) ?_
  refine sx_seq fun K26 k26 => sx_region ?_
  refine sx_pure rfl rfl rfl (px_load rfl (gw24.loadA (vs := [.string pv, s21]) (look_lit rfl) Tryd.isAgg71 Tryd.sizeOf71)) ?_
  have f27 := hG0.ext cb2
  have f28 := f27.ext c7
  have f29 := f28.ext c14
  have f30 := f29.ext c15
  have f31 := f30.ext c21
  have f32 := f31.ext cb22
  have f33 := f32.chg cw24 (by omega)
  have f34 := f25.chg cw24 (by omega)
  refine sx_call rfl rfl Tryd.call43 (c_iRatesOk f33 f34 (by omega) (fun i hi => Nat.le_trans (hzs (by omega) i hi) (by omega))) (fun v35 w35 p35 => ?_)
  obtain ⟨rfl, c35⟩ := p35
  have zw35 := c35.size
  refine sa rfl rfl rfl rfl ?_
  refine wl_nil (q_n (k26 _ _ ?_))
  refine sx_seq fun K36 k36 => ?_
  refine sx_seq fun K37 k37 => sx_region ?_
  refine sm rfl rfl rfl rfl ?_
  refine sm rfl rfl rfl rfl ?_
  refine sx_pure rfl rfl rfl (px_neB Tryd.underlying4 rfl rfl) ?_
  refine wl_nil (q_n (k37 _ _ ?_))
  have h5423 : ((decide (RsOk pv ts)) != (decide (RsOk pv ts))) = false := by simp [mk_length]
  refine sx_condBF rfl h5423 ?_
  refine sx_skip ?_
  refine q_n (k36 _ _ ?_)
  refine sx_seq fun K38 k38 => ?_
  refine sx_seq fun K39 k39 => ?_
  have f40 := f33.ext c35
  have f41 := f18.ext c21
  have f42 := f41.ext cb22
  have f43 := f42.chg cw24 (by omega)
  have f44 := f43.ext c35
  have f45 := gw24.ext c35
  have f46 := f20.ext c21
  have f47 := f46.ext cb22
  have f48 := f47.chg cw24 (by omega)
  have f49 := f48.ext c35
  have f50 := os_14.ext c15
  have f51 := f50.ext c21
  have f52 := f51.ext cb22
  have f53 := f52.chg cw24 (by omega)
  have f54 := f53.ext c35
  have f55 := f34.ext c35
  refine dx_region (fun w' => Chg 0 0 w35 w') (by kernel_rfl) (Chg.zero (Chg.drew _)) ?_
  have d56 := Chg.drew w35
  have s56 : Chg 0 0 w35 (World.drew w35) := Chg.zero (Chg.drew _)
  have y56 : (World.drew w35).heap.size = w35.heap.size := rfl
  generalize World.drew w35 = w56 at *
  have zw56 := d56.size
  refine dx_take 0 rfl rfl rfl rfl (by kernel_rfl) (by kernel_rfl) (by kernel_rfl) s56 (fun _ hS => px_load rfl ((f45.chg hS (by omega)).loadA (vs := [.string pv, s21]) (look_lit rfl) Tryd.isAgg71 Tryd.sizeOf71)) ?_
  refine dx_take 1 rfl rfl rfl rfl (by kernel_rfl) (by kernel_rfl) (by kernel_rfl) s56 (fun _ hS => px_load rfl ((f44.chg hS (by omega)).loadA (vs := [.string pv, vt]) (look_lit rfl) Tryd.isAgg66 Tryd.sizeOf66)) ?_
  refine dx_eff 2 rfl (by kernel_rfl) ?_
  have f57 := f49.ext d56
  refine sx_call rfl rfl Tryd.call42 (c_toRates f57 (by omega) (hzs (by omega))) (fun v58 w58 p58 => ?_)
  obtain ⟨s58, us58, rfl, os_58, c58⟩ := p58
  have zw58 := c58.size
  have s59 : Chg 0 0 w35 w58 := (d56.t c58)
  refine wl_nil ?_
  refine dx_next s59 ?_
  refine dx_eff 3 rfl (by kernel_rfl) ?_
  have f60 := f55.ext d56
  have f61 := f60.ext c58
  refine sx_call rfl rfl Tryd.call44 (c_eqRates f61 os_58 (by omega) (hzs (by omega)) (hzs (by omega))) (fun v62 w62 p62 => ?_)
  obtain ⟨rfl, c62⟩ := p62
  have zw62 := c62.size
  have s63 : Chg 0 0 w35 w62 := ((d56.t c58).t c62)
  refine wl_nil ?_
  refine dx_next s63 ?_
  refine dx_take 4 rfl rfl rfl rfl (by kernel_rfl) (by kernel_rfl) (by kernel_rfl) s63 (fun _ hS => px_notP rfl) ?_
  refine dx_done (by kernel_rfl) ?_
  refine q_n (k39 _ _ ?_)
  refine sx_sub (Sub.cons (t := 2) rfl (.cons (t := 26) rfl (.nil))) ?_
  have h5426 : ¬ (¬ (pv = pv ∧ ts = ts)) := by simp [mk_length]
  refine sx_condPF rfl h5426 ?_
  refine sx_skip ?_
  refine q_n (k38 _ _ ?_)
  refine sx_seq fun K64 k64 => sx_region ?_
  refine sa rfl rfl rfl rfl ?_
  refine wl_nil (q_n (k64 _ _ ?_))
  refine sx_retc ?_
  refine sx_ret1 Tryd.results10 rfl ?_
  have q65 := Chg.step (l := 0) (h := 0) (Chg.zero (l := 0) (h := 0) (((((cb2.t c7).t c14).t c15).t c21).t cb22)) cw24 (by omega)
  have q66 := Chg.step (l := 0) (h := 0) q65 (((c35.t d56).t c58).t c62) (by omega)
  exact ⟨rfl, q66⟩

end Go.Proofs.YtomfgkfpihemlaaDoor
