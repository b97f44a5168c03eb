/- Contracts of functions of the program: what each call returns, and that it changes nothing that was. Conditions: as each says. -/
import Derived.Test.YtcghgfmickgnkaaGreatDoorTy
import Derived.Test.YtcghgfmickgnkaaGreatDoorNatN
import Derived.Test.YtcghgfmickgnkaaGreatDoorSxD
import Derived.Test.YtcghgfmickgnkaaGreatDoorPair
import Derived.Test.YtcghgfmickgnkaaGreatDoorRm
import Derived.Test.YtcghgfmickgnkaaGreatDoorK0
import Derived.Test.YtcghgfmickgnkaaGreatDoorK1
import Derived.Test.YtcghgfmickgnkaaGreatDoorK3
import Derived.Test.YtcghgfmickgnkaaGreatDoorK4
set_option linter.unusedVariables false
set_option linter.unusedSimpArgs false
namespace Go.Proofs.YtcghgfmickgnkaaGreatDoor
open Go Go.RowKit
set_option maxRecDepth 100000
set_option maxHeartbeats 1000000
theorem law_RateOf {w : World} {pv : ByteArray} {vt : Value} {lvt uvt : Nat} {ts : List Rt} {vvt : List Value} {a : ByteArray} {b : ByteArray} (hG0 : Glob w) (hvt : RtS w lvt uvt vt ts vvt) (bpv : pv.size ≤ 9223372036854775807) (bts : ts.length ≤ 9223372036854775807) (hb : ∀ i, i < ts.length → RB (ts.getD i rt0)) (ba : a.size ≤ 9223372036854775807) (bb : b.size ≤ 9223372036854775807) :
  Ret Tryz.prog 3 [.agg #[.string pv, vt], .string a, .string b] w fun v w' => v = .bool (true) ∧ Chg 0 0 w w' := by
 have hvt0 := hvt.fit
 have hG0l : 0 < w.heap.size := by obtain ⟨T, fz, h1⟩ := hG0; rcases Nat.lt_or_ge 0 w.heap.size with h2 | h2; exact h2; simp [Array.getElem?_eq_none h2] at h1
 refine sx_enter Tryz.func3 rfl Tryz.ntmps3 (Nat.le_of_ble_eq_true rfl) ?_
 refine sx_seq fun K1 k1 => sx_region ?_
 refine sx_box [.string pv, vt] rfl rfl rfl (fun b2 w3 eb2 sb2 fb2 cb2 => ?_)
 have zw3 := cb2.size
 refine sa rfl rfl rfl rfl ?_
 refine wl_nil (q_n (k1 _ _ ?_))
 refine sx_seq fun K4 k4 => ?_
 refine sx_seq fun K5 k5 => sx_region ?_
 refine sm rfl rfl rfl rfl ?_
 refine sx_pure rfl rfl rfl (px_lenS rfl Tryz.underlying9) ?_
 refine sx_pure rfl rfl rfl (px_gt rfl rfl) ?_
 refine wl_nil (q_n (k5 _ _ ?_))
 refine sx_condP rfl (fun h5514 => ?_) (fun h5514 => ?_)
 ·
  refine sx_seq fun K6 k6 => sx_region ?_
  refine sa rfl rfl rfl rfl ?_
  refine wl_nil (q_n (k6 _ _ ?_))
  refine sx_retc ?_
  refine q_r (sx_ret1 Tryz.results3 rfl ?_)
  exact ⟨rfl, cb2⟩
 ·
  refine sx_skip ?_
  refine q_n (k4 _ _ ?_)
  refine sx_seq fun K7 k7 => ?_
  refine sx_seq fun K8 k8 => sx_region ?_
  refine sm rfl rfl rfl rfl ?_
  refine sx_pure rfl rfl rfl (px_lenS rfl Tryz.underlying9) ?_
  refine sx_pure rfl rfl rfl (px_gt rfl rfl) ?_
  refine wl_nil (q_n (k8 _ _ ?_))
  refine sx_condP rfl (fun h5517 => ?_) (fun h5517 => ?_)
  ·
   refine sx_seq fun K9 k9 => sx_region ?_
   refine sa rfl rfl rfl rfl ?_
   refine wl_nil (q_n (k9 _ _ ?_))
   refine sx_retc ?_
   refine q_r (sx_ret1 Tryz.results3 rfl ?_)
   exact ⟨rfl, cb2⟩
  ·
   refine sx_skip ?_
   refine q_n (k7 _ _ ?_)
   refine sx_seq fun K10 k10 => sx_region ?_
   refine sa rfl rfl rfl rfl ?_
   refine wl_nil (q_n (k10 _ _ ?_))
   refine sx_seq fun K11 k11 => sx_region ?_
   refine sx_pure rfl rfl rfl (px_load rfl (fb2.loadA (vs := [.string pv, vt]) (look_lit rfl) Tryz.isAgg24 Tryz.sizeOf24)) ?_
   refine sm rfl rfl rfl rfl ?_
   have f12 := hvt0.ext cb2
   refine sx_call rfl rfl Tryz.call7 (c_szRates f12 (by omega) (by omega) (by assumption) (by omega)) (fun v13 w13 p13 => ?_)
   obtain ⟨r13, rfl, hr13, hzz13, c13⟩ := p13
   have zw13 := c13.size
   have hzs := hzz13
   refine sa rfl rfl rfl rfl ?_
   refine wl_nil (q_n (k11 _ _ ?_))
   refine sx_sub (Sub.cons (t := 1) rfl (.cons (t := 2) rfl (.cons (t := 3) rfl (.cons (t := 6) rfl (.cons (t := 7) rfl (.nil)))))) ?_
   refine sx_seq fun K14 k14 => ?_
   refine sx_seq fun K15 k15 => sx_region ?_
   refine sm rfl rfl rfl rfl ?_
   refine sx_pure rfl rfl rfl (px_lt rfl rfl) ?_
   refine wl_nil (q_n (k15 _ _ ?_))
   refine sx_condP rfl (fun h5522 => ?_) (fun h5522 => ?_)
   ·
    refine sx_seq fun K16 k16 => sx_region ?_
    refine sa rfl rfl rfl rfl ?_
    refine wl_nil (q_n (k16 _ _ ?_))
    refine sx_retc ?_
    refine q_r (sx_ret1 Tryz.results3 rfl ?_)
    exact ⟨rfl, (cb2.t c13)⟩
   ·
    replace hr13 := hr13.resolve_left h5522
    refine sx_skip ?_
    refine q_n (k14 _ _ ?_)
    refine sx_seq fun K17 k17 => sx_region ?_
    have f18 := fb2.ext c13
    refine sx_pure rfl rfl rfl (px_load rfl (f18.loadA (vs := [.string pv, vt]) (look_lit rfl) Tryz.isAgg24 Tryz.sizeOf24)) ?_
    have f19 := f12.ext c13
    refine sx_call rfl rfl Tryz.call9 (c_toRates f19 (by omega) (hzs (by omega))) (fun v20 w20 p20 => ?_)
    obtain ⟨s20, us20, rfl, os_20, c20⟩ := p20
    have zw20 := c20.size
    refine sm rfl rfl rfl rfl ?_
    refine sm rfl rfl rfl rfl ?_
    refine sx_call rfl rfl Tryz.call8 (c_sRateOf (os_20).toS (by omega) (fun i hi => Nat.le_trans (hzs (by omega) i hi) (by omega))) (fun v21 w21 p21 => ?_)
    obtain ⟨s21, t21, ls21, us21, lt21, ut21, rfl, os_21, ot_21, hd21, hl21, c21⟩ := p21
    have zw21 := c21.size
    refine sm rfl rfl rfl rfl ?_
    refine sx_pure rfl rfl rfl (px_extract (vs := [.agg #[.bool ((rOf pv ts a b).1), s21, t21], .bool ((rOf pv ts a b).2.2.2)]) rfl rfl) ?_
    refine sx_pure rfl rfl rfl (px_extract (vs := [.agg #[.bool ((rOf pv ts a b).1), s21, t21], .bool ((rOf pv ts a b).2.2.2)]) rfl rfl) ?_
    refine sx_alloc [.bool false, (.slice none 0 0), (.slice none 0 0)] rfl Tryz.zeroValue30 rfl (fun b22 w23 eb22 sb22 fb22 cb22 => ?_)
    have zw23 := cb22.size
    have f25 := ot_21.ext cb22
    have f26 := os_21.ext cb22
    refine sx_store (vs := [.bool ((rOf pv ts a b).1), s21, t21]) rfl rfl fb22 rfl Tryz.sizeOf30 (Nat.le_of_ble_eq_true rfl) (one_cons rfl (one_cons f26.one (one_cons f25.one one_nil))) (fun w24 sw24 fw24 cw24 => ?_)
    have zw24 := cw24.size
    have gw24 : Blk w24 b22 [.bool ((rOf pv ts a b).1), s21, t21] 30 := fw24
    refine sa rfl rfl rfl rfl ?_
    refine wl_nil (q_n (k17 _ _ ?_))
    refine sx_sub (Sub.cons (t := 1) rfl (.cons (t := 2) rfl (.cons (t := 3) rfl (.cons (t := 6) rfl (.cons (t := 8) rfl (.cons (t := 9) rfl (.nil))))))) ?_
    refine sx_seq fun K27 k27 => sx_region ?_
    have f28 := f18.ext c20
    have f29 := f28.ext c21
    have f30 := f29.ext cb22
    have f31 := f30.chg cw24 (by omega)
    refine sx_pure rfl rfl rfl (px_load rfl (f31.loadA (vs := [.string pv, vt]) (look_lit rfl) Tryz.isAgg24 Tryz.sizeOf24)) ?_
    have f32 := f19.ext c20
    have f33 := f32.ext c21
    have f34 := f33.ext cb22
    have f35 := f34.chg cw24 (by omega)
    refine sx_call rfl rfl Tryz.call9 (c_toRates f35 (by omega) (hzs (by omega))) (fun v36 w36 p36 => ?_)
    obtain ⟨s36, us36, rfl, os_36, c36⟩ := p36
    have zw36 := c36.size
    refine sx_alloc [.string (⟨#[]⟩), (.slice none 0 0)] rfl Tryz.zeroValue35 rfl (fun b37 w38 eb37 sb37 fb37 cb37 => ?_)
    have zw38 := cb37.size
    have f40 := os_36.ext cb37
    refine sx_store (vs := [.string pv, s36]) rfl rfl fb37 rfl Tryz.sizeOf35 (Nat.le_of_ble_eq_true rfl) (one_cons rfl (one_cons (f40).toS.one one_nil)) (fun w39 sw39 fw39 cw39 => ?_)
    have zw39 := cw39.size
    have gw39 : Blk w39 b37 [.string pv, s36] 35 := fw39
    refine wl_nil (q_n (k27 _ _ ?_))
    refine sx_seq fun K41 k41 => sx_region ?_
    refine sx_pure rfl rfl rfl (px_load rfl (gw39.loadA (vs := [.string pv, s36]) (look_lit rfl) Tryz.isAgg35 Tryz.sizeOf35)) ?_
    refine sm rfl rfl rfl rfl ?_
    refine sm rfl rfl rfl rfl ?_
    have f42 := hG0.ext cb2
    have f43 := f42.ext c13
    have f44 := f43.ext c20
    have f45 := f44.ext c21
    have f46 := f45.ext cb22
    have f47 := f46.chg cw24 (by omega)
    have f48 := f47.ext c36
    have f49 := f48.ext cb37
    have f50 := f49.chg cw39 (by omega)
    have f51 := f40.chg cw39 (by omega)
    refine sx_call rfl rfl Tryz.call10 (c_iRateOf f50 (f51).toS (by omega) (fun i hi => Nat.le_trans (hzs (by omega) i hi) (by omega))) (fun v52 w52 p52 => ?_)
    obtain ⟨s52, t52, ls52, us52, lt52, ut52, rfl, os_52, ot_52, hd52, hl52, c52⟩ := p52
    have zw52 := c52.size
    refine sm rfl rfl rfl rfl ?_
    refine sx_pure rfl rfl rfl (px_extract (vs := [.agg #[.bool ((rOf pv ts a b).1), s52, t52], .bool ((rOf pv ts a b).2.2.2)]) rfl rfl) ?_
    refine sx_pure rfl rfl rfl (px_extract (vs := [.agg #[.bool ((rOf pv ts a b).1), s52, t52], .bool ((rOf pv ts a b).2.2.2)]) rfl rfl) ?_
    refine sx_alloc [.bool false, (.slice none 0 0), (.slice none 0 0)] rfl Tryz.zeroValue30 rfl (fun b53 w54 eb53 sb53 fb53 cb53 => ?_)
    have zw54 := cb53.size
    have f56 := ot_52.ext cb53
    have f57 := os_52.ext cb53
    refine sx_store (vs := [.bool ((rOf pv ts a b).1), s52, t52]) rfl rfl fb53 rfl Tryz.sizeOf30 (Nat.le_of_ble_eq_true rfl) (one_cons rfl (one_cons f57.one (one_cons f56.one one_nil))) (fun w55 sw55 fw55 cw55 => ?_)
    have zw55 := cw55.size
    have gw55 : Blk w55 b53 [.bool ((rOf pv ts a b).1), s52, t52] 30 := fw55
    refine sa rfl rfl rfl rfl ?_
    refine wl_nil (q_n (k41 _ _ ?_))
    refine sx_sub (Sub.cons (t := 1) rfl (.cons (t := 2) rfl (.cons (t := 3) rfl (.cons (t := 6) rfl (.cons (t := 8) rfl (.cons (t := 9) rfl (.cons (t := 10) rfl (.cons (t := 11) rfl (.cons (t := 12) rfl (.nil)))))))))) ?_
    refine sx_seq fun K58 k58 => ?_
    refine sx_seq fun K59 k59 => sx_region ?_
    refine sx_pure rfl rfl rfl (px_load rfl (gw55.loadA (vs := [.bool ((rOf pv ts a b).1), s52, t52]) (look_lit rfl) Tryz.isAgg30 Tryz.sizeOf30)) ?_
    have f60 := gw24.ext c36
    have f61 := f60.ext cb37
    have f62 := f61.chg cw39 (by omega)
    have f63 := f62.ext c52
    have f64 := f63.ext cb53
    have f65 := f64.chg cw55 (by omega)
    refine sx_pure rfl rfl rfl (px_load rfl (f65.loadA (vs := [.bool ((rOf pv ts a b).1), s21, t21]) (look_lit rfl) Tryz.isAgg30 Tryz.sizeOf30)) ?_
    have f66 := f57.chg cw55 (by omega)
    have f67 := f56.chg cw55 (by omega)
    have f68 := f26.chg cw24 (by omega)
    have f69 := f68.ext c36
    have f70 := f69.ext cb37
    have f71 := f70.chg cw39 (by omega)
    have f72 := f71.ext c52
    have f73 := f72.ext cb53
    have f74 := f73.chg cw55 (by omega)
    have f75 := f25.chg cw24 (by omega)
    have f76 := f75.ext c36
    have f77 := f76.ext cb37
    have f78 := f77.chg cw39 (by omega)
    have f79 := f78.ext c52
    have f80 := f79.ext cb53
    have f81 := f80.chg cw55 (by omega)
    refine sx_call rfl rfl Tryz.call11 (c_eqRat f66.sv f67.sv f74.sv f81.sv (by omega)) (fun v82 w82 p82 => ?_)
    obtain ⟨rfl, c82⟩ := p82
    have zw82 := c82.size
    refine sx_pure rfl rfl rfl (px_notP rfl) ?_
    refine sm rfl rfl rfl rfl ?_
    have h5528 : ¬ (¬ (((rOf pv ts a b).1) = ((rOf pv ts a b).1) ∧ ((rOf pv ts a b).2.1) = ((rOf pv ts a b).2.1) ∧ ((rOf pv ts a b).2.2.1) = ((rOf pv ts a b).2.2.1))) := by simp [mk_length]
    refine sx_tmpPF (t := 50) rfl h5528 ?_
    refine sx_guardT rfl rfl rfl ?_
    refine sm rfl rfl rfl rfl ?_
    refine sx_guardT rfl rfl rfl ?_
    refine sm rfl rfl rfl rfl ?_
    refine sx_guardT rfl rfl rfl ?_
    refine sx_pure rfl rfl rfl (px_neB Tryz.underlying4 rfl rfl) ?_
    refine sx_pure rfl rfl rfl (px_pick rfl rfl) ?_
    refine wl_nil (q_n (k59 _ _ ?_))
    refine sx_sub (Sub.cons (t := 1) rfl (.cons (t := 2) rfl (.cons (t := 3) rfl (.cons (t := 6) rfl (.cons (t := 8) rfl (.cons (t := 9) rfl (.cons (t := 10) rfl (.cons (t := 11) rfl (.cons (t := 12) rfl (.cons (t := 54) rfl (.nil))))))))))) ?_
    have h5528x1 : (((rOf pv ts a b).2.2.2) != ((rOf pv ts a b).2.2.2)) = false := by simp [mk_length]
    refine sx_condBF rfl h5528x1 ?_
    refine sx_skip ?_
    refine q_n (k58 _ _ ?_)
    refine sx_seq fun K83 k83 => ?_
    refine sx_seq fun K84 k84 => ?_
    have f85 := f50.ext c52
    have f86 := f85.ext cb53
    have f87 := f86.chg cw55 (by omega)
    have f88 := f87.ext c82
    have f89 := f31.ext c36
    have f90 := f89.ext cb37
    have f91 := f90.chg cw39 (by omega)
    have f92 := f91.ext c52
    have f93 := f92.ext cb53
    have f94 := f93.chg cw55 (by omega)
    have f95 := f94.ext c82
    have f96 := f65.ext c82
    have f97 := gw39.ext c52
    have f98 := f97.ext cb53
    have f99 := f98.chg cw55 (by omega)
    have f100 := f99.ext c82
    have f101 := gw55.ext c82
    have f102 := f35.ext c36
    have f103 := f102.ext cb37
    have f104 := f103.chg cw39 (by omega)
    have f105 := f104.ext c52
    have f106 := f105.ext cb53
    have f107 := f106.chg cw55 (by omega)
    have f108 := f107.ext c82
    have f109 := os_20.ext c21
    have f110 := f109.ext cb22
    have f111 := f110.chg cw24 (by omega)
    have f112 := f111.ext c36
    have f113 := f112.ext cb37
    have f114 := f113.chg cw39 (by omega)
    have f115 := f114.ext c52
    have f116 := f115.ext cb53
    have f117 := f116.chg cw55 (by omega)
    have f118 := f117.ext c82
    have f119 := f74.ext c82
    have f120 := f81.ext c82
    have f121 := f51.ext c52
    have f122 := f121.ext cb53
    have f123 := f122.chg cw55 (by omega)
    have f124 := f123.ext c82
    have f125 := f66.ext c82
    have f126 := f67.ext c82
    refine dx_region (fun w' => Chg 0 0 w82 w') (by kernel_rfl) (Chg.zero (Chg.drew _)) ?_
    have d127 := Chg.drew w82
    have s127 : Chg 0 0 w82 (World.drew w82) := Chg.zero (Chg.drew _)
    have y127 : (World.drew w82).heap.size = w82.heap.size := rfl
    generalize World.drew w82 = w127 at *
    have zw127 := d127.size
    refine dx_take 0 rfl rfl rfl rfl (by kernel_rfl) (by kernel_rfl) (by kernel_rfl) s127 (fun _ hS => px_load rfl ((f100.chg hS (by omega)).loadA (vs := [.string pv, s36]) (look_lit rfl) Tryz.isAgg35 Tryz.sizeOf35)) ?_
    refine dx_take 1 rfl rfl rfl rfl (by kernel_rfl) (by kernel_rfl) (by kernel_rfl) s127 (fun _ hS => px_load rfl ((f95.chg hS (by omega)).loadA (vs := [.string pv, vt]) (look_lit rfl) Tryz.isAgg24 Tryz.sizeOf24)) ?_
    refine dx_eff 2 rfl (by kernel_rfl) ?_
    have f128 := f108.ext d127
    refine sx_call rfl rfl Tryz.call9 (c_toRates f128 (by omega) (hzs (by omega))) (fun v129 w129 p129 => ?_)
    obtain ⟨s129, us129, rfl, os_129, c129⟩ := p129
    have zw129 := c129.size
    have s130 : Chg 0 0 w82 w129 := (d127.t c129)
    refine wl_nil ?_
    refine dx_next s130 ?_
    refine dx_eff 3 rfl (by kernel_rfl) ?_
    have f131 := f124.ext d127
    have f132 := f131.ext c129
    refine sx_call rfl rfl Tryz.call12 (c_eqRates (f132).toS (os_129).toS (by omega) (hzs (by omega)) (hzs (by omega))) (fun v133 w133 p133 => ?_)
    obtain ⟨rfl, c133⟩ := p133
    have zw133 := c133.size
    have s134 : Chg 0 0 w82 w133 := ((d127.t c129).t c133)
    refine wl_nil ?_
    refine dx_next s134 ?_
    refine dx_take 4 rfl rfl rfl rfl (by kernel_rfl) (by kernel_rfl) (by kernel_rfl) s134 (fun _ hS => px_notP rfl) ?_
    refine dx_done (by kernel_rfl) ?_
    refine q_n (k84 _ _ ?_)
    refine sx_sub (Sub.cons (t := 1) rfl (.cons (t := 2) rfl (.cons (t := 3) rfl (.cons (t := 6) rfl (.cons (t := 8) rfl (.cons (t := 9) rfl (.cons (t := 10) rfl (.cons (t := 11) rfl (.cons (t := 12) rfl (.cons (t := 59) rfl (.nil))))))))))) ?_
    have h5531 : ¬ (¬ (pv = pv ∧ ts = ts)) := by simp [mk_length]
    refine sx_condPF rfl h5531 ?_
    refine sx_skip ?_
    refine q_n (k83 _ _ ?_)
    refine sx_seq fun K135 k135 => sx_region ?_
    refine sa rfl rfl rfl rfl ?_
    refine wl_nil (q_n (k135 _ _ ?_))
    refine sx_seq fun K136 k136 => sx_region ?_
    have f137 := f100.ext d127
    have f138 := f137.ext c129
    have f139 := f138.ext c133
    refine sx_pure rfl rfl rfl (px_load rfl (f139.loadA (vs := [.string pv, s36]) (look_lit rfl) Tryz.isAgg35 Tryz.sizeOf35)) ?_
    refine sm rfl rfl rfl rfl ?_
    have f140 := f132.ext c133
    refine sx_call rfl rfl Tryz.call13 (c_markRates f140 (by omega) (hzs (by omega)) (by omega) (by omega)) (fun v141 w141 p141 => ?_)
    obtain ⟨ks141, rfl, hk141, c141⟩ := p141
    have zw141 := c141.size
    refine sa rfl rfl rfl rfl ?_
    refine wl_nil (q_n (k136 _ _ ?_))
    refine sx_seq fun K142 k142 => ?_
    refine sx_seq fun K143 k143 => sx_region ?_
    refine sm rfl rfl rfl rfl ?_
    refine sx_pure rfl rfl rfl (px_lt rfl rfl) ?_
    refine sm rfl rfl rfl rfl ?_
    have h5536 : ¬ (((1 : Int) + ↑((ks141 : List Int)).length : Int) < 0) := by omega
    refine sx_tmpPF (t := 65) rfl h5536 ?_
    refine sx_guardT rfl rfl rfl ?_
    have f144 := f101.ext d127
    have f145 := f144.ext c129
    have f146 := f145.ext c133
    have f147 := f146.chg c141 (by omega)
    refine sx_pure rfl rfl rfl (px_load rfl (f147.loadA (vs := [.bool ((rOf pv ts a b).1), s52, t52]) (look_lit rfl) Tryz.isAgg30 Tryz.sizeOf30)) ?_
    refine sx_guardT rfl rfl rfl ?_
    have f148 := f96.ext d127
    have f149 := f148.ext c129
    have f150 := f149.ext c133
    have f151 := f150.chg c141 (by omega)
    refine sx_pure rfl rfl rfl (px_load rfl (f151.loadA (vs := [.bool ((rOf pv ts a b).1), s21, t21]) (look_lit rfl) Tryz.isAgg30 Tryz.sizeOf30)) ?_
    refine sx_guardT rfl rfl rfl ?_
    have f152 := f125.ext d127
    have f153 := f152.ext c129
    have f154 := f153.ext c133
    have f155 := f154.chg c141 (by omega)
    have f156 := f126.ext d127
    have f157 := f156.ext c129
    have f158 := f157.ext c133
    have f159 := f158.chg c141 (by omega)
    have f160 := f119.ext d127
    have f161 := f160.ext c129
    have f162 := f161.ext c133
    have f163 := f162.chg c141 (by omega)
    have f164 := f120.ext d127
    have f165 := f164.ext c129
    have f166 := f165.ext c133
    have f167 := f166.chg c141 (by omega)
    refine sx_call rfl rfl Tryz.call11 (c_eqRat f155.sv f159.sv f163.sv f167.sv (by omega)) (fun v168 w168 p168 => ?_)
    obtain ⟨rfl, c168⟩ := p168
    have zw168 := c168.size
    refine sx_guardT rfl rfl rfl ?_
    refine sx_pure rfl rfl rfl (px_notP rfl) ?_
    refine sx_pure rfl rfl rfl (px_pick rfl rfl) ?_
    refine sm rfl rfl rfl rfl ?_
    have h5536x1 : ¬ (¬ (((rOf pv ts a b).1) = ((rOf pv ts a b).1) ∧ ((rOf pv ts a b).2.1) = ((rOf pv ts a b).2.1) ∧ ((rOf pv ts a b).2.2.1) = ((rOf pv ts a b).2.2.1))) := by simp [mk_length]
    refine sx_tmpPF (t := 71) rfl h5536x1 ?_
    refine sx_guardT rfl rfl rfl ?_
    refine sm rfl rfl rfl rfl ?_
    refine sx_guardT rfl rfl rfl ?_
    refine sm rfl rfl rfl rfl ?_
    refine sx_guardT rfl rfl rfl ?_
    refine sx_pure rfl rfl rfl (px_neB Tryz.underlying4 rfl rfl) ?_
    refine sx_pure rfl rfl rfl (px_pick rfl rfl) ?_
    refine wl_nil (q_n (k143 _ _ ?_))
    refine sx_sub (Sub.cons (t := 1) rfl (.cons (t := 2) rfl (.cons (t := 3) rfl (.cons (t := 6) rfl (.cons (t := 8) rfl (.cons (t := 9) rfl (.cons (t := 11) rfl (.cons (t := 75) rfl (.nil))))))))) ?_
    have h5536x2 : (((rOf pv ts a b).2.2.2) != ((rOf pv ts a b).2.2.2)) = false := by simp [mk_length]
    refine sx_condBF rfl h5536x2 ?_
    refine sx_skip ?_
    refine q_n (k142 _ _ ?_)
    refine sx_seq fun K169 k169 => sx_region ?_
    refine sa rfl rfl rfl rfl ?_
    refine wl_nil (q_n (k169 _ _ ?_))
    refine sx_seq fun K170 k170 => sx_region ?_
    have f171 := f147.ext c168
    refine sx_pure rfl rfl rfl (px_load rfl (f171.loadA (vs := [.bool ((rOf pv ts a b).1), s52, t52]) (look_lit rfl) Tryz.isAgg30 Tryz.sizeOf30)) ?_
    refine sm rfl rfl rfl rfl ?_
    have f172 := f155.ext c168
    have f173 := f159.ext c168
    refine sx_call rfl rfl Tryz.call14 (c_markRat f172 f173 (by omega) (by first | omega | (simp only [mk_length]; omega)) (by omega)) (fun v174 w174 p174 => ?_)
    obtain ⟨rfl, ov1_174, od1_174, c174⟩ := p174
    have zw174 := c174.size
    refine sa rfl rfl rfl rfl ?_
    refine wl_nil (q_n (k170 _ _ ?_))
    refine sx_seq fun K175 k175 => sx_region ?_
    refine sa rfl rfl rfl rfl ?_
    refine wl_nil (q_n (k175 _ _ ?_))
    refine sx_seq fun K176 k176 => sx_region ?_
    have f177 := f171.chg c174 (by omega)
    refine sx_pure rfl rfl rfl (px_load rfl (f177.loadA (vs := [.bool ((rOf pv ts a b).1), s52, t52]) (look_lit rfl) Tryz.isAgg30 Tryz.sizeOf30)) ?_
    refine sm rfl rfl rfl rfl ?_
    refine sx_call rfl rfl Tryz.call15 (c_heldRat ov1_174.sv od1_174.sv (by first | omega | (simp only [mk_length]; omega)) (by first | omega | (simp only [mk_length]; omega)) (by simp [mk_length])) (fun v178 w178 p178 => ?_)
    obtain ⟨rfl, c178⟩ := p178
    have zw178 := c178.size
    refine sa rfl rfl rfl rfl ?_
    refine wl_nil (q_n (k176 _ _ ?_))
    refine sx_sub (Sub.cons (t := 1) rfl (.cons (t := 2) rfl (.cons (t := 3) rfl (.cons (t := 6) rfl (.cons (t := 8) rfl (.cons (t := 9) rfl (.cons (t := 11) rfl (.cons (t := 14) rfl (.cons (t := 15) rfl (.nil)))))))))) ?_
    refine sx_seq fun K179 k179 => ?_
    refine sx_seq fun K180 k180 => sx_region ?_
    refine sm rfl rfl rfl rfl ?_
    refine sx_pure rfl rfl rfl (px_lt rfl rfl) ?_
    refine wl_nil (q_n (k180 _ _ ?_))
    have h5543 : ¬ (((1 : Int) + ↑((mk (1 : Int) (((rOf pv ts a b).2.1)).length)).length + ↑((mk ((1 : Int) + ↑(((rOf pv ts a b).2.1)).length) (((rOf pv ts a b).2.2.1)).length)).length : Int) < 0) := by omega
    refine sx_condPF rfl h5543 ?_
    refine sx_skip ?_
    refine q_n (k179 _ _ ?_)
    refine sx_seq fun K181 k181 => ?_
    refine sx_seq fun K182 k182 => sx_region ?_
    refine sm rfl rfl rfl rfl ?_
    refine sm rfl rfl rfl rfl ?_
    refine sx_pure rfl rfl rfl (px_ne rfl rfl) ?_
    refine wl_nil (q_n (k182 _ _ ?_))
    have h5546 : ¬ (((1 : Int) + ↑((mk (1 : Int) (((rOf pv ts a b).2.1)).length)).length + ↑((mk ((1 : Int) + ↑(((rOf pv ts a b).2.1)).length) (((rOf pv ts a b).2.2.1)).length)).length : Int) ≠ (1 : Int) + ↑(((rOf pv ts a b).2.1)).length + ↑(((rOf pv ts a b).2.2.1)).length) := by simp [mk_length]
    refine sx_condPF rfl h5546 ?_
    refine sx_skip ?_
    refine q_n (k181 _ _ ?_)
    refine sx_seq fun K183 k183 => sx_region ?_
    have f184 := f95.ext d127
    have f185 := f184.ext c129
    have f186 := f185.ext c133
    have f187 := f186.chg c141 (by omega)
    have f188 := f187.ext c168
    have f189 := f188.chg c174 (by omega)
    have f190 := f189.ext c178
    refine sx_pure rfl rfl rfl (px_load rfl (f190.loadA (vs := [.string pv, vt]) (look_lit rfl) Tryz.isAgg24 Tryz.sizeOf24)) ?_
    have f191 := f128.ext c129
    have f192 := f191.ext c133
    have f193 := f192.chg c141 (by omega)
    have f194 := f193.ext c168
    have f195 := f194.chg c174 (by omega)
    have f196 := f195.ext c178
    refine sx_call rfl rfl Tryz.call9 (c_toRates f196 (by omega) (hzs (by omega))) (fun v197 w197 p197 => ?_)
    obtain ⟨s197, us197, rfl, os_197, c197⟩ := p197
    have zw197 := c197.size
    refine sm rfl rfl rfl rfl ?_
    refine sm rfl rfl rfl rfl ?_
    have f198 := f88.ext d127
    have f199 := f198.ext c129
    have f200 := f199.ext c133
    have f201 := f200.chg c141 (by omega)
    have f202 := f201.ext c168
    have f203 := f202.chg c174 (by omega)
    have f204 := f203.ext c178
    have f205 := f204.ext c197
    refine sx_call rfl rfl Tryz.call10 (c_iRateOf f205 (os_197).toS (by omega) (fun i hi => Nat.le_trans (hzs (by omega) i hi) (by omega))) (fun v206 w206 p206 => ?_)
    obtain ⟨s206, t206, ls206, us206, lt206, ut206, rfl, os_206, ot_206, hd206, hl206, c206⟩ := p206
    have zw206 := c206.size
    refine sm rfl rfl rfl rfl ?_
    refine sx_pure rfl rfl rfl (px_extract (vs := [.agg #[.bool ((rOf pv ts a b).1), s206, t206], .bool ((rOf pv ts a b).2.2.2)]) rfl rfl) ?_
    refine sx_pure rfl rfl rfl (px_extract (vs := [.agg #[.bool ((rOf pv ts a b).1), s206, t206], .bool ((rOf pv ts a b).2.2.2)]) rfl rfl) ?_
    refine sx_alloc [.bool false, (.slice none 0 0), (.slice none 0 0)] rfl Tryz.zeroValue30 rfl (fun b207 w208 eb207 sb207 fb207 cb207 => ?_)
    have zw208 := cb207.size
    have f210 := ot_206.ext cb207
    have f211 := os_206.ext cb207
    refine sx_store (vs := [.bool ((rOf pv ts a b).1), s206, t206]) rfl rfl fb207 rfl Tryz.sizeOf30 (Nat.le_of_ble_eq_true rfl) (one_cons rfl (one_cons f211.one (one_cons f210.one one_nil))) (fun w209 sw209 fw209 cw209 => ?_)
    have zw209 := cw209.size
    have gw209 : Blk w209 b207 [.bool ((rOf pv ts a b).1), s206, t206] 30 := fw209
    refine sa rfl rfl rfl rfl ?_
    refine wl_nil (q_n (k183 _ _ ?_))
    refine sx_sub (Sub.cons (t := 6) rfl (.cons (t := 8) rfl (.cons (t := 9) rfl (.cons (t := 11) rfl (.cons (t := 14) rfl (.cons (t := 15) rfl (.cons (t := 16) rfl (.cons (t := 17) rfl (.nil))))))))) ?_
    refine sx_seq fun K212 k212 => ?_
    refine sx_seq fun K213 k213 => sx_region ?_
    refine sx_pure rfl rfl rfl (px_load rfl (gw209.loadA (vs := [.bool ((rOf pv ts a b).1), s206, t206]) (look_lit rfl) Tryz.isAgg30 Tryz.sizeOf30)) ?_
    have f214 := f151.ext c168
    have f215 := f214.chg c174 (by omega)
    have f216 := f215.ext c178
    have f217 := f216.ext c197
    have f218 := f217.ext c206
    have f219 := f218.ext cb207
    have f220 := f219.chg cw209 (by omega)
    refine sx_pure rfl rfl rfl (px_load rfl (f220.loadA (vs := [.bool ((rOf pv ts a b).1), s21, t21]) (look_lit rfl) Tryz.isAgg30 Tryz.sizeOf30)) ?_
    have f221 := f211.chg cw209 (by omega)
    have f222 := f210.chg cw209 (by omega)
    have f223 := f163.ext c168
    have f224 := f223.chg c174 (by omega)
    have f225 := f224.ext c178
    have f226 := f225.ext c197
    have f227 := f226.ext c206
    have f228 := f227.ext cb207
    have f229 := f228.chg cw209 (by omega)
    have f230 := f167.ext c168
    have f231 := f230.chg c174 (by omega)
    have f232 := f231.ext c178
    have f233 := f232.ext c197
    have f234 := f233.ext c206
    have f235 := f234.ext cb207
    have f236 := f235.chg cw209 (by omega)
    refine sx_call rfl rfl Tryz.call11 (c_eqRat f221.sv f222.sv f229.sv f236.sv (by omega)) (fun v237 w237 p237 => ?_)
    obtain ⟨rfl, c237⟩ := p237
    have zw237 := c237.size
    refine sx_pure rfl rfl rfl (px_notP rfl) ?_
    refine sm rfl rfl rfl rfl ?_
    have h5550 : ¬ (¬ (((rOf pv ts a b).1) = ((rOf pv ts a b).1) ∧ ((rOf pv ts a b).2.1) = ((rOf pv ts a b).2.1) ∧ ((rOf pv ts a b).2.2.1) = ((rOf pv ts a b).2.2.1))) := by simp [mk_length]
    refine sx_tmpPF (t := 99) rfl h5550 ?_
    refine sx_guardT rfl rfl rfl ?_
    refine sm rfl rfl rfl rfl ?_
    refine sx_guardT rfl rfl rfl ?_
    refine sm rfl rfl rfl rfl ?_
    refine sx_guardT rfl rfl rfl ?_
    refine sx_pure rfl rfl rfl (px_neB Tryz.underlying4 rfl rfl) ?_
    refine sx_pure rfl rfl rfl (px_pick rfl rfl) ?_
    refine wl_nil (q_n (k213 _ _ ?_))
    refine sx_sub (Sub.cons (t := 6) rfl (.cons (t := 11) rfl (.cons (t := 14) rfl (.cons (t := 15) rfl (.cons (t := 103) rfl (.nil)))))) ?_
    have h5550x1 : (((rOf pv ts a b).2.2.2) != ((rOf pv ts a b).2.2.2)) = false := by simp [mk_length]
    refine sx_condBF rfl h5550x1 ?_
    refine sx_skip ?_
    refine q_n (k212 _ _ ?_)
    refine sx_seq fun K238 k238 => sx_region ?_
    refine sa rfl rfl rfl rfl ?_
    refine wl_nil (q_n (k238 _ _ ?_))
    refine sx_seq fun K239 k239 => sx_region ?_
    have f240 := f177.ext c178
    have f241 := f240.ext c197
    have f242 := f241.ext c206
    have f243 := f242.ext cb207
    have f244 := f243.chg cw209 (by omega)
    have f245 := f244.ext c237
    refine sx_pure rfl rfl rfl (px_load rfl (f245.loadA (vs := [.bool ((rOf pv ts a b).1), s52, t52]) (look_lit rfl) Tryz.isAgg30 Tryz.sizeOf30)) ?_
    refine sm rfl rfl rfl rfl ?_
    have f246 := ov1_174.ext c178
    have f247 := f246.ext c197
    have f248 := f247.ext c206
    have f249 := f248.ext cb207
    have f250 := f249.chg cw209 (by omega)
    have f251 := f250.ext c237
    have f252 := od1_174.ext c178
    have f253 := f252.ext c197
    have f254 := f253.ext c206
    have f255 := f254.ext cb207
    have f256 := f255.chg cw209 (by omega)
    have f257 := f256.ext c237
    refine sx_call rfl rfl Tryz.call15 (c_heldRat f251.sv f257.sv (by first | omega | (simp only [mk_length]; omega)) (by first | omega | (simp only [mk_length]; omega)) (by simp [mk_length])) (fun v258 w258 p258 => ?_)
    obtain ⟨rfl, c258⟩ := p258
    have zw258 := c258.size
    refine sa rfl rfl rfl rfl ?_
    refine wl_nil (q_n (k239 _ _ ?_))
    refine sx_seq fun K259 k259 => ?_
    refine sx_seq fun K260 k260 => sx_region ?_
    refine sm rfl rfl rfl rfl ?_
    refine sx_pure rfl rfl rfl (px_lt rfl rfl) ?_
    refine wl_nil (q_n (k260 _ _ ?_))
    have h5555 : ¬ (((1 : Int) + ↑((mk (1 : Int) (((rOf pv ts a b).2.1)).length)).length + ↑((mk ((1 : Int) + ↑(((rOf pv ts a b).2.1)).length) (((rOf pv ts a b).2.2.1)).length)).length : Int) < 0) := by omega
    refine sx_condPF rfl h5555 ?_
    refine sx_skip ?_
    refine q_n (k259 _ _ ?_)
    refine sx_seq fun K261 k261 => ?_
    refine sx_seq fun K262 k262 => sx_region ?_
    refine sm rfl rfl rfl rfl ?_
    refine sm rfl rfl rfl rfl ?_
    refine sx_pure rfl rfl rfl (px_ne rfl rfl) ?_
    refine wl_nil (q_n (k262 _ _ ?_))
    have h5558 : ¬ (((1 : Int) + ↑((mk (1 : Int) (((rOf pv ts a b).2.1)).length)).length + ↑((mk ((1 : Int) + ↑(((rOf pv ts a b).2.1)).length) (((rOf pv ts a b).2.2.1)).length)).length : Int) ≠ (1 : Int) + ↑(((rOf pv ts a b).2.1)).length + ↑(((rOf pv ts a b).2.2.1)).length) := by simp [mk_length]
    refine sx_condPF rfl h5558 ?_
    refine sx_skip ?_
    refine q_n (k261 _ _ ?_)
    refine sx_seq fun K263 k263 => sx_region ?_
    refine sa rfl rfl rfl rfl ?_
    refine wl_nil (q_n (k263 _ _ ?_))
    refine sx_retc ?_
    refine sx_ret1 Tryz.results3 rfl ?_
    have q264 := Chg.step (l := 0) (h := 0) (Chg.zero (l := 0) (h := 0) ((((cb2.t c13).t c20).t c21).t cb22)) cw24 (by omega)
    have q265 := Chg.step (l := 0) (h := 0) q264 (c36.t cb37) (by omega)
    have q266 := Chg.step (l := 0) (h := 0) q265 cw39 (by omega)
    have q267 := Chg.step (l := 0) (h := 0) q266 (c52.t cb53) (by omega)
    have q268 := Chg.step (l := 0) (h := 0) q267 cw55 (by omega)
    have q269 := Chg.step (l := 0) (h := 0) q268 (((c82.t d127).t c129).t c133) (by omega)
    have q270 := Chg.step (l := 0) (h := 0) q269 c141 (by omega)
    have q271 := Chg.step (l := 0) (h := 0) q270 c168 (by omega)
    have q272 := Chg.step (l := 0) (h := 0) q271 c174 (by omega)
    have q273 := Chg.step (l := 0) (h := 0) q272 (((c178.t c197).t c206).t cb207) (by omega)
    have q274 := Chg.step (l := 0) (h := 0) q273 cw209 (by omega)
    have q275 := Chg.step (l := 0) (h := 0) q274 (c237.t c258) (by omega)
    exact ⟨rfl, q275⟩

end Go.Proofs.YtcghgfmickgnkaaGreatDoor
