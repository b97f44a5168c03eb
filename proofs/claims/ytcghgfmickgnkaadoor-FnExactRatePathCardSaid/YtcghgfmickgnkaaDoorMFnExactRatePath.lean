/- Contracts of functions of the program: what each call returns, and that it changes nothing that was. Conditions: as each says. -/
import Derived.Test.YtcghgfmickgnkaaDoorTy
import Derived.Test.YtcghgfmickgnkaaDoorNatO
import Derived.Test.YtcghgfmickgnkaaDoorNatL
import Derived.Test.YtcghgfmickgnkaaDoorSxD
import Derived.Test.YtcghgfmickgnkaaDoorPair
import Derived.Test.YtcghgfmickgnkaaDoorK0
import Derived.Test.YtcghgfmickgnkaaDoorK1
set_option linter.unusedVariables false
set_option linter.unusedSimpArgs false
namespace Go.Proofs.YtcghgfmickgnkaaDoor
open Go Go.RowKit
set_option maxRecDepth 100000
set_option maxHeartbeats 1000000
theorem law_RatePath {w : World} {pv : ByteArray} {vt : Value} {lvt uvt : Nat} {ts : List Rt} {vvt : List Value} {a : ByteArray} {b : ByteArray} (hG0 : Glob w) (hvt : RtS w lvt uvt vt ts vvt) (bpv : pv.size ≤ 9223372036854775807) (bts : ts.length ≤ 9223372036854775807) (hb : ∀ i, i < ts.length → RB (ts.getD i rt0)) (ba : a.size ≤ 9223372036854775807) (bb : b.size ≤ 9223372036854775807) :
  Ret Tryd.prog 3 [.agg #[.string pv, vt], .string a, .string b] w fun v w' => v = .bool (true) ∧ Chg 0 0 w w' := by
 have hvt0 := hvt.fit
 have hG0l : 0 < w.heap.size := by obtain ⟨T, fz, h1⟩ := hG0; rcases Nat.lt_or_ge 0 w.heap.size with h2 | h2; exact h2; simp [Array.getElem?_eq_none h2] at h1
 refine sx_enter Tryd.func3 rfl Tryd.ntmps3 (Nat.le_of_ble_eq_true rfl) ?_
 refine sx_seq fun K1 k1 => sx_region ?_
 refine sx_box [.string pv, vt] rfl rfl rfl (fun b2 w3 eb2 sb2 fb2 cb2 => ?_)
 have zw3 := cb2.size
 refine sa rfl rfl rfl rfl ?_
 refine wl_nil (q_n (k1 _ _ ?_))
 refine sx_seq fun K4 k4 => ?_
 refine sx_seq fun K5 k5 => sx_region ?_
 refine sm rfl rfl rfl rfl ?_
 refine sx_pure rfl rfl rfl (px_lenS rfl Tryd.underlying9) ?_
 refine sx_pure rfl rfl rfl (px_gt rfl rfl) ?_
 refine wl_nil (q_n (k5 _ _ ?_))
 refine sx_condP rfl (fun h5566 => ?_) (fun h5566 => ?_)
 ·
  refine sx_seq fun K6 k6 => sx_region ?_
  refine sa rfl rfl rfl rfl ?_
  refine wl_nil (q_n (k6 _ _ ?_))
  refine sx_retc ?_
  refine q_r (sx_ret1 Tryd.results3 rfl ?_)
  exact ⟨rfl, cb2⟩
 ·
  refine sx_skip ?_
  refine q_n (k4 _ _ ?_)
  refine sx_seq fun K7 k7 => ?_
  refine sx_seq fun K8 k8 => sx_region ?_
  refine sm rfl rfl rfl rfl ?_
  refine sx_pure rfl rfl rfl (px_lenS rfl Tryd.underlying9) ?_
  refine sx_pure rfl rfl rfl (px_gt rfl rfl) ?_
  refine wl_nil (q_n (k8 _ _ ?_))
  refine sx_condP rfl (fun h5569 => ?_) (fun h5569 => ?_)
  ·
   refine sx_seq fun K9 k9 => sx_region ?_
   refine sa rfl rfl rfl rfl ?_
   refine wl_nil (q_n (k9 _ _ ?_))
   refine sx_retc ?_
   refine q_r (sx_ret1 Tryd.results3 rfl ?_)
   exact ⟨rfl, cb2⟩
  ·
   refine sx_skip ?_
   refine q_n (k7 _ _ ?_)
   refine sx_seq fun K10 k10 => sx_region ?_
   refine sa rfl rfl rfl rfl ?_
   refine wl_nil (q_n (k10 _ _ ?_))
   refine sx_seq fun K11 k11 => sx_region ?_
   refine sx_pure rfl rfl rfl (px_load rfl (fb2.loadA (vs := [.string pv, vt]) (look_lit rfl) Tryd.isAgg24 Tryd.sizeOf24)) ?_
   refine sm rfl rfl rfl rfl ?_
   have f12 := hvt0.ext cb2
   refine sx_call rfl rfl Tryd.call4 (c_szRates f12 (by omega) (by omega) (by assumption) (by omega)) (fun v13 w13 p13 => ?_)
   obtain ⟨r13, rfl, hr13, hzz13, c13⟩ := p13
   have zw13 := c13.size
   have hzs := hzz13
   refine sa rfl rfl rfl rfl ?_
   refine wl_nil (q_n (k11 _ _ ?_))
   refine sx_sub (Sub.cons (t := 1) rfl (.cons (t := 2) rfl (.cons (t := 3) rfl (.cons (t := 6) rfl (.cons (t := 7) rfl (.nil)))))) ?_
   refine sx_seq fun K14 k14 => ?_
   refine sx_seq fun K15 k15 => sx_region ?_
   refine sm rfl rfl rfl rfl ?_
   refine sx_pure rfl rfl rfl (px_lt rfl rfl) ?_
   refine wl_nil (q_n (k15 _ _ ?_))
   refine sx_condP rfl (fun h5574 => ?_) (fun h5574 => ?_)
   ·
    refine sx_seq fun K16 k16 => sx_region ?_
    refine sa rfl rfl rfl rfl ?_
    refine wl_nil (q_n (k16 _ _ ?_))
    refine sx_retc ?_
    refine q_r (sx_ret1 Tryd.results3 rfl ?_)
    exact ⟨rfl, (cb2.t c13)⟩
   ·
    replace hr13 := hr13.resolve_left h5574
    refine sx_skip ?_
    refine q_n (k14 _ _ ?_)
    refine sx_seq fun K17 k17 => sx_region ?_
    have f18 := fb2.ext c13
    refine sx_pure rfl rfl rfl (px_load rfl (f18.loadA (vs := [.string pv, vt]) (look_lit rfl) Tryd.isAgg24 Tryd.sizeOf24)) ?_
    have f19 := f12.ext c13
    refine sx_call rfl rfl Tryd.call6 (c_toRates f19 (by omega) (hzs (by omega))) (fun v20 w20 p20 => ?_)
    obtain ⟨s20, us20, rfl, os_20, c20⟩ := p20
    have zw20 := c20.size
    refine sm rfl rfl rfl rfl ?_
    refine sm rfl rfl rfl rfl ?_
    refine sx_call rfl rfl Tryd.call5 (c_sRatePath (os_20).toS (by omega) (fun i hi => Nat.le_trans (hzs (by omega) i hi) (by omega))) (fun v21 w21 p21 => ?_)
    obtain ⟨s21, rfl, os_21, hl21, c21⟩ := p21
    have zw21 := c21.size
    refine sa rfl rfl rfl rfl ?_
    refine wl_nil (q_n (k17 _ _ ?_))
    refine sx_seq fun K22 k22 => sx_region ?_
    have f23 := f18.ext c20
    have f24 := f23.ext c21
    refine sx_pure rfl rfl rfl (px_load rfl (f24.loadA (vs := [.string pv, vt]) (look_lit rfl) Tryd.isAgg24 Tryd.sizeOf24)) ?_
    have f25 := f19.ext c20
    have f26 := f25.ext c21
    refine sx_call rfl rfl Tryd.call6 (c_toRates f26 (by omega) (hzs (by omega))) (fun v27 w27 p27 => ?_)
    obtain ⟨s27, us27, rfl, os_27, c27⟩ := p27
    have zw27 := c27.size
    refine sx_alloc [.string (⟨#[]⟩), (.slice none 0 0)] rfl Tryd.zeroValue30 rfl (fun b28 w29 eb28 sb28 fb28 cb28 => ?_)
    have zw29 := cb28.size
    have f31 := os_27.ext cb28
    refine sx_store (vs := [.string pv, s27]) rfl rfl fb28 rfl Tryd.sizeOf30 (Nat.le_of_ble_eq_true rfl) (one_cons rfl (one_cons (f31).toS.one one_nil)) (fun w30 sw30 fw30 cw30 => ?_)
    have zw30 := cw30.size
    have gw30 : Blk w30 b28 [.string pv, s27] 30 := fw30
    refine wl_nil (q_n (k22 _ _ ?_))
    refine sx_sub (Sub.cons (t := 1) rfl (.cons (t := 2) rfl (.cons (t := 3) rfl (.cons (t := 6) rfl (.cons (t := 8) rfl (.cons (t := 9) rfl (.nil))))))) ?_
    refine sx_seq fun K32 k32 => sx_region ?_
    refine sx_pure rfl rfl rfl (px_load rfl (gw30.loadA (vs := [.string pv, s27]) (look_lit rfl) Tryd.isAgg30 Tryd.sizeOf30)) ?_
    refine sm rfl rfl rfl rfl ?_
    refine sm rfl rfl rfl rfl ?_
    have f33 := hG0.ext cb2
    have f34 := f33.ext c13
    have f35 := f34.ext c20
    have f36 := f35.ext c21
    have f37 := f36.ext c27
    have f38 := f37.ext cb28
    have f39 := f38.chg cw30 (by omega)
    have f40 := f31.chg cw30 (by omega)
    refine sx_call rfl rfl Tryd.call7 (c_iRatePath f39 (f40).toS (by omega) (fun i hi => Nat.le_trans (hzs (by omega) i hi) (by omega))) (fun v41 w41 p41 => ?_)
    obtain ⟨s41, rfl, os_41, hl41, c41⟩ := p41
    have zw41 := c41.size
    refine sa rfl rfl rfl rfl ?_
    refine wl_nil (q_n (k32 _ _ ?_))
    refine sx_seq fun K42 k42 => ?_
    refine sx_seq fun K43 k43 => sx_region ?_
    refine sm rfl rfl rfl rfl ?_
    refine sm rfl rfl rfl rfl ?_
    have f44 := os_21.ext c27
    have f45 := f44.ext cb28
    have f46 := f45.chg cw30 (by omega)
    have f47 := f46.ext c41
    refine sx_call rfl rfl Tryd.call8 (c_eqStringS os_41.sv f47.sv (by first | omega | (simp only [mkS_length]; omega))) (fun v48 w48 p48 => ?_)
    obtain ⟨rfl, c48⟩ := p48
    have zw48 := c48.size
    refine sx_pure rfl rfl rfl (px_notP rfl) ?_
    refine wl_nil (q_n (k43 _ _ ?_))
    refine sx_sub (Sub.cons (t := 1) rfl (.cons (t := 2) rfl (.cons (t := 3) rfl (.cons (t := 6) rfl (.cons (t := 8) rfl (.cons (t := 9) rfl (.cons (t := 10) rfl (.cons (t := 40) rfl (.nil))))))))) ?_
    have h5580 : ¬ (¬ ((path pv ts a b) = (path pv ts a b))) := by simp [mk_length]
    refine sx_condPF rfl h5580 ?_
    refine sx_skip ?_
    refine q_n (k42 _ _ ?_)
    refine sx_seq fun K49 k49 => ?_
    refine sx_seq fun K50 k50 => ?_
    have f51 := f39.ext c41
    have f52 := f51.ext c48
    have f53 := f24.ext c27
    have f54 := f53.ext cb28
    have f55 := f54.chg cw30 (by omega)
    have f56 := f55.ext c41
    have f57 := f56.ext c48
    have f58 := gw30.ext c41
    have f59 := f58.ext c48
    have f60 := f26.ext c27
    have f61 := f60.ext cb28
    have f62 := f61.chg cw30 (by omega)
    have f63 := f62.ext c41
    have f64 := f63.ext c48
    have f65 := os_20.ext c21
    have f66 := f65.ext c27
    have f67 := f66.ext cb28
    have f68 := f67.chg cw30 (by omega)
    have f69 := f68.ext c41
    have f70 := f69.ext c48
    have f71 := f47.ext c48
    have f72 := f40.ext c41
    have f73 := f72.ext c48
    have f74 := os_41.ext c48
    refine dx_region (fun w' => Chg 0 0 w48 w') (by kernel_rfl) (Chg.zero (Chg.drew _)) ?_
    have d75 := Chg.drew w48
    have s75 : Chg 0 0 w48 (World.drew w48) := Chg.zero (Chg.drew _)
    have y75 : (World.drew w48).heap.size = w48.heap.size := rfl
    generalize World.drew w48 = w75 at *
    have zw75 := d75.size
    refine dx_take 0 rfl rfl rfl rfl (by kernel_rfl) (by kernel_rfl) (by kernel_rfl) s75 (fun _ hS => px_load rfl ((f59.chg hS (by omega)).loadA (vs := [.string pv, s27]) (look_lit rfl) Tryd.isAgg30 Tryd.sizeOf30)) ?_
    refine dx_take 1 rfl rfl rfl rfl (by kernel_rfl) (by kernel_rfl) (by kernel_rfl) s75 (fun _ hS => px_load rfl ((f57.chg hS (by omega)).loadA (vs := [.string pv, vt]) (look_lit rfl) Tryd.isAgg24 Tryd.sizeOf24)) ?_
    refine dx_eff 2 rfl (by kernel_rfl) ?_
    have f76 := f64.ext d75
    refine sx_call rfl rfl Tryd.call6 (c_toRates f76 (by omega) (hzs (by omega))) (fun v77 w77 p77 => ?_)
    obtain ⟨s77, us77, rfl, os_77, c77⟩ := p77
    have zw77 := c77.size
    have s78 : Chg 0 0 w48 w77 := (d75.t c77)
    refine wl_nil ?_
    refine dx_next s78 ?_
    refine dx_eff 3 rfl (by kernel_rfl) ?_
    have f79 := f73.ext d75
    have f80 := f79.ext c77
    refine sx_call rfl rfl Tryd.call9 (c_eqRates (f80).toS (os_77).toS (by omega) (hzs (by omega)) (hzs (by omega))) (fun v81 w81 p81 => ?_)
    obtain ⟨rfl, c81⟩ := p81
    have zw81 := c81.size
    have s82 : Chg 0 0 w48 w81 := ((d75.t c77).t c81)
    refine wl_nil ?_
    refine dx_next s82 ?_
    refine dx_take 4 rfl rfl rfl rfl (by kernel_rfl) (by kernel_rfl) (by kernel_rfl) s82 (fun _ hS => px_notP rfl) ?_
    refine dx_done (by kernel_rfl) ?_
    refine q_n (k50 _ _ ?_)
    have h5583 : ¬ (¬ (pv = pv ∧ ts = ts)) := by simp [mk_length]
    refine sx_condPF rfl h5583 ?_
    refine sx_skip ?_
    refine q_n (k49 _ _ ?_)
    refine sx_seq fun K83 k83 => sx_region ?_
    refine sa rfl rfl rfl rfl ?_
    refine wl_nil (q_n (k83 _ _ ?_))
    refine sx_seq fun K84 k84 => sx_region ?_
    have f85 := f59.ext d75
    have f86 := f85.ext c77
    have f87 := f86.ext c81
    refine sx_pure rfl rfl rfl (px_load rfl (f87.loadA (vs := [.string pv, s27]) (look_lit rfl) Tryd.isAgg30 Tryd.sizeOf30)) ?_
    refine sm rfl rfl rfl rfl ?_
    have f88 := f80.ext c81
    refine sx_call rfl rfl Tryd.call10 (c_markRates f88 (by omega) (hzs (by omega)) (by omega) (by omega)) (fun v89 w89 p89 => ?_)
    obtain ⟨ks89, rfl, hk89, c89⟩ := p89
    have zw89 := c89.size
    refine sa rfl rfl rfl rfl ?_
    refine wl_nil (q_n (k84 _ _ ?_))
    refine sx_sub (Sub.cons (t := 1) rfl (.cons (t := 2) rfl (.cons (t := 3) rfl (.cons (t := 6) rfl (.cons (t := 8) rfl (.cons (t := 10) rfl (.cons (t := 11) rfl (.nil)))))))) ?_
    refine sx_seq fun K90 k90 => ?_
    refine sx_seq fun K91 k91 => sx_region ?_
    refine sm rfl rfl rfl rfl ?_
    refine sx_pure rfl rfl rfl (px_lt rfl rfl) ?_
    refine sm rfl rfl rfl rfl ?_
    have h5588 : ¬ (((1 : Int) + ↑((ks89 : List Int)).length : Int) < 0) := by omega
    refine sx_tmpPF (t := 51) rfl h5588 ?_
    refine sx_guardT rfl rfl rfl ?_
    refine sm rfl rfl rfl rfl ?_
    refine sx_guardT rfl rfl rfl ?_
    refine sm rfl rfl rfl rfl ?_
    refine sx_guardT rfl rfl rfl ?_
    have f92 := f74.ext d75
    have f93 := f92.ext c77
    have f94 := f93.ext c81
    have f95 := f94.chg c89 (by omega)
    have f96 := f71.ext d75
    have f97 := f96.ext c77
    have f98 := f97.ext c81
    have f99 := f98.chg c89 (by omega)
    refine sx_call rfl rfl Tryd.call8 (c_eqStringS f95.sv f99.sv (by first | omega | (simp only [mkS_length]; omega))) (fun v100 w100 p100 => ?_)
    obtain ⟨rfl, c100⟩ := p100
    have zw100 := c100.size
    refine sx_guardT rfl rfl rfl ?_
    refine sx_pure rfl rfl rfl (px_notP rfl) ?_
    refine sx_pure rfl rfl rfl (px_pick rfl rfl) ?_
    refine wl_nil (q_n (k91 _ _ ?_))
    refine sx_sub (Sub.cons (t := 1) rfl (.cons (t := 2) rfl (.cons (t := 3) rfl (.cons (t := 6) rfl (.cons (t := 8) rfl (.cons (t := 10) rfl (.cons (t := 56) rfl (.nil)))))))) ?_
    have h5588x1 : ¬ (¬ ((path pv ts a b) = (path pv ts a b))) := by simp [mk_length]
    refine sx_condPF rfl h5588x1 ?_
    refine sx_skip ?_
    refine q_n (k90 _ _ ?_)
    refine sx_seq fun K101 k101 => sx_region ?_
    refine sa rfl rfl rfl rfl ?_
    refine wl_nil (q_n (k101 _ _ ?_))
    refine sx_seq fun K102 k102 => sx_region ?_
    refine sm rfl rfl rfl rfl ?_
    refine sm rfl rfl rfl rfl ?_
    have f103 := f95.ext c100
    refine sx_call rfl rfl Tryd.call11 (c_markStringS f103 (by first | omega | (simp only [mkS_length]; omega)) (by first | omega | (simp only [mkS_length]; omega))) (fun v104 w104 p104 => ?_)
    obtain ⟨rfl, ova_104, c104⟩ := p104
    have zw104 := c104.size
    refine sa rfl rfl rfl rfl ?_
    refine wl_nil (q_n (k102 _ _ ?_))
    refine sx_seq fun K105 k105 => sx_region ?_
    refine sa rfl rfl rfl rfl ?_
    refine wl_nil (q_n (k105 _ _ ?_))
    refine sx_seq fun K106 k106 => sx_region ?_
    refine sm rfl rfl rfl rfl ?_
    refine sm rfl rfl rfl rfl ?_
    refine sx_call rfl rfl Tryd.call12 (c_heldStringS ova_104.sv (by first | omega | (simp only [mkS_length]; omega)) (by first | omega | (simp only [mkS_length]; omega)) (by first | assumption | simp [mkS_length])) (fun v107 w107 p107 => ?_)
    obtain ⟨rfl, c107⟩ := p107
    have zw107 := c107.size
    refine sa rfl rfl rfl rfl ?_
    refine wl_nil (q_n (k106 _ _ ?_))
    refine sx_sub (Sub.cons (t := 1) rfl (.cons (t := 2) rfl (.cons (t := 3) rfl (.cons (t := 6) rfl (.cons (t := 8) rfl (.cons (t := 10) rfl (.cons (t := 12) rfl (.cons (t := 13) rfl (.nil))))))))) ?_
    refine sx_seq fun K108 k108 => ?_
    refine sx_seq fun K109 k109 => sx_region ?_
    refine sm rfl rfl rfl rfl ?_
    refine sx_pure rfl rfl rfl (px_lt rfl rfl) ?_
    refine wl_nil (q_n (k109 _ _ ?_))
    have h5595 : ¬ (((1 : Int) + ↑((mkS (1 : Int) ((path pv ts a b)).length)).length : Int) < 0) := by omega
    refine sx_condPF rfl h5595 ?_
    refine sx_skip ?_
    refine q_n (k108 _ _ ?_)
    refine sx_seq fun K110 k110 => ?_
    refine sx_seq fun K111 k111 => sx_region ?_
    refine sm rfl rfl rfl rfl ?_
    refine sm rfl rfl rfl rfl ?_
    refine sx_pure rfl rfl rfl (px_ne rfl rfl) ?_
    refine wl_nil (q_n (k111 _ _ ?_))
    have h5598 : ¬ (((1 : Int) + ↑((mkS (1 : Int) ((path pv ts a b)).length)).length : Int) ≠ (1 : Int) + ↑((path pv ts a b)).length) := by simp [mkS_length]
    refine sx_condPF rfl h5598 ?_
    refine sx_skip ?_
    refine q_n (k110 _ _ ?_)
    refine sx_seq fun K112 k112 => sx_region ?_
    have f113 := f57.ext d75
    have f114 := f113.ext c77
    have f115 := f114.ext c81
    have f116 := f115.chg c89 (by omega)
    have f117 := f116.ext c100
    have f118 := f117.chg c104 (by omega)
    have f119 := f118.ext c107
    refine sx_pure rfl rfl rfl (px_load rfl (f119.loadA (vs := [.string pv, vt]) (look_lit rfl) Tryd.isAgg24 Tryd.sizeOf24)) ?_
    have f120 := f76.ext c77
    have f121 := f120.ext c81
    have f122 := f121.chg c89 (by omega)
    have f123 := f122.ext c100
    have f124 := f123.chg c104 (by omega)
    have f125 := f124.ext c107
    refine sx_call rfl rfl Tryd.call6 (c_toRates f125 (by omega) (hzs (by omega))) (fun v126 w126 p126 => ?_)
    obtain ⟨s126, us126, rfl, os_126, c126⟩ := p126
    have zw126 := c126.size
    refine sm rfl rfl rfl rfl ?_
    refine sm rfl rfl rfl rfl ?_
    have f127 := f52.ext d75
    have f128 := f127.ext c77
    have f129 := f128.ext c81
    have f130 := f129.chg c89 (by omega)
    have f131 := f130.ext c100
    have f132 := f131.chg c104 (by omega)
    have f133 := f132.ext c107
    have f134 := f133.ext c126
    refine sx_call rfl rfl Tryd.call7 (c_iRatePath f134 (os_126).toS (by omega) (fun i hi => Nat.le_trans (hzs (by omega) i hi) (by omega))) (fun v135 w135 p135 => ?_)
    obtain ⟨s135, rfl, os_135, hl135, c135⟩ := p135
    have zw135 := c135.size
    refine sa rfl rfl rfl rfl ?_
    refine wl_nil (q_n (k112 _ _ ?_))
    refine sx_sub (Sub.cons (t := 6) rfl (.cons (t := 8) rfl (.cons (t := 10) rfl (.cons (t := 12) rfl (.cons (t := 13) rfl (.cons (t := 14) rfl (.nil))))))) ?_
    refine sx_seq fun K136 k136 => ?_
    refine sx_seq fun K137 k137 => sx_region ?_
    refine sm rfl rfl rfl rfl ?_
    refine sm rfl rfl rfl rfl ?_
    have f138 := f99.ext c100
    have f139 := f138.chg c104 (by omega)
    have f140 := f139.ext c107
    have f141 := f140.ext c126
    have f142 := f141.ext c135
    refine sx_call rfl rfl Tryd.call8 (c_eqStringS os_135.sv f142.sv (by first | omega | (simp only [mkS_length]; omega))) (fun v143 w143 p143 => ?_)
    obtain ⟨rfl, c143⟩ := p143
    have zw143 := c143.size
    refine sx_pure rfl rfl rfl (px_notP rfl) ?_
    refine wl_nil (q_n (k137 _ _ ?_))
    have h5602 : ¬ (¬ ((path pv ts a b) = (path pv ts a b))) := by simp [mk_length]
    refine sx_condPF rfl h5602 ?_
    refine sx_skip ?_
    refine q_n (k136 _ _ ?_)
    refine sx_seq fun K144 k144 => sx_region ?_
    refine sa rfl rfl rfl rfl ?_
    refine wl_nil (q_n (k144 _ _ ?_))
    refine sx_seq fun K145 k145 => sx_region ?_
    refine sm rfl rfl rfl rfl ?_
    refine sm rfl rfl rfl rfl ?_
    have f146 := ova_104.ext c107
    have f147 := f146.ext c126
    have f148 := f147.ext c135
    have f149 := f148.ext c143
    refine sx_call rfl rfl Tryd.call12 (c_heldStringS f149.sv (by first | omega | (simp only [mkS_length]; omega)) (by first | omega | (simp only [mkS_length]; omega)) (by first | assumption | simp [mkS_length])) (fun v150 w150 p150 => ?_)
    obtain ⟨rfl, c150⟩ := p150
    have zw150 := c150.size
    refine sa rfl rfl rfl rfl ?_
    refine wl_nil (q_n (k145 _ _ ?_))
    refine sx_seq fun K151 k151 => ?_
    refine sx_seq fun K152 k152 => sx_region ?_
    refine sm rfl rfl rfl rfl ?_
    refine sx_pure rfl rfl rfl (px_lt rfl rfl) ?_
    refine wl_nil (q_n (k152 _ _ ?_))
    refine sx_sub (Sub.cons (t := 6) rfl (.cons (t := 12) rfl (.cons (t := 13) rfl (.cons (t := 81) rfl (.nil))))) ?_
    have h5607 : ¬ (((1 : Int) + ↑((mkS (1 : Int) ((path pv ts a b)).length)).length : Int) < 0) := by omega
    refine sx_condPF rfl h5607 ?_
    refine sx_skip ?_
    refine q_n (k151 _ _ ?_)
    refine sx_seq fun K153 k153 => ?_
    refine sx_seq fun K154 k154 => sx_region ?_
    refine sm rfl rfl rfl rfl ?_
    refine sm rfl rfl rfl rfl ?_
    refine sx_pure rfl rfl rfl (px_ne rfl rfl) ?_
    refine wl_nil (q_n (k154 _ _ ?_))
    have h5610 : ¬ (((1 : Int) + ↑((mkS (1 : Int) ((path pv ts a b)).length)).length : Int) ≠ (1 : Int) + ↑((path pv ts a b)).length) := by simp [mkS_length]
    refine sx_condPF rfl h5610 ?_
    refine sx_skip ?_
    refine q_n (k153 _ _ ?_)
    refine sx_seq fun K155 k155 => sx_region ?_
    refine sa rfl rfl rfl rfl ?_
    refine wl_nil (q_n (k155 _ _ ?_))
    refine sx_retc ?_
    refine sx_ret1 Tryd.results3 rfl ?_
    have q156 := Chg.step (l := 0) (h := 0) (Chg.zero (l := 0) (h := 0) (((((cb2.t c13).t c20).t c21).t c27).t cb28)) cw30 (by omega)
    have q157 := Chg.step (l := 0) (h := 0) q156 ((((c41.t c48).t d75).t c77).t c81) (by omega)
    have q158 := Chg.step (l := 0) (h := 0) q157 c89 (by omega)
    have q159 := Chg.step (l := 0) (h := 0) q158 c100 (by omega)
    have q160 := Chg.step (l := 0) (h := 0) q159 c104 (by omega)
    have q161 := Chg.step (l := 0) (h := 0) q160 ((((c107.t c126).t c135).t c143).t c150) (by omega)
    exact ⟨rfl, q161⟩

end Go.Proofs.YtcghgfmickgnkaaDoor
