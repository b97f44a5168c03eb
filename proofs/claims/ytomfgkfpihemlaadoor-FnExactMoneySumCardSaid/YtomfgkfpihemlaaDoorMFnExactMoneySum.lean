/- Contracts of functions of the program: what each call returns, and that it changes nothing that was. Conditions: as each says. -/
import Derived.Test.YtomfgkfpihemlaaDoorTy
import Derived.Test.YtomfgkfpihemlaaDoorNatJ
import Derived.Test.YtomfgkfpihemlaaDoorNatL
import Derived.Test.YtomfgkfpihemlaaDoorSxD
import Derived.Test.YtomfgkfpihemlaaDoorPair
import Derived.Test.YtomfgkfpihemlaaDoorNatQ
import Derived.Test.YtomfgkfpihemlaaDoorSxP
import Derived.Test.YtomfgkfpihemlaaDoorM0
import Derived.Test.YtomfgkfpihemlaaDoorM1
set_option linter.unusedVariables false
set_option linter.unusedSimpArgs false
namespace Go.Proofs.YtomfgkfpihemlaaDoor
open Go Go.RowKit
set_option maxRecDepth 100000
set_option maxHeartbeats 1000000
theorem law_MoneySum {w : World} {c : ByteArray} {vl : Value} {lvl uvl : Nat} {ts : List Mt} {vvl : List Value} (hG0 : Glob w) (hvl : MtS w lvl uvl vl ts vvl) (bc : c.size ≤ 9223372036854775807) (bts : ts.length ≤ 9223372036854775807) (hb : ∀ i, i < ts.length → MB (ts.getD i mt0)) :
  Ret Tryd.prog 14 [.string c, vl] w fun v w' => v = .bool (true) ∧ Chg 0 0 w w' := by
 have hvl0 := hvl.fit
 have hG0l : 0 < w.heap.size := by obtain ⟨T, fz, h1⟩ := hG0; rcases Nat.lt_or_ge 0 w.heap.size with h2 | h2; exact h2; simp [Array.getElem?_eq_none h2] at h1
 refine sx_enter Tryd.func14 rfl Tryd.ntmps14 (nbl rfl) ?_
 refine sx_seq fun K1 k1 => sx_region ?_
 refine av rfl rfl (wl_nil (q_n (k1 _ _ ?_)))
 refine sx_seq fun K2 k2 => ?_
 refine sx_seq fun K3 k3 => sx_region ?_
 refine mv rfl rfl (sp rfl (px_lenS rfl Tryd.underlying9) ?_)
 refine sp rfl (px_gt rfl rfl) ?_
 refine wl_nil (q_n (k3 _ _ ?_))
 refine sx_condP rfl (fun h5347 => ?_) (fun h5347 => ?_)
 ·
  refine sx_seq fun K4 k4 => sx_region ?_
  refine av rfl rfl (wl_nil (q_n (k4 _ _ ?_)))
  refine sx_retc ?_
  refine q_r (sx_ret1 Tryd.results14 rfl ?_)
  exact ⟨rfl, (Chg.refl 0 0 _)⟩
 refine sx_skip ?_
 refine q_n (k2 _ _ ?_)
 refine sx_seq fun K5 k5 => sx_region ?_
 refine av rfl rfl (wl_nil (q_n (k5 _ _ ?_)))
 refine sx_seq fun K6 k6 => sx_region ?_
 refine mv rfl rfl (mv rfl rfl (sx_call rfl rfl Tryd.call51 (c_szMoneyS hvl0 (by omega) (by assumption) (by omega)) (fun v7 w7 p7 => ?_)))
 obtain ⟨r7, rfl, hr7, hzz7, c7⟩ := p7
 have zw7 := c7.size
 have hzs := hzz7
 refine av rfl rfl (wl_nil (q_n (k6 _ _ ?_)))
 refine sx_seq fun K8 k8 => ?_
 refine sx_seq fun K9 k9 => sx_region ?_
 refine mv rfl rfl (sp rfl (px_lt rfl rfl) ?_)
 refine wl_nil (q_n (k9 _ _ ?_))
 refine sx_condP rfl (fun h5352 => ?_) (fun h5352 => ?_)
 ·
  refine sx_seq fun K10 k10 => sx_region ?_
  refine av rfl rfl (wl_nil (q_n (k10 _ _ ?_)))
  refine sx_retc ?_
  refine q_r (sx_ret1 Tryd.results14 rfl ?_)
  exact ⟨rfl, c7⟩
 replace hr7 := hr7.resolve_left h5352
 refine sx_skip ?_
 refine q_n (k8 _ _ ?_)
 refine sx_seq fun K11 k11 => sx_region ?_
 refine mv rfl rfl (mv rfl rfl ?_)
 have f12 := hvl0.ext c7
 refine sx_call rfl rfl Tryd.call53 (c_toMoneyS f12 (by omega) (hzs (by omega))) (fun v13 w13 p13 => ?_)
 obtain ⟨s13, us13, rfl, os_13, c13⟩ := p13
 have zw13 := c13.size
 refine sx_call rfl rfl Tryd.call52 (c_sMoneySum (os_13).toS (by omega) (fun i hi => Nat.le_trans (hzs (by omega) i hi) (by omega))) (fun v14 w14 p14 => ?_)
 obtain ⟨s14, rfl, os_14, hl14, c14⟩ := p14
 have zw14 := c14.size
 refine mv rfl rfl (sp rfl (px_ex2 rfl rfl) ?_)
 refine sp rfl (px_ex2 rfl rfl) ?_
 refine sx_alloc [.string (⟨#[]⟩), .bool false, (.slice none 0 0)] rfl Tryd.zeroValue31 rfl (fun b15 w16 eb15 sb15 fb15 cb15 => ?_)
 have zw16 := cb15.size
 have f18 := os_14.ext cb15
 refine sx_store (vs := [.string ((msum c ts).1), .bool ((msum c ts).2.1), s14]) rfl rfl fb15 rfl Tryd.sizeOf31 (nbl rfl) (one_cons rfl (one_cons rfl (one_cons f18.one one_nil))) (fun w17 sw17 fw17 cw17 => ?_)
 have zw17 := cw17.size
 have gw17 : Blk w17 b15 [.string ((msum c ts).1), .bool ((msum c ts).2.1), s14] 31 := fw17
 refine av rfl rfl (wl_nil (q_n (k11 _ _ ?_)))
 refine sx_sub (Sub.c 0 rfl (.c 1 rfl (.c 4 rfl (.c 6 rfl (.c 7 rfl .nil))))) ?_
 refine sx_seq fun K19 k19 => sx_region ?_
 refine mv rfl rfl ?_
 have f22 := ((f12.ext c13).ext c14).ext cb15
 have f23 := f22.chg cw17 (by omega)
 refine sx_call rfl rfl Tryd.call53 (c_toMoneyS f23 (by omega) (hzs (by omega))) (fun v24 w24 p24 => ?_)
 obtain ⟨s24, us24, rfl, os_24, c24⟩ := p24
 have zw24 := c24.size
 refine av rfl rfl (wl_nil (q_n (k19 _ _ ?_)))
 refine sx_seq fun K25 k25 => sx_region ?_
 refine mv rfl rfl (mv rfl rfl ?_)
 have f29 := (((hG0.ext c7).ext c13).ext c14).ext cb15
 have f30 := f29.chg cw17 (by omega)
 have f31 := f30.ext c24
 refine sx_call rfl rfl Tryd.call54 (c_iMoneySum f31 (os_24).toS (by omega) (fun i hi => Nat.le_trans (hzs (by omega) i hi) (by omega))) (fun v32 w32 p32 => ?_)
 obtain ⟨s32, rfl, os_32, hl32, c32⟩ := p32
 have zw32 := c32.size
 refine mv rfl rfl (sp rfl (px_ex2 rfl rfl) ?_)
 refine sp rfl (px_ex2 rfl rfl) ?_
 refine sx_alloc [.string (⟨#[]⟩), .bool false, (.slice none 0 0)] rfl Tryd.zeroValue31 rfl (fun b33 w34 eb33 sb33 fb33 cb33 => ?_)
 have zw34 := cb33.size
 have f36 := os_32.ext cb33
 refine sx_store (vs := [.string ((msum c ts).1), .bool ((msum c ts).2.1), s32]) rfl rfl fb33 rfl Tryd.sizeOf31 (nbl rfl) (one_cons rfl (one_cons rfl (one_cons f36.one one_nil))) (fun w35 sw35 fw35 cw35 => ?_)
 have zw35 := cw35.size
 have gw35 : Blk w35 b33 [.string ((msum c ts).1), .bool ((msum c ts).2.1), s32] 31 := fw35
 refine av rfl rfl (wl_nil (q_n (k25 _ _ ?_)))
 refine sx_sub (Sub.c 0 rfl (.c 1 rfl (.c 4 rfl (.c 6 rfl (.c 7 rfl (.c 8 rfl (.c 9 rfl (.c 10 rfl .nil)))))))) ?_
 refine sx_seq fun K37 k37 => ?_
 refine sx_seq fun K38 k38 => sx_region ?_
 refine sp rfl (px_load rfl (gw35.loadA (vs := [.string ((msum c ts).1), .bool ((msum c ts).2.1), s32]) (look_lit rfl) Tryd.isAgg31 Tryd.sizeOf31)) ?_
 have f41 := ((gw17.ext c24).ext c32).ext cb33
 have f42 := f41.chg cw35 (by omega)
 refine sp rfl (px_load rfl (f42.loadA (vs := [.string ((msum c ts).1), .bool ((msum c ts).2.1), s14]) (look_lit rfl) Tryd.isAgg31 Tryd.sizeOf31)) ?_
 have f43 := f36.chg cw35 (by omega)
 have f44 := f18.chg cw17 (by omega)
 have f47 := ((f44.ext c24).ext c32).ext cb33
 have f48 := f47.chg cw35 (by omega)
 refine sx_call rfl rfl Tryd.call19 (c_eqMoney f43.sv f48.sv (by omega)) (fun v49 w49 p49 => ?_)
 obtain ⟨rfl, c49⟩ := p49
 have zw49 := c49.size
 refine sp rfl (px_notP rfl) ?_
 refine mv rfl rfl ?_
 have h5358 : ¬ (¬ (((msum c ts).1) = ((msum c ts).1) ∧ ((msum c ts).2.1) = ((msum c ts).2.1) ∧ ((msum c ts).2.2.1) = ((msum c ts).2.2.1))) := by simp [mk_length]
 refine sx_tmpPF (t := 43) rfl h5358 ?_
 refine sx_guardT rfl rfl rfl ?_
 refine mv rfl rfl ?_
 refine sx_guardT rfl rfl rfl ?_
 refine mv rfl rfl ?_
 refine sx_guardT rfl rfl rfl ?_
 refine sp rfl (px_neB Tryd.underlying4 rfl rfl) ?_
 refine sp rfl (px_pick rfl rfl) ?_
 refine wl_nil (q_n (k38 _ _ ?_))
 refine sx_sub (Sub.c 0 rfl (.c 1 rfl (.c 4 rfl (.c 6 rfl (.c 7 rfl (.c 8 rfl (.c 9 rfl (.c 10 rfl (.c 47 rfl .nil))))))))) ?_
 have h5358x1 : (((msum c ts).2.2.2) != ((msum c ts).2.2.2)) = false := by simp [mk_length]
 refine sx_condBF rfl h5358x1 ?_
 refine sx_skip ?_
 refine q_n (k37 _ _ ?_)
 refine sx_seq fun K50 k50 => ?_
 refine sx_seq fun K51 k51 => sx_region ?_
 refine mv rfl rfl (mv rfl rfl ?_)
 have f54 := ((f23.ext c24).ext c32).ext cb33
 have f55 := f54.chg cw35 (by omega)
 have f56 := f55.ext c49
 refine sx_call rfl rfl Tryd.call53 (c_toMoneyS f56 (by omega) (hzs (by omega))) (fun v57 w57 p57 => ?_)
 obtain ⟨s57, us57, rfl, os_57, c57⟩ := p57
 have zw57 := c57.size
 have f59 := (os_24.ext c32).ext cb33
 have f60 := f59.chg cw35 (by omega)
 have f62 := (f60.ext c49).ext c57
 refine sx_call rfl rfl Tryd.call55 (c_eqMoneyS (f62).toS (os_57).toS (by omega) (hzs (by omega)) (hzs (by omega))) (fun v63 w63 p63 => ?_)
 obtain ⟨rfl, c63⟩ := p63
 have zw63 := c63.size
 refine sp rfl (px_notP rfl) ?_
 refine wl_nil (q_n (k51 _ _ ?_))
 have h5361 : ¬ (¬ (ts = ts)) := by simp [mk_length]
 refine sx_condPF rfl h5361 ?_
 refine sx_skip ?_
 refine q_n (k50 _ _ ?_)
 refine sx_seq fun K64 k64 => sx_region ?_
 refine av rfl rfl (wl_nil (q_n (k64 _ _ ?_)))
 refine sx_sub (Sub.c 0 rfl (.c 1 rfl (.c 4 rfl (.c 6 rfl (.c 7 rfl (.c 8 rfl (.c 9 rfl (.c 10 rfl (.c 11 rfl .nil))))))))) ?_
 refine sx_seq fun K65 k65 => sx_region ?_
 refine mv rfl rfl (mv rfl rfl ?_)
 have f66 := f62.ext c63
 refine sx_call rfl rfl Tryd.call56 (c_markMoneyS f66 (by omega) (hzs (by omega)) (by omega) (by omega)) (fun v67 w67 p67 => ?_)
 obtain ⟨ks67, rfl, hk67, c67⟩ := p67
 have zw67 := c67.size
 refine av rfl rfl (wl_nil (q_n (k65 _ _ ?_)))
 refine sx_seq fun K68 k68 => ?_
 refine sx_seq fun K69 k69 => sx_region ?_
 refine mv rfl rfl (sp rfl (px_lt rfl rfl) ?_)
 refine mv rfl rfl ?_
 have h5366 : ¬ (((1 : Int) + ↑((ks67 : List Int)).length : Int) < 0) := by omega
 refine sx_tmpPF (t := 58) rfl h5366 ?_
 refine sx_guardT rfl rfl rfl ?_
 have f73 := (((gw35.ext c49).ext c57).ext c63).chg c67 (by omega)
 refine sp rfl (px_load rfl (f73.loadA (vs := [.string ((msum c ts).1), .bool ((msum c ts).2.1), s32]) (look_lit rfl) Tryd.isAgg31 Tryd.sizeOf31)) ?_
 refine sx_guardT rfl rfl rfl ?_
 have f77 := (((f42.ext c49).ext c57).ext c63).chg c67 (by omega)
 refine sp rfl (px_load rfl (f77.loadA (vs := [.string ((msum c ts).1), .bool ((msum c ts).2.1), s14]) (look_lit rfl) Tryd.isAgg31 Tryd.sizeOf31)) ?_
 refine sx_guardT rfl rfl rfl ?_
 have f81 := (((f43.ext c49).ext c57).ext c63).chg c67 (by omega)
 have f85 := (((f48.ext c49).ext c57).ext c63).chg c67 (by omega)
 refine sx_call rfl rfl Tryd.call19 (c_eqMoney f81.sv f85.sv (by omega)) (fun v86 w86 p86 => ?_)
 obtain ⟨rfl, c86⟩ := p86
 have zw86 := c86.size
 refine sx_guardT rfl rfl rfl ?_
 refine sp rfl (px_notP rfl) ?_
 refine sp rfl (px_pick rfl rfl) ?_
 refine mv rfl rfl ?_
 have h5366x1 : ¬ (¬ (((msum c ts).1) = ((msum c ts).1) ∧ ((msum c ts).2.1) = ((msum c ts).2.1) ∧ ((msum c ts).2.2.1) = ((msum c ts).2.2.1))) := by simp [mk_length]
 refine sx_tmpPF (t := 64) rfl h5366x1 ?_
 refine sx_guardT rfl rfl rfl ?_
 refine mv rfl rfl ?_
 refine sx_guardT rfl rfl rfl ?_
 refine mv rfl rfl ?_
 refine sx_guardT rfl rfl rfl ?_
 refine sp rfl (px_neB Tryd.underlying4 rfl rfl) ?_
 refine sp rfl (px_pick rfl rfl) ?_
 refine wl_nil (q_n (k69 _ _ ?_))
 refine sx_sub (Sub.c 0 rfl (.c 1 rfl (.c 4 rfl (.c 6 rfl (.c 7 rfl (.c 9 rfl (.c 68 rfl .nil))))))) ?_
 have h5366x2 : (((msum c ts).2.2.2) != ((msum c ts).2.2.2)) = false := by simp [mk_length]
 refine sx_condBF rfl h5366x2 ?_
 refine sx_skip ?_
 refine q_n (k68 _ _ ?_)
 refine sx_seq fun K87 k87 => sx_region ?_
 refine av rfl rfl (wl_nil (q_n (k87 _ _ ?_)))
 refine sx_seq fun K88 k88 => sx_region ?_
 have f89 := f73.ext c86
 refine sp rfl (px_load rfl (f89.loadA (vs := [.string ((msum c ts).1), .bool ((msum c ts).2.1), s32]) (look_lit rfl) Tryd.isAgg31 Tryd.sizeOf31)) ?_
 refine mv rfl rfl ?_
 have f90 := f81.ext c86
 refine sx_call rfl rfl Tryd.call27 (c_markMoney f90 (by omega) (by omega)) (fun v91 w91 p91 => ?_)
 obtain ⟨rfl, ov1_91, c91⟩ := p91
 have zw91 := c91.size
 refine av rfl rfl (wl_nil (q_n (k88 _ _ ?_)))
 refine sx_seq fun K92 k92 => sx_region ?_
 refine av rfl rfl (wl_nil (q_n (k92 _ _ ?_)))
 refine sx_seq fun K93 k93 => sx_region ?_
 have f94 := f89.chg c91 (by omega)
 refine sp rfl (px_load rfl (f94.loadA (vs := [.string ((msum c ts).1), .bool ((msum c ts).2.1), s32]) (look_lit rfl) Tryd.isAgg31 Tryd.sizeOf31)) ?_
 refine mv rfl rfl (sx_call rfl rfl Tryd.call28 (c_heldMoney ov1_91.sv (by first | omega | (simp only [mk_length]; omega)) (by omega) (by first | assumption | simp [mk_length])) (fun v95 w95 p95 => ?_))
 obtain ⟨rfl, c95⟩ := p95
 have zw95 := c95.size
 refine av rfl rfl (wl_nil (q_n (k93 _ _ ?_)))
 refine sx_sub (Sub.c 0 rfl (.c 1 rfl (.c 4 rfl (.c 6 rfl (.c 7 rfl (.c 9 rfl (.c 12 rfl (.c 13 rfl .nil)))))))) ?_
 refine sx_seq fun K96 k96 => ?_
 refine sx_seq fun K97 k97 => sx_region ?_
 refine mv rfl rfl (sp rfl (px_lt rfl rfl) ?_)
 refine wl_nil (q_n (k97 _ _ ?_))
 have h5373 : ¬ (((1 : Int) + ↑((mk (1 : Int) (((msum c ts).2.2.1)).length)).length : Int) < 0) := by omega
 refine sx_condPF rfl h5373 ?_
 refine sx_skip ?_
 refine q_n (k96 _ _ ?_)
 refine sx_seq fun K98 k98 => ?_
 refine sx_seq fun K99 k99 => sx_region ?_
 refine mv rfl rfl (mv rfl rfl (sp rfl (px_ne rfl rfl) ?_))
 refine wl_nil (q_n (k99 _ _ ?_))
 have h5376 : ¬ (((1 : Int) + ↑((mk (1 : Int) (((msum c ts).2.2.1)).length)).length : Int) ≠ (1 : Int) + ↑(((msum c ts).2.2.1)).length) := by simp [mk_length]
 refine sx_condPF rfl h5376 ?_
 refine sx_skip ?_
 refine q_n (k98 _ _ ?_)
 refine sx_seq fun K100 k100 => sx_region ?_
 refine mv rfl rfl (mv rfl rfl ?_)
 have f106 := (((((f56.ext c57).ext c63).chg c67 (by omega)).ext c86).chg c91 (by omega)).ext c95
 refine sx_call rfl rfl Tryd.call53 (c_toMoneyS f106 (by omega) (hzs (by omega))) (fun v107 w107 p107 => ?_)
 obtain ⟨s107, us107, rfl, os_107, c107⟩ := p107
 have zw107 := c107.size
 have f109 := (f31.ext c32).ext cb33
 have f110 := f109.chg cw35 (by omega)
 have f118 := (((((((f110.ext c49).ext c57).ext c63).chg c67 (by omega)).ext c86).chg c91 (by omega)).ext c95).ext c107
 refine sx_call rfl rfl Tryd.call54 (c_iMoneySum f118 (os_107).toS (by omega) (fun i hi => Nat.le_trans (hzs (by omega) i hi) (by omega))) (fun v119 w119 p119 => ?_)
 obtain ⟨s119, rfl, os_119, hl119, c119⟩ := p119
 have zw119 := c119.size
 refine mv rfl rfl (sp rfl (px_ex2 rfl rfl) ?_)
 refine sp rfl (px_ex2 rfl rfl) ?_
 refine sx_alloc [.string (⟨#[]⟩), .bool false, (.slice none 0 0)] rfl Tryd.zeroValue31 rfl (fun b120 w121 eb120 sb120 fb120 cb120 => ?_)
 have zw121 := cb120.size
 have f123 := os_119.ext cb120
 refine sx_store (vs := [.string ((msum c ts).1), .bool ((msum c ts).2.1), s119]) rfl rfl fb120 rfl Tryd.sizeOf31 (nbl rfl) (one_cons rfl (one_cons rfl (one_cons f123.one one_nil))) (fun w122 sw122 fw122 cw122 => ?_)
 have zw122 := cw122.size
 have gw122 : Blk w122 b120 [.string ((msum c ts).1), .bool ((msum c ts).2.1), s119] 31 := fw122
 refine av rfl rfl (wl_nil (q_n (k100 _ _ ?_)))
 refine sx_sub (Sub.c 4 rfl (.c 6 rfl (.c 7 rfl (.c 9 rfl (.c 12 rfl (.c 13 rfl (.c 14 rfl (.c 15 rfl .nil)))))))) ?_
 refine sx_seq fun K124 k124 => ?_
 refine sx_seq fun K125 k125 => sx_region ?_
 refine sp rfl (px_load rfl (gw122.loadA (vs := [.string ((msum c ts).1), .bool ((msum c ts).2.1), s119]) (look_lit rfl) Tryd.isAgg31 Tryd.sizeOf31)) ?_
 have f131 := (((((f77.ext c86).chg c91 (by omega)).ext c95).ext c107).ext c119).ext cb120
 have f132 := f131.chg cw122 (by omega)
 refine sp rfl (px_load rfl (f132.loadA (vs := [.string ((msum c ts).1), .bool ((msum c ts).2.1), s14]) (look_lit rfl) Tryd.isAgg31 Tryd.sizeOf31)) ?_
 have f133 := f123.chg cw122 (by omega)
 have f139 := (((((f85.ext c86).chg c91 (by omega)).ext c95).ext c107).ext c119).ext cb120
 have f140 := f139.chg cw122 (by omega)
 refine sx_call rfl rfl Tryd.call19 (c_eqMoney f133.sv f140.sv (by omega)) (fun v141 w141 p141 => ?_)
 obtain ⟨rfl, c141⟩ := p141
 have zw141 := c141.size
 refine sp rfl (px_notP rfl) ?_
 refine mv rfl rfl ?_
 have h5380 : ¬ (¬ (((msum c ts).1) = ((msum c ts).1) ∧ ((msum c ts).2.1) = ((msum c ts).2.1) ∧ ((msum c ts).2.2.1) = ((msum c ts).2.2.1))) := by simp [mk_length]
 refine sx_tmpPF (t := 91) rfl h5380 ?_
 refine sx_guardT rfl rfl rfl ?_
 refine mv rfl rfl ?_
 refine sx_guardT rfl rfl rfl ?_
 refine mv rfl rfl ?_
 refine sx_guardT rfl rfl rfl ?_
 refine sp rfl (px_neB Tryd.underlying4 rfl rfl) ?_
 refine sp rfl (px_pick rfl rfl) ?_
 refine wl_nil (q_n (k125 _ _ ?_))
 refine sx_sub (Sub.c 4 rfl (.c 9 rfl (.c 12 rfl (.c 13 rfl (.c 95 rfl .nil))))) ?_
 have h5380x1 : (((msum c ts).2.2.2) != ((msum c ts).2.2.2)) = false := by simp [mk_length]
 refine sx_condBF rfl h5380x1 ?_
 refine sx_skip ?_
 refine q_n (k124 _ _ ?_)
 refine sx_seq fun K142 k142 => sx_region ?_
 refine av rfl rfl (wl_nil (q_n (k142 _ _ ?_)))
 refine sx_seq fun K143 k143 => sx_region ?_
 have f147 := (((f94.ext c95).ext c107).ext c119).ext cb120
 have f148 := f147.chg cw122 (by omega)
 have f149 := f148.ext c141
 refine sp rfl (px_load rfl (f149.loadA (vs := [.string ((msum c ts).1), .bool ((msum c ts).2.1), s32]) (look_lit rfl) Tryd.isAgg31 Tryd.sizeOf31)) ?_
 refine mv rfl rfl ?_
 have f153 := (((ov1_91.ext c95).ext c107).ext c119).ext cb120
 have f154 := f153.chg cw122 (by omega)
 have f155 := f154.ext c141
 refine sx_call rfl rfl Tryd.call28 (c_heldMoney f155.sv (by first | omega | (simp only [mk_length]; omega)) (by omega) (by first | assumption | simp [mk_length])) (fun v156 w156 p156 => ?_)
 obtain ⟨rfl, c156⟩ := p156
 have zw156 := c156.size
 refine av rfl rfl (wl_nil (q_n (k143 _ _ ?_)))
 refine sx_seq fun K157 k157 => ?_
 refine sx_seq fun K158 k158 => sx_region ?_
 refine mv rfl rfl (sp rfl (px_lt rfl rfl) ?_)
 refine wl_nil (q_n (k158 _ _ ?_))
 have h5385 : ¬ (((1 : Int) + ↑((mk (1 : Int) (((msum c ts).2.2.1)).length)).length : Int) < 0) := by omega
 refine sx_condPF rfl h5385 ?_
 refine sx_skip ?_
 refine q_n (k157 _ _ ?_)
 refine sx_seq fun K159 k159 => ?_
 refine sx_seq fun K160 k160 => sx_region ?_
 refine mv rfl rfl (mv rfl rfl (sp rfl (px_ne rfl rfl) ?_))
 refine wl_nil (q_n (k160 _ _ ?_))
 have h5388 : ¬ (((1 : Int) + ↑((mk (1 : Int) (((msum c ts).2.2.1)).length)).length : Int) ≠ (1 : Int) + ↑(((msum c ts).2.2.1)).length) := by simp [mk_length]
 refine sx_condPF rfl h5388 ?_
 refine sx_skip ?_
 refine q_n (k159 _ _ ?_)
 refine sx_seq fun K161 k161 => sx_region ?_
 refine av rfl rfl (wl_nil (q_n (k161 _ _ ?_)))
 refine sx_retc ?_
 refine sx_ret1 Tryd.results14 rfl ?_
 have q162 := Chg.step (l := 0) (h := 0) (Chg.zero (l := 0) (h := 0) (((c7.t c13).t c14).t cb15)) cw17 (by omega)
 have q163 := Chg.step (l := 0) (h := 0) q162 ((c24.t c32).t cb33) (by omega)
 have q164 := Chg.step (l := 0) (h := 0) q163 cw35 (by omega)
 have q165 := Chg.step (l := 0) (h := 0) q164 ((c49.t c57).t c63) (by omega)
 have q166 := Chg.step (l := 0) (h := 0) q165 c67 (by omega)
 have q167 := Chg.step (l := 0) (h := 0) q166 c86 (by omega)
 have q168 := Chg.step (l := 0) (h := 0) q167 c91 (by omega)
 have q169 := Chg.step (l := 0) (h := 0) q168 (((c95.t c107).t c119).t cb120) (by omega)
 have q170 := Chg.step (l := 0) (h := 0) q169 cw122 (by omega)
 have q171 := Chg.step (l := 0) (h := 0) q170 (c141.t c156) (by omega)
 exact ⟨rfl, q171⟩

end Go.Proofs.YtomfgkfpihemlaaDoor
