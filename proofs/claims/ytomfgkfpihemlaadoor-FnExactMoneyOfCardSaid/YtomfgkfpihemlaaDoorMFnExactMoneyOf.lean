/- Contracts of functions of the program: what each call returns, and that it changes nothing that was. Conditions: as each says. -/
import Derived.Test.YtomfgkfpihemlaaDoorTy
import Derived.Test.YtomfgkfpihemlaaDoorNatE
import Derived.Test.YtomfgkfpihemlaaDoorK0
set_option linter.unusedVariables false
set_option linter.unusedSimpArgs false
namespace Go.Proofs.YtomfgkfpihemlaaDoor
open Go Go.RowKit
set_option maxRecDepth 100000
theorem law_MoneyOf {w : World} {c : ByteArray} {k : Int} (hG0 : Glob w) (bc : c.size ≤ 9223372036854775807) (bik : -9223372036854775808 ≤ k ∧ k ≤ 9223372036854775807) :
  Ret Tryd.prog 5 [.string c, .int .i64 k] w fun v w' => v = .bool (true) ∧ Chg 0 0 w w' := by
 have hG0l : 0 < w.heap.size := by obtain ⟨T, fz, h1⟩ := hG0; rcases Nat.lt_or_ge 0 w.heap.size with h2 | h2; exact h2; simp [Array.getElem?_eq_none h2] at h1
 refine sx_enter Tryd.func5 rfl Tryd.ntmps5 (Nat.le_of_ble_eq_true rfl) ?_
 refine sx_seq fun K1 k1 => sx_region ?_
 refine sa rfl rfl rfl rfl ?_
 refine wl_nil (q_n (k1 _ _ ?_))
 refine sx_seq fun K2 k2 => ?_
 refine sx_seq fun K3 k3 => sx_region ?_
 refine sm rfl rfl rfl rfl ?_
 refine sx_pure rfl rfl rfl (px_lenS rfl Tryd.underlying9) ?_
 refine sx_pure rfl rfl rfl (px_gt rfl rfl) ?_
 refine wl_nil (q_n (k3 _ _ ?_))
 refine sx_condP rfl (fun h4898 => ?_) (fun h4898 => ?_)
 ·
  refine sx_seq fun K4 k4 => sx_region ?_
  refine sa rfl rfl rfl rfl ?_
  refine wl_nil (q_n (k4 _ _ ?_))
  refine sx_retc ?_
  refine q_r (sx_ret1 Tryd.results5 rfl ?_)
  exact ⟨rfl, (Chg.refl 0 0 _)⟩
 ·
  refine sx_skip ?_
  refine q_n (k2 _ _ ?_)
  refine sx_seq fun K5 k5 => sx_region ?_
  refine sm rfl rfl rfl rfl ?_
  refine sm rfl rfl rfl rfl ?_
  refine sx_call rfl rfl Tryd.call25 (c_sMoneyOf (by omega)) (fun v6 w6 p6 => ?_)
  obtain ⟨s6, rfl, os_6, hl6, c6⟩ := p6
  have zw6 := c6.size
  refine sm rfl rfl rfl rfl ?_
  refine sx_pure rfl rfl rfl (px_extract (vs := [.agg #[.string ((mR c k).1), .bool ((mR c k).2.1), s6], .bool ((mR c k).2.2.2)]) rfl rfl) ?_
  refine sx_pure rfl rfl rfl (px_extract (vs := [.agg #[.string ((mR c k).1), .bool ((mR c k).2.1), s6], .bool ((mR c k).2.2.2)]) rfl rfl) ?_
  refine sx_alloc [.string (⟨#[]⟩), .bool false, (.slice none 0 0)] rfl Tryd.zeroValue31 rfl (fun b7 w8 eb7 sb7 fb7 cb7 => ?_)
  have zw8 := cb7.size
  have f10 := os_6.ext cb7
  refine sx_store (vs := [.string ((mR c k).1), .bool ((mR c k).2.1), s6]) rfl rfl fb7 rfl Tryd.sizeOf31 (Nat.le_of_ble_eq_true rfl) (one_cons rfl (one_cons rfl (one_cons f10.one one_nil))) (fun w9 sw9 fw9 cw9 => ?_)
  have zw9 := cw9.size
  have gw9 : Blk w9 b7 [.string ((mR c k).1), .bool ((mR c k).2.1), s6] 31 := fw9
  refine sa rfl rfl rfl rfl ?_
  refine wl_nil (q_n (k5 _ _ ?_))
  refine sx_seq fun K11 k11 => sx_region ?_
  refine sm rfl rfl rfl rfl ?_
  refine sm rfl rfl rfl rfl ?_
  have f12 := hG0.ext c6
  have f13 := f12.ext cb7
  have f14 := f13.chg cw9 (by omega)
  refine sx_call rfl rfl Tryd.call26 (c_iMoneyOf f14 (by omega)) (fun v15 w15 p15 => ?_)
  obtain ⟨s15, rfl, os_15, hl15, c15⟩ := p15
  have zw15 := c15.size
  refine sm rfl rfl rfl rfl ?_
  refine sx_pure rfl rfl rfl (px_extract (vs := [.agg #[.string ((mR c k).1), .bool ((mR c k).2.1), s15], .bool ((mR c k).2.2.2)]) rfl rfl) ?_
  refine sx_pure rfl rfl rfl (px_extract (vs := [.agg #[.string ((mR c k).1), .bool ((mR c k).2.1), s15], .bool ((mR c k).2.2.2)]) rfl rfl) ?_
  refine sx_alloc [.string (⟨#[]⟩), .bool false, (.slice none 0 0)] rfl Tryd.zeroValue31 rfl (fun b16 w17 eb16 sb16 fb16 cb16 => ?_)
  have zw17 := cb16.size
  have f19 := os_15.ext cb16
  refine sx_store (vs := [.string ((mR c k).1), .bool ((mR c k).2.1), s15]) rfl rfl fb16 rfl Tryd.sizeOf31 (Nat.le_of_ble_eq_true rfl) (one_cons rfl (one_cons rfl (one_cons f19.one one_nil))) (fun w18 sw18 fw18 cw18 => ?_)
  have zw18 := cw18.size
  have gw18 : Blk w18 b16 [.string ((mR c k).1), .bool ((mR c k).2.1), s15] 31 := fw18
  refine sa rfl rfl rfl rfl ?_
  refine wl_nil (q_n (k11 _ _ ?_))
  refine sx_sub (Sub.cons (t := 0) rfl (.cons (t := 1) rfl (.cons (t := 4) rfl (.cons (t := 5) rfl (.cons (t := 6) rfl (.cons (t := 7) rfl (.cons (t := 8) rfl (.nil)))))))) ?_
  refine sx_seq fun K20 k20 => ?_
  refine sx_seq fun K21 k21 => sx_region ?_
  refine sx_pure rfl rfl rfl (px_load rfl (gw18.loadA (vs := [.string ((mR c k).1), .bool ((mR c k).2.1), s15]) (look_lit rfl) Tryd.isAgg31 Tryd.sizeOf31)) ?_
  have f22 := gw9.ext c15
  have f23 := f22.ext cb16
  have f24 := f23.chg cw18 (by omega)
  refine sx_pure rfl rfl rfl (px_load rfl (f24.loadA (vs := [.string ((mR c k).1), .bool ((mR c k).2.1), s6]) (look_lit rfl) Tryd.isAgg31 Tryd.sizeOf31)) ?_
  have f25 := f19.chg cw18 (by omega)
  have f26 := f10.chg cw9 (by omega)
  have f27 := f26.ext c15
  have f28 := f27.ext cb16
  have f29 := f28.chg cw18 (by omega)
  refine sx_call rfl rfl Tryd.call19 (c_eqMoney f25.sv f29.sv (by omega)) (fun v30 w30 p30 => ?_)
  obtain ⟨rfl, c30⟩ := p30
  have zw30 := c30.size
  refine sx_pure rfl rfl rfl (px_notP rfl) ?_
  refine sm rfl rfl rfl rfl ?_
  have h4903 : ¬ (¬ (((mR c k).1) = ((mR c k).1) ∧ ((mR c k).2.1) = ((mR c k).2.1) ∧ ((mR c k).2.2.1) = ((mR c k).2.2.1))) := by simp [mk_length]
  refine sx_tmpPF (t := 32) rfl h4903 ?_
  refine sx_guardT rfl rfl rfl ?_
  refine sm rfl rfl rfl rfl ?_
  refine sx_guardT rfl rfl rfl ?_
  refine sm rfl rfl rfl rfl ?_
  refine sx_guardT rfl rfl rfl ?_
  refine sx_pure rfl rfl rfl (px_neB Tryd.underlying4 rfl rfl) ?_
  refine sx_pure rfl rfl rfl (px_pick rfl rfl) ?_
  refine wl_nil (q_n (k21 _ _ ?_))
  refine sx_sub (Sub.cons (t := 0) rfl (.cons (t := 1) rfl (.cons (t := 4) rfl (.cons (t := 5) rfl (.cons (t := 6) rfl (.cons (t := 7) rfl (.cons (t := 36) rfl (.nil)))))))) ?_
  have h4903x1 : (((mR c k).2.2.2) != ((mR c k).2.2.2)) = false := by simp [mk_length]
  refine sx_condBF rfl h4903x1 ?_
  refine sx_skip ?_
  refine q_n (k20 _ _ ?_)
  refine sx_seq fun K31 k31 => sx_region ?_
  refine sa rfl rfl rfl rfl ?_
  refine wl_nil (q_n (k31 _ _ ?_))
  refine sx_seq fun K32 k32 => sx_region ?_
  have f33 := gw18.ext c30
  refine sx_pure rfl rfl rfl (px_load rfl (f33.loadA (vs := [.string ((mR c k).1), .bool ((mR c k).2.1), s15]) (look_lit rfl) Tryd.isAgg31 Tryd.sizeOf31)) ?_
  refine sm rfl rfl rfl rfl ?_
  have f34 := f25.ext c30
  refine sx_call rfl rfl Tryd.call27 (c_markMoney f34 (by omega) (by omega)) (fun v35 w35 p35 => ?_)
  obtain ⟨rfl, ov1_35, c35⟩ := p35
  have zw35 := c35.size
  refine sa rfl rfl rfl rfl ?_
  refine wl_nil (q_n (k32 _ _ ?_))
  refine sx_seq fun K36 k36 => sx_region ?_
  refine sa rfl rfl rfl rfl ?_
  refine wl_nil (q_n (k36 _ _ ?_))
  refine sx_seq fun K37 k37 => sx_region ?_
  have f38 := f33.chg c35 (by omega)
  refine sx_pure rfl rfl rfl (px_load rfl (f38.loadA (vs := [.string ((mR c k).1), .bool ((mR c k).2.1), s15]) (look_lit rfl) Tryd.isAgg31 Tryd.sizeOf31)) ?_
  refine sm rfl rfl rfl rfl ?_
  refine sx_call rfl rfl Tryd.call28 (c_heldMoney ov1_35.sv (by first | omega | (simp only [mk_length]; omega)) (by omega) (by first | assumption | simp [mk_length])) (fun v39 w39 p39 => ?_)
  obtain ⟨rfl, c39⟩ := p39
  have zw39 := c39.size
  refine sa rfl rfl rfl rfl ?_
  refine wl_nil (q_n (k37 _ _ ?_))
  refine sx_sub (Sub.cons (t := 0) rfl (.cons (t := 1) rfl (.cons (t := 4) rfl (.cons (t := 5) rfl (.cons (t := 6) rfl (.cons (t := 7) rfl (.cons (t := 9) rfl (.cons (t := 10) rfl (.nil))))))))) ?_
  refine sx_seq fun K40 k40 => ?_
  refine sx_seq fun K41 k41 => sx_region ?_
  refine sm rfl rfl rfl rfl ?_
  refine sx_pure rfl rfl rfl (px_lt rfl rfl) ?_
  refine wl_nil (q_n (k41 _ _ ?_))
  have h4910 : ¬ ((1 + ↑((mk 1 (((mR c k).2.2.1)).length)).length : Int) < 0) := by omega
  refine sx_condPF rfl h4910 ?_
  refine sx_skip ?_
  refine q_n (k40 _ _ ?_)
  refine sx_seq fun K42 k42 => ?_
  refine sx_seq fun K43 k43 => sx_region ?_
  refine sm rfl rfl rfl rfl ?_
  refine sm rfl rfl rfl rfl ?_
  refine sx_pure rfl rfl rfl (px_ne rfl rfl) ?_
  refine wl_nil (q_n (k43 _ _ ?_))
  have h4913 : ¬ ((1 + ↑((mk 1 (((mR c k).2.2.1)).length)).length : Int) ≠ 1 + ↑(((mR c k).2.2.1)).length) := by simp [mk_length]
  refine sx_condPF rfl h4913 ?_
  refine sx_skip ?_
  refine q_n (k42 _ _ ?_)
  refine sx_seq fun K44 k44 => sx_region ?_
  refine sm rfl rfl rfl rfl ?_
  refine sm rfl rfl rfl rfl ?_
  have f45 := f14.ext c15
  have f46 := f45.ext cb16
  have f47 := f46.chg cw18 (by omega)
  have f48 := f47.ext c30
  have f49 := f48.chg c35 (by omega)
  have f50 := f49.ext c39
  refine sx_call rfl rfl Tryd.call26 (c_iMoneyOf f50 (by omega)) (fun v51 w51 p51 => ?_)
  obtain ⟨s51, rfl, os_51, hl51, c51⟩ := p51
  have zw51 := c51.size
  refine sm rfl rfl rfl rfl ?_
  refine sx_pure rfl rfl rfl (px_extract (vs := [.agg #[.string ((mR c k).1), .bool ((mR c k).2.1), s51], .bool ((mR c k).2.2.2)]) rfl rfl) ?_
  refine sx_pure rfl rfl rfl (px_extract (vs := [.agg #[.string ((mR c k).1), .bool ((mR c k).2.1), s51], .bool ((mR c k).2.2.2)]) rfl rfl) ?_
  refine sx_alloc [.string (⟨#[]⟩), .bool false, (.slice none 0 0)] rfl Tryd.zeroValue31 rfl (fun b52 w53 eb52 sb52 fb52 cb52 => ?_)
  have zw53 := cb52.size
  have f55 := os_51.ext cb52
  refine sx_store (vs := [.string ((mR c k).1), .bool ((mR c k).2.1), s51]) rfl rfl fb52 rfl Tryd.sizeOf31 (Nat.le_of_ble_eq_true rfl) (one_cons rfl (one_cons rfl (one_cons f55.one one_nil))) (fun w54 sw54 fw54 cw54 => ?_)
  have zw54 := cw54.size
  have gw54 : Blk w54 b52 [.string ((mR c k).1), .bool ((mR c k).2.1), s51] 31 := fw54
  refine sa rfl rfl rfl rfl ?_
  refine wl_nil (q_n (k44 _ _ ?_))
  refine sx_sub (Sub.cons (t := 4) rfl (.cons (t := 5) rfl (.cons (t := 6) rfl (.cons (t := 7) rfl (.cons (t := 9) rfl (.cons (t := 10) rfl (.cons (t := 11) rfl (.cons (t := 12) rfl (.nil))))))))) ?_
  refine sx_seq fun K56 k56 => ?_
  refine sx_seq fun K57 k57 => sx_region ?_
  refine sx_pure rfl rfl rfl (px_load rfl (gw54.loadA (vs := [.string ((mR c k).1), .bool ((mR c k).2.1), s51]) (look_lit rfl) Tryd.isAgg31 Tryd.sizeOf31)) ?_
  have f58 := f24.ext c30
  have f59 := f58.chg c35 (by omega)
  have f60 := f59.ext c39
  have f61 := f60.ext c51
  have f62 := f61.ext cb52
  have f63 := f62.chg cw54 (by omega)
  refine sx_pure rfl rfl rfl (px_load rfl (f63.loadA (vs := [.string ((mR c k).1), .bool ((mR c k).2.1), s6]) (look_lit rfl) Tryd.isAgg31 Tryd.sizeOf31)) ?_
  have f64 := f55.chg cw54 (by omega)
  have f65 := f29.ext c30
  have f66 := f65.chg c35 (by omega)
  have f67 := f66.ext c39
  have f68 := f67.ext c51
  have f69 := f68.ext cb52
  have f70 := f69.chg cw54 (by omega)
  refine sx_call rfl rfl Tryd.call19 (c_eqMoney f64.sv f70.sv (by omega)) (fun v71 w71 p71 => ?_)
  obtain ⟨rfl, c71⟩ := p71
  have zw71 := c71.size
  refine sx_pure rfl rfl rfl (px_notP rfl) ?_
  refine sm rfl rfl rfl rfl ?_
  have h4917 : ¬ (¬ (((mR c k).1) = ((mR c k).1) ∧ ((mR c k).2.1) = ((mR c k).2.1) ∧ ((mR c k).2.2.1) = ((mR c k).2.2.1))) := by simp [mk_length]
  refine sx_tmpPF (t := 58) rfl h4917 ?_
  refine sx_guardT rfl rfl rfl ?_
  refine sm rfl rfl rfl rfl ?_
  refine sx_guardT rfl rfl rfl ?_
  refine sm rfl rfl rfl rfl ?_
  refine sx_guardT rfl rfl rfl ?_
  refine sx_pure rfl rfl rfl (px_neB Tryd.underlying4 rfl rfl) ?_
  refine sx_pure rfl rfl rfl (px_pick rfl rfl) ?_
  refine wl_nil (q_n (k57 _ _ ?_))
  refine sx_sub (Sub.cons (t := 4) rfl (.cons (t := 7) rfl (.cons (t := 9) rfl (.cons (t := 10) rfl (.cons (t := 62) rfl (.nil)))))) ?_
  have h4917x1 : (((mR c k).2.2.2) != ((mR c k).2.2.2)) = false := by simp [mk_length]
  refine sx_condBF rfl h4917x1 ?_
  refine sx_skip ?_
  refine q_n (k56 _ _ ?_)
  refine sx_seq fun K72 k72 => sx_region ?_
  refine sa rfl rfl rfl rfl ?_
  refine wl_nil (q_n (k72 _ _ ?_))
  refine sx_seq fun K73 k73 => sx_region ?_
  have f74 := f38.ext c39
  have f75 := f74.ext c51
  have f76 := f75.ext cb52
  have f77 := f76.chg cw54 (by omega)
  have f78 := f77.ext c71
  refine sx_pure rfl rfl rfl (px_load rfl (f78.loadA (vs := [.string ((mR c k).1), .bool ((mR c k).2.1), s15]) (look_lit rfl) Tryd.isAgg31 Tryd.sizeOf31)) ?_
  refine sm rfl rfl rfl rfl ?_
  have f79 := ov1_35.ext c39
  have f80 := f79.ext c51
  have f81 := f80.ext cb52
  have f82 := f81.chg cw54 (by omega)
  have f83 := f82.ext c71
  refine sx_call rfl rfl Tryd.call28 (c_heldMoney f83.sv (by first | omega | (simp only [mk_length]; omega)) (by omega) (by first | assumption | simp [mk_length])) (fun v84 w84 p84 => ?_)
  obtain ⟨rfl, c84⟩ := p84
  have zw84 := c84.size
  refine sa rfl rfl rfl rfl ?_
  refine wl_nil (q_n (k73 _ _ ?_))
  refine sx_seq fun K85 k85 => ?_
  refine sx_seq fun K86 k86 => sx_region ?_
  refine sm rfl rfl rfl rfl ?_
  refine sx_pure rfl rfl rfl (px_lt rfl rfl) ?_
  refine wl_nil (q_n (k86 _ _ ?_))
  have h4922 : ¬ ((1 + ↑((mk 1 (((mR c k).2.2.1)).length)).length : Int) < 0) := by omega
  refine sx_condPF rfl h4922 ?_
  refine sx_skip ?_
  refine q_n (k85 _ _ ?_)
  refine sx_seq fun K87 k87 => ?_
  refine sx_seq fun K88 k88 => sx_region ?_
  refine sm rfl rfl rfl rfl ?_
  refine sm rfl rfl rfl rfl ?_
  refine sx_pure rfl rfl rfl (px_ne rfl rfl) ?_
  refine wl_nil (q_n (k88 _ _ ?_))
  have h4925 : ¬ ((1 + ↑((mk 1 (((mR c k).2.2.1)).length)).length : Int) ≠ 1 + ↑(((mR c k).2.2.1)).length) := by simp [mk_length]
  refine sx_condPF rfl h4925 ?_
  refine sx_skip ?_
  refine q_n (k87 _ _ ?_)
  refine sx_seq fun K89 k89 => sx_region ?_
  refine sa rfl rfl rfl rfl ?_
  refine wl_nil (q_n (k89 _ _ ?_))
  refine sx_retc ?_
  refine sx_ret1 Tryd.results5 rfl ?_
  have q90 := Chg.step (l := 0) (h := 0) (Chg.zero (l := 0) (h := 0) (c6.t cb7)) cw9 (by omega)
  have q91 := Chg.step (l := 0) (h := 0) q90 (c15.t cb16) (by omega)
  have q92 := Chg.step (l := 0) (h := 0) q91 cw18 (by omega)
  have q93 := Chg.step (l := 0) (h := 0) q92 c30 (by omega)
  have q94 := Chg.step (l := 0) (h := 0) q93 c35 (by omega)
  have q95 := Chg.step (l := 0) (h := 0) q94 ((c39.t c51).t cb52) (by omega)
  have q96 := Chg.step (l := 0) (h := 0) q95 cw54 (by omega)
  have q97 := Chg.step (l := 0) (h := 0) q96 (c71.t c84) (by omega)
  exact ⟨rfl, q97⟩

end Go.Proofs.YtomfgkfpihemlaaDoor
