/- Contracts of functions of the program: what each call returns, and that it changes nothing that was. Conditions: as each says. -/
import Derived.Test.YtomfgkfpihemlaaDoorTy
import Derived.Test.YtomfgkfpihemlaaDoorNatI
import Derived.Test.YtomfgkfpihemlaaDoorK3
set_option linter.unusedVariables false
set_option linter.unusedSimpArgs false
namespace Go.Proofs.YtomfgkfpihemlaaDoor
open Go Go.RowKit
set_option maxRecDepth 100000
theorem law_CurUnit {w : World} {cc : ByteArray} (hG0 : Glob w) (bs : cc.size ≤ 9223372036854775807) :
  Ret Tryd.prog 4 [.string cc] w fun v w' => v = .bool (true) ∧ Chg 0 0 w w' := by
 have hG0l : 0 < w.heap.size := by obtain ⟨T, fz, h1⟩ := hG0; rcases Nat.lt_or_ge 0 w.heap.size with h2 | h2; exact h2; simp [Array.getElem?_eq_none h2] at h1
 refine sx_enter Tryd.func4 rfl Tryd.ntmps4 (Nat.le_of_ble_eq_true rfl) ?_
 refine sx_seq fun K1 k1 => sx_region ?_
 refine sa rfl rfl rfl rfl ?_
 refine wl_nil (q_n (k1 _ _ ?_))
 refine sx_seq fun K2 k2 => ?_
 refine sx_seq fun K3 k3 => sx_region ?_
 refine sm rfl rfl rfl rfl ?_
 refine sx_pure rfl rfl rfl (px_lenS rfl Tryd.underlying9) ?_
 refine sx_pure rfl rfl rfl (px_gt rfl rfl) ?_
 refine wl_nil (q_n (k3 _ _ ?_))
 refine sx_condP rfl (fun h4844 => ?_) (fun h4844 => ?_)
 ·
  refine sx_seq fun K4 k4 => sx_region ?_
  refine sa rfl rfl rfl rfl ?_
  refine wl_nil (q_n (k4 _ _ ?_))
  refine sx_retc ?_
  refine q_r (sx_ret1 Tryd.results4 rfl ?_)
  exact ⟨rfl, (Chg.refl 0 0 _)⟩
 ·
  refine sx_skip ?_
  refine q_n (k2 _ _ ?_)
  refine sx_seq fun K5 k5 => sx_region ?_
  refine sm rfl rfl rfl rfl ?_
  refine sx_call rfl rfl Tryd.call20 (c_sCurUnit) (fun v6 w6 p6 => ?_)
  obtain ⟨s6, t6, ls6, us6, lt6, ut6, rfl, os_6, ot_6, hd6, hl6, c6⟩ := p6
  have zw6 := c6.size
  refine sx_alloc [.bool false, (.slice none 0 0), (.slice none 0 0)] rfl Tryd.zeroValue36 rfl (fun b7 w8 eb7 sb7 fb7 cb7 => ?_)
  have zw8 := cb7.size
  have f10 := ot_6.ext cb7
  have f11 := os_6.ext cb7
  refine sx_store (vs := [.bool ((cUnit cc).1), s6, t6]) rfl rfl fb7 rfl Tryd.sizeOf36 (Nat.le_of_ble_eq_true rfl) (one_cons rfl (one_cons f11.one (one_cons f10.one one_nil))) (fun w9 sw9 fw9 cw9 => ?_)
  have zw9 := cw9.size
  have gw9 : Blk w9 b7 [.bool ((cUnit cc).1), s6, t6] 36 := fw9
  refine wl_nil (q_n (k5 _ _ ?_))
  refine sx_seq fun K12 k12 => sx_region ?_
  refine sm rfl rfl rfl rfl ?_
  have f13 := hG0.ext c6
  have f14 := f13.ext cb7
  have f15 := f14.chg cw9 (by omega)
  refine sx_call rfl rfl Tryd.call21 (c_iCurUnit f15) (fun v16 w16 p16 => ?_)
  obtain ⟨s16, t16, ls16, us16, lt16, ut16, rfl, os_16, ot_16, hd16, hl16, c16⟩ := p16
  have zw16 := c16.size
  refine sx_alloc [.bool false, (.slice none 0 0), (.slice none 0 0)] rfl Tryd.zeroValue36 rfl (fun b17 w18 eb17 sb17 fb17 cb17 => ?_)
  have zw18 := cb17.size
  have f20 := ot_16.ext cb17
  have f21 := os_16.ext cb17
  refine sx_store (vs := [.bool ((cUnit cc).1), s16, t16]) rfl rfl fb17 rfl Tryd.sizeOf36 (Nat.le_of_ble_eq_true rfl) (one_cons rfl (one_cons f21.one (one_cons f20.one one_nil))) (fun w19 sw19 fw19 cw19 => ?_)
  have zw19 := cw19.size
  have gw19 : Blk w19 b17 [.bool ((cUnit cc).1), s16, t16] 36 := fw19
  refine wl_nil (q_n (k12 _ _ ?_))
  refine sx_seq fun K22 k22 => ?_
  refine sx_seq fun K23 k23 => sx_region ?_
  refine sx_pure rfl rfl rfl (px_load rfl (gw19.loadA (vs := [.bool ((cUnit cc).1), s16, t16]) (look_lit rfl) Tryd.isAgg36 Tryd.sizeOf36)) ?_
  have f24 := gw9.ext c16
  have f25 := f24.ext cb17
  have f26 := f25.chg cw19 (by omega)
  refine sx_pure rfl rfl rfl (px_load rfl (f26.loadA (vs := [.bool ((cUnit cc).1), s6, t6]) (look_lit rfl) Tryd.isAgg36 Tryd.sizeOf36)) ?_
  have f27 := f21.chg cw19 (by omega)
  have f28 := f20.chg cw19 (by omega)
  have f29 := f11.chg cw9 (by omega)
  have f30 := f29.ext c16
  have f31 := f30.ext cb17
  have f32 := f31.chg cw19 (by omega)
  have f33 := f10.chg cw9 (by omega)
  have f34 := f33.ext c16
  have f35 := f34.ext cb17
  have f36 := f35.chg cw19 (by omega)
  refine sx_call rfl rfl Tryd.call22 (c_eqRat f27.sv f28.sv f32.sv f36.sv (by omega)) (fun v37 w37 p37 => ?_)
  obtain ⟨rfl, c37⟩ := p37
  have zw37 := c37.size
  refine sx_pure rfl rfl rfl (px_notP rfl) ?_
  refine wl_nil (q_n (k23 _ _ ?_))
  refine sx_sub (Sub.cons (t := 0) rfl (.cons (t := 2) rfl (.cons (t := 3) rfl (.cons (t := 4) rfl (.cons (t := 18) rfl (.nil)))))) ?_
  have h4849 : ¬ (¬ (((cUnit cc).1) = ((cUnit cc).1) ∧ ((cUnit cc).2.1) = ((cUnit cc).2.1) ∧ ((cUnit cc).2.2.1) = ((cUnit cc).2.2.1))) := by simp [mk_length]
  refine sx_condPF rfl h4849 ?_
  refine sx_skip ?_
  refine q_n (k22 _ _ ?_)
  refine sx_seq fun K38 k38 => sx_region ?_
  refine sa rfl rfl rfl rfl ?_
  refine wl_nil (q_n (k38 _ _ ?_))
  refine sx_seq fun K39 k39 => sx_region ?_
  have f40 := gw19.ext c37
  refine sx_pure rfl rfl rfl (px_load rfl (f40.loadA (vs := [.bool ((cUnit cc).1), s16, t16]) (look_lit rfl) Tryd.isAgg36 Tryd.sizeOf36)) ?_
  refine sm rfl rfl rfl rfl ?_
  have f41 := f27.ext c37
  have f42 := f28.ext c37
  refine sx_call rfl rfl Tryd.call23 (c_markRat f41 f42 (by omega) (by omega) (by omega)) (fun v43 w43 p43 => ?_)
  obtain ⟨rfl, ov1_43, od1_43, c43⟩ := p43
  have zw43 := c43.size
  refine sa rfl rfl rfl rfl ?_
  refine wl_nil (q_n (k39 _ _ ?_))
  refine sx_seq fun K44 k44 => sx_region ?_
  refine sa rfl rfl rfl rfl ?_
  refine wl_nil (q_n (k44 _ _ ?_))
  refine sx_seq fun K45 k45 => sx_region ?_
  have f46 := f40.chg c43 (by omega)
  refine sx_pure rfl rfl rfl (px_load rfl (f46.loadA (vs := [.bool ((cUnit cc).1), s16, t16]) (look_lit rfl) Tryd.isAgg36 Tryd.sizeOf36)) ?_
  refine sm rfl rfl rfl rfl ?_
  refine sx_call rfl rfl Tryd.call24 (c_heldRat ov1_43.sv od1_43.sv (by first | omega | (simp only [mk_length]; omega)) (by omega) (by simp [mk_length])) (fun v47 w47 p47 => ?_)
  obtain ⟨rfl, c47⟩ := p47
  have zw47 := c47.size
  refine sa rfl rfl rfl rfl ?_
  refine wl_nil (q_n (k45 _ _ ?_))
  refine sx_seq fun K48 k48 => ?_
  refine sx_seq fun K49 k49 => sx_region ?_
  refine sm rfl rfl rfl rfl ?_
  refine sx_pure rfl rfl rfl (px_lt rfl rfl) ?_
  refine wl_nil (q_n (k49 _ _ ?_))
  refine sx_sub (Sub.cons (t := 0) rfl (.cons (t := 2) rfl (.cons (t := 3) rfl (.cons (t := 4) rfl (.cons (t := 5) rfl (.cons (t := 6) rfl (.cons (t := 26) rfl (.nil)))))))) ?_
  have h4856 : ¬ ((1 + ↑((mk 1 (((cUnit cc).2.1)).length)).length + ↑((mk (1 + ↑(((cUnit cc).2.1)).length) (((cUnit cc).2.2.1)).length)).length : Int) < 0) := by omega
  refine sx_condPF rfl h4856 ?_
  refine sx_skip ?_
  refine q_n (k48 _ _ ?_)
  refine sx_seq fun K50 k50 => ?_
  refine sx_seq fun K51 k51 => sx_region ?_
  refine sm rfl rfl rfl rfl ?_
  refine sm rfl rfl rfl rfl ?_
  refine sx_pure rfl rfl rfl (px_ne rfl rfl) ?_
  refine wl_nil (q_n (k51 _ _ ?_))
  have h4859 : ¬ ((1 + ↑((mk 1 (((cUnit cc).2.1)).length)).length + ↑((mk (1 + ↑(((cUnit cc).2.1)).length) (((cUnit cc).2.2.1)).length)).length : Int) ≠ 1 + ↑(((cUnit cc).2.1)).length + ↑(((cUnit cc).2.2.1)).length) := by simp [mk_length]
  refine sx_condPF rfl h4859 ?_
  refine sx_skip ?_
  refine q_n (k50 _ _ ?_)
  refine sx_seq fun K52 k52 => sx_region ?_
  refine sm rfl rfl rfl rfl ?_
  have f53 := f15.ext c16
  have f54 := f53.ext cb17
  have f55 := f54.chg cw19 (by omega)
  have f56 := f55.ext c37
  have f57 := f56.chg c43 (by omega)
  have f58 := f57.ext c47
  refine sx_call rfl rfl Tryd.call21 (c_iCurUnit f58) (fun v59 w59 p59 => ?_)
  obtain ⟨s59, t59, ls59, us59, lt59, ut59, rfl, os_59, ot_59, hd59, hl59, c59⟩ := p59
  have zw59 := c59.size
  refine sx_alloc [.bool false, (.slice none 0 0), (.slice none 0 0)] rfl Tryd.zeroValue36 rfl (fun b60 w61 eb60 sb60 fb60 cb60 => ?_)
  have zw61 := cb60.size
  have f63 := ot_59.ext cb60
  have f64 := os_59.ext cb60
  refine sx_store (vs := [.bool ((cUnit cc).1), s59, t59]) rfl rfl fb60 rfl Tryd.sizeOf36 (Nat.le_of_ble_eq_true rfl) (one_cons rfl (one_cons f64.one (one_cons f63.one one_nil))) (fun w62 sw62 fw62 cw62 => ?_)
  have zw62 := cw62.size
  have gw62 : Blk w62 b60 [.bool ((cUnit cc).1), s59, t59] 36 := fw62
  refine wl_nil (q_n (k52 _ _ ?_))
  refine sx_seq fun K65 k65 => ?_
  refine sx_seq fun K66 k66 => sx_region ?_
  refine sx_pure rfl rfl rfl (px_load rfl (gw62.loadA (vs := [.bool ((cUnit cc).1), s59, t59]) (look_lit rfl) Tryd.isAgg36 Tryd.sizeOf36)) ?_
  have f67 := f26.ext c37
  have f68 := f67.chg c43 (by omega)
  have f69 := f68.ext c47
  have f70 := f69.ext c59
  have f71 := f70.ext cb60
  have f72 := f71.chg cw62 (by omega)
  refine sx_pure rfl rfl rfl (px_load rfl (f72.loadA (vs := [.bool ((cUnit cc).1), s6, t6]) (look_lit rfl) Tryd.isAgg36 Tryd.sizeOf36)) ?_
  have f73 := f64.chg cw62 (by omega)
  have f74 := f63.chg cw62 (by omega)
  have f75 := f32.ext c37
  have f76 := f75.chg c43 (by omega)
  have f77 := f76.ext c47
  have f78 := f77.ext c59
  have f79 := f78.ext cb60
  have f80 := f79.chg cw62 (by omega)
  have f81 := f36.ext c37
  have f82 := f81.chg c43 (by omega)
  have f83 := f82.ext c47
  have f84 := f83.ext c59
  have f85 := f84.ext cb60
  have f86 := f85.chg cw62 (by omega)
  refine sx_call rfl rfl Tryd.call22 (c_eqRat f73.sv f74.sv f80.sv f86.sv (by omega)) (fun v87 w87 p87 => ?_)
  obtain ⟨rfl, c87⟩ := p87
  have zw87 := c87.size
  refine sx_pure rfl rfl rfl (px_notP rfl) ?_
  refine wl_nil (q_n (k66 _ _ ?_))
  refine sx_sub (Sub.cons (t := 2) rfl (.cons (t := 4) rfl (.cons (t := 5) rfl (.cons (t := 6) rfl (.cons (t := 35) rfl (.nil)))))) ?_
  have h4863 : ¬ (¬ (((cUnit cc).1) = ((cUnit cc).1) ∧ ((cUnit cc).2.1) = ((cUnit cc).2.1) ∧ ((cUnit cc).2.2.1) = ((cUnit cc).2.2.1))) := by simp [mk_length]
  refine sx_condPF rfl h4863 ?_
  refine sx_skip ?_
  refine q_n (k65 _ _ ?_)
  refine sx_seq fun K88 k88 => sx_region ?_
  refine sa rfl rfl rfl rfl ?_
  refine wl_nil (q_n (k88 _ _ ?_))
  refine sx_seq fun K89 k89 => sx_region ?_
  have f90 := f46.ext c47
  have f91 := f90.ext c59
  have f92 := f91.ext cb60
  have f93 := f92.chg cw62 (by omega)
  have f94 := f93.ext c87
  refine sx_pure rfl rfl rfl (px_load rfl (f94.loadA (vs := [.bool ((cUnit cc).1), s16, t16]) (look_lit rfl) Tryd.isAgg36 Tryd.sizeOf36)) ?_
  refine sm rfl rfl rfl rfl ?_
  have f95 := ov1_43.ext c47
  have f96 := f95.ext c59
  have f97 := f96.ext cb60
  have f98 := f97.chg cw62 (by omega)
  have f99 := f98.ext c87
  have f100 := od1_43.ext c47
  have f101 := f100.ext c59
  have f102 := f101.ext cb60
  have f103 := f102.chg cw62 (by omega)
  have f104 := f103.ext c87
  refine sx_call rfl rfl Tryd.call24 (c_heldRat f99.sv f104.sv (by first | omega | (simp only [mk_length]; omega)) (by omega) (by simp [mk_length])) (fun v105 w105 p105 => ?_)
  obtain ⟨rfl, c105⟩ := p105
  have zw105 := c105.size
  refine sa rfl rfl rfl rfl ?_
  refine wl_nil (q_n (k89 _ _ ?_))
  refine sx_seq fun K106 k106 => ?_
  refine sx_seq fun K107 k107 => sx_region ?_
  refine sm rfl rfl rfl rfl ?_
  refine sx_pure rfl rfl rfl (px_lt rfl rfl) ?_
  refine wl_nil (q_n (k107 _ _ ?_))
  have h4868 : ¬ ((1 + ↑((mk 1 (((cUnit cc).2.1)).length)).length + ↑((mk (1 + ↑(((cUnit cc).2.1)).length) (((cUnit cc).2.2.1)).length)).length : Int) < 0) := by omega
  refine sx_condPF rfl h4868 ?_
  refine sx_skip ?_
  refine q_n (k106 _ _ ?_)
  refine sx_seq fun K108 k108 => ?_
  refine sx_seq fun K109 k109 => sx_region ?_
  refine sm rfl rfl rfl rfl ?_
  refine sm rfl rfl rfl rfl ?_
  refine sx_pure rfl rfl rfl (px_ne rfl rfl) ?_
  refine wl_nil (q_n (k109 _ _ ?_))
  have h4871 : ¬ ((1 + ↑((mk 1 (((cUnit cc).2.1)).length)).length + ↑((mk (1 + ↑(((cUnit cc).2.1)).length) (((cUnit cc).2.2.1)).length)).length : Int) ≠ 1 + ↑(((cUnit cc).2.1)).length + ↑(((cUnit cc).2.2.1)).length) := by simp [mk_length]
  refine sx_condPF rfl h4871 ?_
  refine sx_skip ?_
  refine q_n (k108 _ _ ?_)
  refine sx_seq fun K110 k110 => sx_region ?_
  refine sa rfl rfl rfl rfl ?_
  refine wl_nil (q_n (k110 _ _ ?_))
  refine sx_retc ?_
  refine sx_ret1 Tryd.results4 rfl ?_
  have q111 := Chg.step (l := 0) (h := 0) (Chg.zero (l := 0) (h := 0) (c6.t cb7)) cw9 (by omega)
  have q112 := Chg.step (l := 0) (h := 0) q111 (c16.t cb17) (by omega)
  have q113 := Chg.step (l := 0) (h := 0) q112 cw19 (by omega)
  have q114 := Chg.step (l := 0) (h := 0) q113 c37 (by omega)
  have q115 := Chg.step (l := 0) (h := 0) q114 c43 (by omega)
  have q116 := Chg.step (l := 0) (h := 0) q115 ((c47.t c59).t cb60) (by omega)
  have q117 := Chg.step (l := 0) (h := 0) q116 cw62 (by omega)
  have q118 := Chg.step (l := 0) (h := 0) q117 (c87.t c105) (by omega)
  exact ⟨rfl, q118⟩

end Go.Proofs.YtomfgkfpihemlaaDoor
