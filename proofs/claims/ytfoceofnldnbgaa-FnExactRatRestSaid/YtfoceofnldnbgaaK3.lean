/- Contracts of functions of the program: what each call returns, and that it changes nothing that was. Conditions: as each says. -/
import Derived.Test.YtfoceofnldnbgaaTy
import Derived.Test.YtfoceofnldnbgaaNatK
import Derived.Test.YtfoceofnldnbgaaRm
import Derived.Test.YtfoceofnldnbgaaK0
import Derived.Test.YtfoceofnldnbgaaK1
import Derived.Test.YtfoceofnldnbgaaK2
set_option linter.unusedVariables false
set_option linter.unusedSimpArgs false
namespace Go.Proofs.Ytfoceofnldnbgaa
open Go Go.RowKit
set_option maxRecDepth 100000
theorem c_l06Round {w : World} {va : Value} {lva uva : Nat} {x : Int} {vd : Value} {lvd uvd : Nat} {d : Nat} {m : Int} (hva : Sl w lva uva va (dg x.natAbs)) (hvd : Sl w lvd uvd vd (dg d)) (hbx : (dg x.natAbs).length ≤ 49) (hbd : (dg d).length ≤ 390) (hd0 : 0 < d) (hm : 0 ≤ m ∧ m ≤ 6) :
  Ret Try.prog 99 [.agg #[.bool (ng x), va, vd], .int .i64 m] w fun v w' => ∃ s, v = .agg #[.bool (ng (rqI x d m)), s] ∧ OwnI w' w.heap.size w'.heap.size s intT (dg (rqI x d m).natAbs) ∧ Chg 0 0 w w' := by
 have hva0 := hva.fit
 have hvd0 := hvd.fit
 have lq := len_div x.natAbs d
 have lr := len_mod (m := x.natAbs) hd0
 have lrr := len_add (x.natAbs % d) (x.natAbs % d)
 refine sx_enter Try.func99 rfl Try.ntmps99 (Nat.le_of_ble_eq_true rfl) ?_
 refine sx_seq fun K1 k1 => sx_region ?_
 refine sx_box [.bool (ng x), va, vd] rfl rfl rfl (fun b2 w3 eb2 sb2 fb2 cb2 => ?_)
 have zw3 := cb2.size
 refine sx_alloc [.bool false, (.slice none 0 0)] rfl Try.zeroValue28 rfl (fun b4 w5 eb4 sb4 fb4 cb4 => ?_)
 have zw5 := cb4.size
 refine wl_nil (q_n (k1 _ _ ?_))
 refine sx_seq fun K6 k6 => sx_region ?_
 refine sx_pure rfl rfl rfl (px_field rfl xfld44x0) ?_
 refine sx_pure rfl rfl rfl (px_field rfl xfld28x1) ?_
 have f7 := fb2.ext cb4
 refine sx_pure rfl rfl rfl (px_load rfl (f7.load1 rfl Try.isAgg22)) ?_
 refine sx_pure rfl rfl rfl (px_field rfl xfld44x1) ?_
 refine sx_pure rfl rfl rfl (px_load rfl (f7.load1 rfl Try.isAgg22)) ?_
 have f8 := hva0.ext cb2
 have f9 := f8.ext cb4
 have f10 := hvd0.ext cb2
 have f11 := f10.ext cb4
 refine sx_call rfl rfl Try.call51 (c_l03Div f9 f11 (by omega) (by omega) (hd0)) (fun v12 w12 p12 => ?_)
 obtain ⟨s12, t12, rfl, os_12, ot_12, c12⟩ := p12
 have zw12 := c12.size
 refine sm rfl rfl rfl rfl ?_
 refine sx_pure rfl rfl rfl (px_extract (vs := [s12, t12]) rfl rfl) ?_
 refine sx_pure rfl rfl rfl (px_extract (vs := [s12, t12]) rfl rfl) ?_
 refine sa rfl rfl rfl rfl ?_
 refine sa rfl rfl rfl rfl ?_
 refine wl_nil (q_n (k6 _ _ ?_))
 refine sx_sub (Sub.cons (t := 1) rfl (.cons (t := 2) rfl (.cons (t := 4) rfl (.cons (t := 5) rfl (.cons (t := 6) rfl (.nil)))))) ?_
 refine sx_seq fun K13 k13 => ?_
 refine sx_seq fun K14 k14 => sx_region ?_
 refine sm rfl rfl rfl rfl ?_
 refine sx_pure rfl rfl rfl (px_len rfl Try.underlying22 ot_12) ?_
 refine sx_pure rfl rfl rfl (px_gt rfl rfl) ?_
 refine sm rfl rfl rfl rfl ?_
 refine sx_tmpP (t := 19) rfl (fun h47 => ?_) (fun h47 => ?_)
 ·
  refine sx_guardT rfl rfl rfl ?_
  refine sx_pure rfl rfl rfl (px_field rfl xfld44x0) ?_
  refine sx_guardT rfl rfl rfl ?_
  refine sx_pure rfl rfl rfl (px_field rfl xfld28x0) ?_
  refine sx_guardT rfl rfl rfl ?_
  have f15 := f7.ext c12
  refine sx_pure rfl rfl rfl (px_load rfl (f15.load1 rfl Try.isAgg4)) ?_
  refine sx_guardT rfl rfl rfl ?_
  refine sm rfl rfl rfl rfl ?_
  refine sx_guardT rfl rfl rfl ?_
  refine sm rfl rfl rfl rfl ?_
  refine sx_guardT rfl rfl rfl ?_
  refine sx_pure rfl rfl rfl (px_field rfl xfld44x1) ?_
  refine sx_guardT rfl rfl rfl ?_
  refine sx_pure rfl rfl rfl (px_load rfl (f15.load1 rfl Try.isAgg22)) ?_
  refine sx_guardT rfl rfl rfl ?_
  refine sm rfl rfl rfl rfl ?_
  refine sx_guardT rfl rfl rfl ?_
  have f16 := f11.ext c12
  refine sx_call rfl rfl Try.call52 (c_l06Away os_12 ot_12 f16 (by omega) (by omega) (by omega) (by omega)) (fun v17 w17 p17 => ?_)
  obtain ⟨rfl, c17⟩ := p17
  have zw17 := c17.size
  refine sx_pure rfl rfl rfl (px_pick rfl rfl) ?_
  refine wl_nil (q_n (k14 _ _ ?_))
  refine sx_sub (Sub.cons (t := 2) rfl (.cons (t := 4) rfl (.cons (t := 5) rfl (.cons (t := 29) rfl (.nil))))) ?_
  refine sx_condB rfl (fun h47x1 => ?_) (fun h47x1 => ?_)
  ·
   try rw [cmpL_dg] at h47x1
   try simp only [Decidable.not_not] at h47x1
   have e := rq_up (x := x) (d := d) (m := m) (len_pos.1 (by omega)) h47x1
   refine sx_region ?_
   refine sm rfl rfl rfl rfl ?_
   refine sx_lit1 rfl xelt22 rfl rfl (fun s18 ws18 ss18 fs18 cs18 => ?_)
   have ns18 := Own.norm (f := (Value.int .i64)) (zs := [1]) fs18
   have zws18 := cs18.size
   have f19 := os_12.ext c17
   have f20 := f19.ext cs18
   refine sx_call rfl rfl Try.call53 (c_l02Add1 f20 ns18.sv (by omega) (rfl)) (fun v21 w21 p21 => ?_)
   obtain ⟨s21, rfl, os_21, c21⟩ := p21
   have zw21 := c21.size
   refine sa rfl rfl rfl rfl ?_
   refine wl_nil (q_n (k13 _ _ ?_))
   refine sx_seq fun K22 k22 => sx_region ?_
   refine sx_pure rfl rfl rfl (px_field rfl xfld44x0) ?_
   refine sx_pure rfl rfl rfl (px_field rfl xfld28x0) ?_
   have f23 := f15.ext c17
   have f24 := f23.ext cs18
   have f25 := f24.ext c21
   refine sx_pure rfl rfl rfl (px_load rfl (f25.load1 rfl Try.isAgg4)) ?_
   refine sm rfl rfl rfl rfl ?_
   refine sx_call rfl rfl Try.call54 (c_l04Make os_21 (by rw [← e]; exact Nat.le_trans (rq_len hbx) (by omega))) (fun v26 w26 p26 => ?_)
   obtain ⟨s26, rfl, os_26, c26⟩ := p26
   have zw26 := c26.size
   have f28 := fb4.ext c12
   have f29 := f28.ext c17
   have f30 := f29.ext cs18
   have f31 := f30.ext c21
   have f32 := f31.ext c26
   refine sx_store (vs := [.bool (ng (capI (ng x) ((x.natAbs / d) + 1))), s26]) rfl rfl f32 rfl Try.sizeOf28 (Nat.le_of_ble_eq_true rfl) (one_cons rfl (one_cons os_26.one one_nil)) (fun w27 sw27 fw27 cw27 => ?_)
   have zw27 := cw27.size
   have gw27 : Blk w27 b4 [.bool (ng (capI (ng x) ((x.natAbs / d) + 1))), s26] 28 := fw27
   refine wl_nil (q_n (k22 _ _ ?_))
   refine sx_retc ?_
   refine sx_ret1 Try.results99 ⟨_, rfl, gw27.loadA (vs := [.bool (ng (capI (ng x) ((x.natAbs / d) + 1))), s26]) (look_lit rfl) Try.isAgg28 Try.sizeOf28⟩ ?_
   have hcs : capI (ng x) ((x.natAbs / d) + 1) = rqI x d m := by rw [capI_sgI (by rw [← e]; exact rq_len hbx), ← e]; rfl
   rw [← hcs]
   have q33 := Chg.step (l := 0) (h := 0) (Chg.zero (l := 0) (h := 0) ((((((cb2.t cb4).t c12).t c17).t cs18).t c21).t c26)) cw27 (by omega)
   have f34 := os_26.chg cw27 (by omega)
   exact ⟨_, rfl, (Own.mono f34 (by omega) (by omega)), q33⟩
  ·
   try rw [cmpL_dg] at h47x1
   try simp only [Decidable.not_not] at h47x1
   have e := rq_dn (x := x) (d := d) (m := m) (fun hh => by have h9 := hh.2; rw [h47x1] at h9; cases h9)
   refine sx_skip ?_
   refine q_n (k13 _ _ ?_)
   refine sx_seq fun K35 k35 => sx_region ?_
   refine sx_pure rfl rfl rfl (px_field rfl xfld44x0) ?_
   refine sx_pure rfl rfl rfl (px_field rfl xfld28x0) ?_
   have f36 := f15.ext c17
   refine sx_pure rfl rfl rfl (px_load rfl (f36.load1 rfl Try.isAgg4)) ?_
   refine sm rfl rfl rfl rfl ?_
   have f37 := os_12.ext c17
   refine sx_call rfl rfl Try.call54 (c_l04Make f37 (by rw [← e]; exact Nat.le_trans (rq_len hbx) (by omega))) (fun v38 w38 p38 => ?_)
   obtain ⟨s38, rfl, os_38, c38⟩ := p38
   have zw38 := c38.size
   have f40 := fb4.ext c12
   have f41 := f40.ext c17
   have f42 := f41.ext c38
   refine sx_store (vs := [.bool (ng (capI (ng x) (x.natAbs / d))), s38]) rfl rfl f42 rfl Try.sizeOf28 (Nat.le_of_ble_eq_true rfl) (one_cons rfl (one_cons os_38.one one_nil)) (fun w39 sw39 fw39 cw39 => ?_)
   have zw39 := cw39.size
   have gw39 : Blk w39 b4 [.bool (ng (capI (ng x) (x.natAbs / d))), s38] 28 := fw39
   refine wl_nil (q_n (k35 _ _ ?_))
   refine sx_retc ?_
   refine sx_ret1 Try.results99 ⟨_, rfl, gw39.loadA (vs := [.bool (ng (capI (ng x) (x.natAbs / d))), s38]) (look_lit rfl) Try.isAgg28 Try.sizeOf28⟩ ?_
   have hcs : capI (ng x) (x.natAbs / d) = rqI x d m := by rw [capI_sgI (by rw [← e]; exact rq_len hbx), ← e]; rfl
   rw [← hcs]
   have q43 := Chg.step (l := 0) (h := 0) (Chg.zero (l := 0) (h := 0) ((((cb2.t cb4).t c12).t c17).t c38)) cw39 (by omega)
   have f44 := os_38.chg cw39 (by omega)
   exact ⟨_, rfl, (Own.mono f44 (by omega) (by omega)), q43⟩
 ·
  have e := rq_dn (x := x) (d := d) (m := m) (fun hh => by have h9 := len_pos.2 hh.1; omega)
  refine sx_guardF rfl rfl rfl rfl rfl rfl ?_
  refine sx_guardF rfl rfl rfl rfl rfl rfl ?_
  refine sx_guardF rfl rfl rfl rfl rfl rfl ?_
  refine sx_guardF rfl rfl rfl rfl rfl rfl ?_
  refine sx_guardF rfl rfl rfl rfl rfl rfl ?_
  refine sx_guardF rfl rfl rfl rfl rfl rfl ?_
  refine sx_guardF rfl rfl rfl rfl rfl rfl ?_
  refine sx_guardF rfl rfl rfl rfl rfl rfl ?_
  refine sx_guardF rfl rfl rfl rfl rfl rfl ?_
  refine sx_pure rfl rfl rfl (px_pick rfl rfl) ?_
  refine wl_nil (q_n (k14 _ _ ?_))
  refine sx_sub (Sub.cons (t := 2) rfl (.cons (t := 4) rfl (.cons (t := 5) rfl (.cons (t := 29) rfl (.nil))))) ?_
  refine sx_condF rfl ?_
  refine sx_skip ?_
  refine q_n (k13 _ _ ?_)
  refine sx_seq fun K45 k45 => sx_region ?_
  refine sx_pure rfl rfl rfl (px_field rfl xfld44x0) ?_
  refine sx_pure rfl rfl rfl (px_field rfl xfld28x0) ?_
  have f46 := f7.ext c12
  refine sx_pure rfl rfl rfl (px_load rfl (f46.load1 rfl Try.isAgg4)) ?_
  refine sm rfl rfl rfl rfl ?_
  refine sx_call rfl rfl Try.call54 (c_l04Make os_12 (by rw [← e]; exact Nat.le_trans (rq_len hbx) (by omega))) (fun v47 w47 p47 => ?_)
  obtain ⟨s47, rfl, os_47, c47⟩ := p47
  have zw47 := c47.size
  have f49 := fb4.ext c12
  have f50 := f49.ext c47
  refine sx_store (vs := [.bool (ng (capI (ng x) (x.natAbs / d))), s47]) rfl rfl f50 rfl Try.sizeOf28 (Nat.le_of_ble_eq_true rfl) (one_cons rfl (one_cons os_47.one one_nil)) (fun w48 sw48 fw48 cw48 => ?_)
  have zw48 := cw48.size
  have gw48 : Blk w48 b4 [.bool (ng (capI (ng x) (x.natAbs / d))), s47] 28 := fw48
  refine wl_nil (q_n (k45 _ _ ?_))
  refine sx_retc ?_
  refine sx_ret1 Try.results99 ⟨_, rfl, gw48.loadA (vs := [.bool (ng (capI (ng x) (x.natAbs / d))), s47]) (look_lit rfl) Try.isAgg28 Try.sizeOf28⟩ ?_
  have hcs : capI (ng x) (x.natAbs / d) = rqI x d m := by rw [capI_sgI (by rw [← e]; exact rq_len hbx), ← e]; rfl
  rw [← hcs]
  have q51 := Chg.step (l := 0) (h := 0) (Chg.zero (l := 0) (h := 0) (((cb2.t cb4).t c12).t c47)) cw48 (by omega)
  have f52 := os_47.chg cw48 (by omega)
  exact ⟨_, rfl, (Own.mono f52 (by omega) (by omega)), q51⟩

theorem c_sRatRound {w : World} {n1 : Bool} {v1 : Value} {lv1 uv1 : Nat} {z1 : List Int} {d1 : Value} {ld1 ud1 : Nat} {y1 : List Int} {m : Int} (hv1 : Sl w lv1 uv1 v1 (z1)) (hd1 : Sl w ld1 ud1 d1 (y1)) (h63 : z1.length ≤ 4611686018427387904 ∧ y1.length ≤ 4611686018427387904) :
  Ret Try.prog 62 [.agg #[.bool n1, v1, d1], .int .i64 m] w fun v w' => ∃ s, v = .tuple #[.agg #[.bool ((rRound n1 z1 y1 m).1), s], .bool ((rRound n1 z1 y1 m).2.2)] ∧ OwnI w' w.heap.size w'.heap.size s intT ((rRound n1 z1 y1 m).2.1) ∧ ((rRound n1 z1 y1 m).2.1.length ≤ 19) ∧ Chg 0 0 w w' := by
 have hv10 := hv1.fit
 have hd10 := hd1.fit
 refine sx_enter Try.func62 rfl Try.ntmps62 (Nat.le_of_ble_eq_true rfl) ?_
 refine sx_seq fun K1 k1 => sx_region ?_
 refine sx_box [.bool n1, v1, d1] rfl rfl rfl (fun b2 w3 eb2 sb2 fb2 cb2 => ?_)
 have zw3 := cb2.size
 refine sx_alloc [.bool false, (.slice none 0 0)] rfl Try.zeroValue28 rfl (fun b4 w5 eb4 sb4 fb4 cb4 => ?_)
 have zw5 := cb4.size
 refine sa rfl rfl rfl rfl ?_
 refine wl_nil (q_n (k1 _ _ ?_))
 refine sx_seq fun K6 k6 => ?_
 refine sx_seq fun K7 k7 => sx_region ?_
 have f8 := fb2.ext cb4
 refine sx_pure rfl rfl rfl (px_load rfl (f8.loadA (vs := [.bool n1, v1, d1]) (look_lit rfl) Try.isAgg44 Try.sizeOf44)) ?_
 have f9 := hv10.ext cb2
 have f10 := f9.ext cb4
 have f11 := hd10.ext cb2
 have f12 := f11.ext cb4
 refine sx_call rfl rfl Try.call47 (c_sRatOk f10 f12 (by omega)) (fun v13 w13 p13 => ?_)
 obtain ⟨rfl, c13⟩ := p13
 have zw13 := c13.size
 refine sx_pure rfl rfl rfl (px_notP rfl) ?_
 refine sm rfl rfl rfl rfl ?_
 refine sx_tmpP (t := 9) rfl (fun h55 => ?_) (fun h55 => ?_)
 ·
  refine sx_guardF rfl rfl rfl rfl rfl rfl ?_
  refine sx_guardF rfl rfl rfl rfl rfl rfl ?_
  refine sx_guardF rfl rfl rfl rfl rfl rfl ?_
  refine sx_pure rfl rfl rfl (px_pick rfl rfl) ?_
  refine wl_nil (q_n (k7 _ _ ?_))
  refine sx_condT rfl ?_
  refine sx_seq fun K14 k14 => sx_region ?_
  refine sx_pure rfl rfl rfl (px_build rfl (xbld28x  _)) ?_
  have f16 := fb4.ext c13
  refine sx_store (vs := [.bool false, (.slice none 0 0)]) rfl rfl f16 rfl Try.sizeOf28 (Nat.le_of_ble_eq_true rfl) (one_cons rfl (one_cons rfl one_nil)) (fun w15 sw15 fw15 cw15 => ?_)
  have zw15 := cw15.size
  have gw15 : Blk w15 b4 [.bool false, (.slice none 0 0)] 28 := fw15
  refine sa rfl rfl rfl rfl ?_
  refine wl_nil (q_n (k14 _ _ ?_))
  refine sx_retc ?_
  refine q_r (sx_ret2 Try.results62 ⟨_, rfl, gw15.loadA (vs := [.bool false, (.slice none 0 0)]) (look_lit rfl) Try.isAgg28 Try.sizeOf28⟩ rfl ?_)
  rw [rRound_no (by grind)]
  have q17 := Chg.step (l := 0) (h := 0) (Chg.zero (l := 0) (h := 0) ((cb2.t cb4).t c13)) cw15 (by omega)
  exact ⟨_, rfl, Own.nil _ _ _ _ _, by simp [noS], q17⟩
 ·
  refine sx_guardT rfl rfl rfl ?_
  refine sm rfl rfl rfl rfl ?_
  refine sx_guardT rfl rfl rfl ?_
  refine sx_call rfl rfl Try.call48 (c_l06Mode) (fun v18 w18 p18 => ?_)
  obtain ⟨rfl, c18⟩ := p18
  have zw18 := c18.size
  refine sx_guardT rfl rfl rfl ?_
  refine sx_pure rfl rfl rfl (px_notP rfl) ?_
  refine sx_pure rfl rfl rfl (px_pick rfl rfl) ?_
  refine wl_nil (q_n (k7 _ _ ?_))
  refine sx_condP rfl (fun h55x1 => ?_) (fun h55x1 => ?_)
  ·
   refine sx_seq fun K19 k19 => sx_region ?_
   refine sx_pure rfl rfl rfl (px_build rfl (xbld28x  _)) ?_
   have f21 := fb4.ext c13
   have f22 := f21.ext c18
   refine sx_store (vs := [.bool false, (.slice none 0 0)]) rfl rfl f22 rfl Try.sizeOf28 (Nat.le_of_ble_eq_true rfl) (one_cons rfl (one_cons rfl one_nil)) (fun w20 sw20 fw20 cw20 => ?_)
   have zw20 := cw20.size
   have gw20 : Blk w20 b4 [.bool false, (.slice none 0 0)] 28 := fw20
   refine sa rfl rfl rfl rfl ?_
   refine wl_nil (q_n (k19 _ _ ?_))
   refine sx_retc ?_
   refine q_r (sx_ret2 Try.results62 ⟨_, rfl, gw20.loadA (vs := [.bool false, (.slice none 0 0)]) (look_lit rfl) Try.isAgg28 Try.sizeOf28⟩ rfl ?_)
   rw [rRound_no (by grind)]
   have q23 := Chg.step (l := 0) (h := 0) (Chg.zero (l := 0) (h := 0) (((cb2.t cb4).t c13).t c18)) cw20 (by omega)
   exact ⟨_, rfl, Own.nil _ _ _ _ _, by simp [noS], q23⟩
  ·
   have hR := Decidable.not_not.1 h55
   have hM := Decidable.not_not.1 h55x1
   obtain ⟨x1, e1, rfl, rfl, rfl, he0, hx1, he1, hg1⟩ := hR.rat
   refine sx_skip ?_
   refine q_n (k6 _ _ ?_)
   refine sx_seq fun K24 k24 => sx_region ?_
   have f25 := f8.ext c13
   have f26 := f25.ext c18
   refine sx_pure rfl rfl rfl (px_load rfl (f26.loadA (vs := [.bool (ng x1), v1, d1]) (look_lit rfl) Try.isAgg44 Try.sizeOf44)) ?_
   refine sm rfl rfl rfl rfl ?_
   have f27 := f10.ext c13
   have f28 := f27.ext c18
   have f29 := f12.ext c13
   have f30 := f29.ext c18
   refine sx_call rfl rfl Try.call99 (c_l06Round f28 f30 (by omega) (by omega) (by omega) (by omega)) (fun v31 w31 p31 => ?_)
   obtain ⟨s31, rfl, os_31, c31⟩ := p31
   have zw31 := c31.size
   have f33 := fb4.ext c13
   have f34 := f33.ext c18
   have f35 := f34.ext c31
   refine sx_store (vs := [.bool (ng (rqI x1 e1 m)), s31]) rfl rfl f35 rfl Try.sizeOf28 (Nat.le_of_ble_eq_true rfl) (one_cons rfl (one_cons os_31.one one_nil)) (fun w32 sw32 fw32 cw32 => ?_)
   have zw32 := cw32.size
   have gw32 : Blk w32 b4 [.bool (ng (rqI x1 e1 m)), s31] 28 := fw32
   refine sa rfl rfl rfl rfl ?_
   refine wl_nil (q_n (k24 _ _ ?_))
   refine sx_sub (Sub.cons (t := 4) rfl (.cons (t := 5) rfl (.nil))) ?_
   refine sx_retc ?_
   refine sx_ret2 Try.results62 ⟨_, rfl, gw32.loadA (vs := [.bool (ng (rqI x1 e1 m)), s31]) (look_lit rfl) Try.isAgg28 Try.sizeOf28⟩ rfl ?_
   have hrl := rRound_len (n := ng x1) (z := dg x1.natAbs) (y := dg e1) (m := m)
   rw [rRound_ok ⟨hR, hM⟩] at hrl ⊢
   have q36 := Chg.step (l := 0) (h := 0) (Chg.zero (l := 0) (h := 0) ((((cb2.t cb4).t c13).t c18).t c31)) cw32 (by omega)
   have f37 := os_31.chg cw32 (by omega)
   exact ⟨_, rfl, (Own.mono f37 (by omega) (by omega)), hrl, q36⟩

theorem c_sIntOf {w : World} {n : Int} (hn : -9223372036854775808 ≤ n ∧ n ≤ 9223372036854775807) :
  Ret Try.prog 101 [.int .i64 n] w fun v w' => ∃ s, v = .agg #[.bool (ng n), s] ∧ OwnI w' w.heap.size w'.heap.size s intT (dg (n).natAbs) ∧ Chg 0 0 w w' := by
 refine sx_enter Try.func101 rfl Try.ntmps101 (Nat.le_of_ble_eq_true rfl) ?_
 refine sx_seq fun K1 k1 => sx_region ?_
 refine sx_alloc [.bool false, (.slice none 0 0)] rfl Try.zeroValue28 rfl (fun b2 w3 eb2 sb2 fb2 cb2 => ?_)
 have zw3 := cb2.size
 refine wl_nil (q_n (k1 _ _ ?_))
 refine sx_seq fun K4 k4 => ?_
 refine sx_seq fun K5 k5 => sx_region ?_
 refine sm rfl rfl rfl rfl ?_
 refine sx_pure rfl rfl rfl (px_eq rfl rfl) ?_
 refine wl_nil (q_n (k5 _ _ ?_))
 refine sx_condP rfl (fun h15 => ?_) (fun h15 => ?_)
 ·
  subst h15
  refine sx_seq fun K6 k6 => sx_region ?_
  refine sx_lit3 rfl xelt22 rfl rfl rfl rfl rfl rfl (fun s7 ws7 ss7 fs7 cs7 => ?_)
  have ns7 := Own.norm (f := (Value.int .i64)) (zs := [854775808, 223372036, 9]) fs7
  have zws7 := cs7.size
  refine sx_call rfl rfl Try.call54 (c_l04MakeMin ns7.sv (dg_min.symm)) (fun v8 w8 p8 => ?_)
  obtain ⟨s8, rfl, os_8, c8⟩ := p8
  have zw8 := c8.size
  have f10 := fb2.ext cs7
  have f11 := f10.ext c8
  refine sx_store (vs := [.bool (ng (capI true (-9223372036854775808 : Int).natAbs)), s8]) rfl rfl f11 rfl Try.sizeOf28 (Nat.le_of_ble_eq_true rfl) (one_cons rfl (one_cons os_8.one one_nil)) (fun w9 sw9 fw9 cw9 => ?_)
  have zw9 := cw9.size
  have gw9 : Blk w9 b2 [.bool (ng (capI true (-9223372036854775808 : Int).natAbs)), s8] 28 := fw9
  refine wl_nil (q_n (k6 _ _ ?_))
  refine sx_retc ?_
  refine q_r (sx_ret1 Try.results101 ⟨_, rfl, gw9.loadA (vs := [.bool (ng (capI true (-9223372036854775808 : Int).natAbs)), s8]) (look_lit rfl) Try.isAgg28 Try.sizeOf28⟩ ?_)
  have e : capI true (-9223372036854775808 : Int).natAbs = -9223372036854775808 := capI_min
  have f12 := os_8.chg cw9 (by omega)
  have hr := f12
  rw [e] at hr
  have q13 := Chg.step (l := 0) (h := 0) (Chg.zero (l := 0) (h := 0) ((cb2.t cs7).t c8)) cw9 (by omega)
  exact ⟨_, by rw [e], hr.mono (by omega) (by omega), q13⟩
 ·
  refine sx_skip ?_
  refine q_n (k4 _ _ ?_)
  refine sx_seq fun K14 k14 => ?_
  refine sx_seq fun K15 k15 => sx_region ?_
  refine sm rfl rfl rfl rfl ?_
  refine sx_pure rfl rfl rfl (px_lt rfl rfl) ?_
  refine wl_nil (q_n (k15 _ _ ?_))
  refine sx_condP rfl (fun h18 => ?_) (fun h18 => ?_)
  ·
   refine sx_seq fun K16 k16 => sx_region ?_
   refine sm rfl rfl rfl rfl ?_
   refine sx_pure rfl rfl rfl (px_neg rfl (by omega)) ?_
   refine sx_call rfl rfl Try.call89 (c_sNatOf (by omega)) (fun v17 w17 p17 => ?_)
   obtain ⟨s17, rfl, os_17, c17⟩ := p17
   have zw17 := c17.size
   refine sx_call rfl rfl Try.call54 (c_l04Make os_17.sv (by first | (have h9 := len_u64 (n := -n) (by omega); omega) | (have h9 := len_u64 (n := n) (by omega); omega))) (fun v18 w18 p18 => ?_)
   obtain ⟨s18, rfl, os_18, c18⟩ := p18
   have zw18 := c18.size
   have f20 := fb2.ext c17
   have f21 := f20.ext c18
   refine sx_store (vs := [.bool (ng (capI true (((-n)).toNat))), s18]) rfl rfl f21 rfl Try.sizeOf28 (Nat.le_of_ble_eq_true rfl) (one_cons rfl (one_cons os_18.one one_nil)) (fun w19 sw19 fw19 cw19 => ?_)
   have zw19 := cw19.size
   have gw19 : Blk w19 b2 [.bool (ng (capI true (((-n)).toNat))), s18] 28 := fw19
   refine wl_nil (q_n (k16 _ _ ?_))
   refine sx_retc ?_
   refine q_r (sx_ret1 Try.results101 ⟨_, rfl, gw19.loadA (vs := [.bool (ng (capI true (((-n)).toNat))), s18]) (look_lit rfl) Try.isAgg28 Try.sizeOf28⟩ ?_)
   have e : capI true (-n).toNat = n := capI_neg (by omega)
   have f22 := os_18.chg cw19 (by omega)
   have hr := f22
   rw [e] at hr
   have q23 := Chg.step (l := 0) (h := 0) (Chg.zero (l := 0) (h := 0) ((cb2.t c17).t c18)) cw19 (by omega)
   exact ⟨_, by rw [e], hr.mono (by omega) (by omega), q23⟩
  ·
   refine sx_skip ?_
   refine q_n (k14 _ _ ?_)
   refine sx_seq fun K24 k24 => sx_region ?_
   refine sm rfl rfl rfl rfl ?_
   refine sx_call rfl rfl Try.call89 (c_sNatOf (by omega)) (fun v25 w25 p25 => ?_)
   obtain ⟨s25, rfl, os_25, c25⟩ := p25
   have zw25 := c25.size
   refine sx_call rfl rfl Try.call54 (c_l04Make os_25.sv (by first | (have h9 := len_u64 (n := -n) (by omega); omega) | (have h9 := len_u64 (n := n) (by omega); omega))) (fun v26 w26 p26 => ?_)
   obtain ⟨s26, rfl, os_26, c26⟩ := p26
   have zw26 := c26.size
   have f28 := fb2.ext c25
   have f29 := f28.ext c26
   refine sx_store (vs := [.bool (ng (capI false ((n).toNat))), s26]) rfl rfl f29 rfl Try.sizeOf28 (Nat.le_of_ble_eq_true rfl) (one_cons rfl (one_cons os_26.one one_nil)) (fun w27 sw27 fw27 cw27 => ?_)
   have zw27 := cw27.size
   have gw27 : Blk w27 b2 [.bool (ng (capI false ((n).toNat))), s26] 28 := fw27
   refine wl_nil (q_n (k24 _ _ ?_))
   refine sx_retc ?_
   refine sx_ret1 Try.results101 ⟨_, rfl, gw27.loadA (vs := [.bool (ng (capI false ((n).toNat))), s26]) (look_lit rfl) Try.isAgg28 Try.sizeOf28⟩ ?_
   have e : capI false n.toNat = n := capI_pos (by omega)
   have f30 := os_26.chg cw27 (by omega)
   have hr := f30
   rw [e] at hr
   have q31 := Chg.step (l := 0) (h := 0) (Chg.zero (l := 0) (h := 0) ((cb2.t c25).t c26)) cw27 (by omega)
   exact ⟨_, by rw [e], hr.mono (by omega) (by omega), q31⟩

theorem c_l05Gcd {w : World} {va : Value} {lva uva : Nat} {m : Nat} {vb : Value} {lvb uvb : Nat} {n : Nat} (hva : Sl w lva uva va (dg m)) (hvb : Sl w lvb uvb vb (dg n)) (hbm : (dg m).length ≤ 400) (hbn : (dg n).length ≤ 400) :
  Ret Try.prog 126 [va, vb] w fun v w' => ∃ s, v = s ∧ Sl w' (0) (w'.heap.size) s (dg (Nat.gcd m n)) ∧ Chg 0 0 w w' := by
 have hva0 := hva.fit
 have hvb0 := hvb.fit
 refine sx_enter Try.func126 rfl Try.ntmps126 (Nat.le_of_ble_eq_true rfl) ?_
 refine sx_seq fun K1 k1 => sx_region ?_
 refine sa rfl rfl rfl rfl ?_
 refine wl_nil (q_n (k1 _ _ ?_))
 refine sx_seq fun K2 k2 => sx_region ?_
 refine sm rfl rfl rfl rfl ?_
 refine sa rfl rfl rfl rfl ?_
 refine wl_nil (q_n (k2 _ _ ?_))
 refine sx_seq fun K3 k3 => sx_region ?_
 refine sm rfl rfl rfl rfl ?_
 refine sa rfl rfl rfl rfl ?_
 refine wl_nil (q_n (k3 _ _ ?_))
 refine sx_seq fun K4 k4 => ?_
 refine sx_block ?_
 refine sx_loop (fun mm aa w' => ∃ (xa : Value) (xb : Value) (m2 : Nat) (n2 : Nat), Agr 23 [(5, xa), (6, xb)] aa ∧ Chg 0 0 w w' ∧ Sv w' 0 w'.heap.size xa ((dg m2).length) 1 ((dg m2).map (Value.int .i64)) ∧ Sv w' 0 w'.heap.size xb ((dg n2).length) 1 ((dg n2).map (Value.int .i64)) ∧ (mm = n2) ∧ (Nat.gcd m2 n2 = Nat.gcd m n) ∧ ((dg m2).length ≤ 400 ∧ (dg n2).length ≤ 400)) (_) (fun a ha => ⟨va, vb, m, n, ha.sub (Sub.cons (t := 5) rfl (.cons (t := 6) rfl (.nil))), Chg.refl _ _ _, (hva0.mono (by omega) (by omega)), (hvb0.mono (by omega) (by omega)), rfl, rfl, by omega⟩) ?_
 rintro mm aa wl5 ⟨xa, xb, m2, n2, hAwl5, cwl5, hs_xa, hs_xb, hm, hg, hl2⟩
 refine (show cw Try.prog 23 _ _ _ wl5 from ?_) aa hAwl5
 clear hAwl5
 have zwl5 := cwl5.size
 refine sx_seq fun K6 k6 => ?_
 refine sx_seq fun K7 k7 => sx_region ?_
 refine sm rfl rfl rfl rfl ?_
 refine sx_pure rfl rfl rfl (px_len rfl Try.underlying22 hs_xb) ?_
 refine sx_pure rfl rfl rfl (px_gt rfl rfl) ?_
 refine wl_nil (q_n (k7 _ _ ?_))
 refine sx_condP rfl (fun h32 => ?_) (fun h32 => ?_)
 ·
  have hn0 : 0 < n2 := len_pos.1 (by omega)
  refine sx_skip ?_
  refine q_n (k6 _ _ ?_)
  refine sx_block ?_
  refine sx_seq fun K8 k8 => sx_region ?_
  refine sm rfl rfl rfl rfl ?_
  refine sm rfl rfl rfl rfl ?_
  refine sx_call rfl rfl Try.call51 (c_l03Div hs_xa hs_xb (by omega) (by omega) (by omega)) (fun v9 w9 p9 => ?_)
  obtain ⟨s9, t9, rfl, os_9, ot_9, c9⟩ := p9
  have zw9 := c9.size
  refine sm rfl rfl rfl rfl ?_
  refine sx_pure rfl rfl rfl (px_extract (vs := [s9, t9]) rfl rfl) ?_
  refine sx_pure rfl rfl rfl (px_extract (vs := [s9, t9]) rfl rfl) ?_
  refine sa rfl rfl rfl rfl ?_
  refine sa rfl rfl rfl rfl ?_
  refine wl_nil (q_n (k8 _ _ ?_))
  refine sx_seq fun K10 k10 => sx_region ?_
  refine sm rfl rfl rfl rfl ?_
  refine sa rfl rfl rfl rfl ?_
  refine wl_nil (q_n (k10 _ _ ?_))
  refine sx_region ?_
  refine sm rfl rfl rfl rfl ?_
  refine sa rfl rfl rfl rfl ?_
  refine wl_nil ?_
  have f11 := hs_xb.ext c9
  have hml := Nat.mod_lt m2 hn0
  have hll := len_mod (m := m2) hn0
  exact q_bn (fun a ha => ⟨_, by omega, xb, t9, n2, (m2 % n2), ha.sub (Sub.cons (t := 5) rfl (.cons (t := 6) rfl (.nil))), (cwl5.t c9), (f11.mono (by omega) (by omega)), (ot_9.mono (by omega) (by omega)), rfl, gcd_next.trans hg, by omega⟩)
 ·
  refine sx_exit ?_
  refine q_e (q_e (q_bx (q_n (k4 _ _ ?_))))
  refine sx_seq fun K12 k12 => sx_region ?_
  refine sm rfl rfl rfl rfl ?_
  refine sa rfl rfl rfl rfl ?_
  refine wl_nil (q_n (k12 _ _ ?_))
  refine sx_retc ?_
  refine sx_ret1 Try.results126 rfl ?_
  have e0 : n2 = 0 := len_zero.1 (by omega)
  subst e0
  rw [Nat.gcd_zero_right] at hg
  rw [← hg]
  exact ⟨_, rfl, (Sv.mono hs_xa (by omega) (by omega)), cwl5⟩

theorem c_l05Low {w : World} {n : Bool} {va : Value} {lva uva : Nat} {m : Nat} {vb : Value} {lvb uvb : Nat} {d : Nat} (hva : Sl w lva uva va (dg m)) (hvb : Sl w lvb uvb vb (dg d)) (hbm : (dg m).length ≤ 400) (hbd : (dg d).length ≤ 400) :
  Ret Try.prog 109 [.bool n, va, vb] w fun v w' => ∃ s t ls us lt ut, v = .tuple #[.agg #[.bool ((rR (sgI n m) d).1), s, t], .bool ((rR (sgI n m) d).2.2.2)] ∧ OwnI w' (ls) (us) s intT ((rR (sgI n m) d).2.1) ∧ OwnI w' (lt) (ut) t intT ((rR (sgI n m) d).2.2.1) ∧ (w.heap.size ≤ ls ∧ us ≤ w'.heap.size ∧ w.heap.size ≤ lt ∧ ut ≤ w'.heap.size ∧ (us ≤ lt ∨ ut ≤ ls)) ∧ ((rR (sgI n m) d).2.1.length ≤ 18 ∧ (rR (sgI n m) d).2.2.1.length ≤ 18) ∧ Chg 0 0 w w' := by
 have hva0 := hva.fit
 have hvb0 := hvb.fit
 refine sx_enter Try.func109 rfl Try.ntmps109 (Nat.le_of_ble_eq_true rfl) ?_
 refine sx_seq fun K1 k1 => sx_region ?_
 refine sx_alloc [.bool false, (.slice none 0 0), (.slice none 0 0)] rfl Try.zeroValue44 rfl (fun b2 w3 eb2 sb2 fb2 cb2 => ?_)
 have zw3 := cb2.size
 refine sa rfl rfl rfl rfl ?_
 refine wl_nil (q_n (k1 _ _ ?_))
 refine sx_seq fun K4 k4 => sx_region ?_
 refine sm rfl rfl rfl rfl ?_
 have f5 := hva0.ext cb2
 refine sx_call rfl rfl Try.call87 (c_l02TrimD f5 (by omega)) (fun v6 w6 p6 => ?_)
 obtain ⟨s6, rfl, os_6, c6⟩ := p6
 have zw6 := c6.size
 refine sa rfl rfl rfl rfl ?_
 refine wl_nil (q_n (k4 _ _ ?_))
 refine sx_seq fun K7 k7 => sx_region ?_
 refine sm rfl rfl rfl rfl ?_
 have f8 := hvb0.ext cb2
 have f9 := f8.ext c6
 refine sx_call rfl rfl Try.call87 (c_l02TrimD f9 (by omega)) (fun v10 w10 p10 => ?_)
 obtain ⟨s10, rfl, os_10, c10⟩ := p10
 have zw10 := c10.size
 refine sa rfl rfl rfl rfl ?_
 refine wl_nil (q_n (k7 _ _ ?_))
 refine sx_seq fun K11 k11 => ?_
 refine sx_seq fun K12 k12 => sx_region ?_
 refine sm rfl rfl rfl rfl ?_
 refine sx_pure rfl rfl rfl (px_len rfl Try.underlying22 os_10) ?_
 refine sx_pure rfl rfl rfl (px_eq rfl rfl) ?_
 refine wl_nil (q_n (k12 _ _ ?_))
 refine sx_condP rfl (fun h17 => ?_) (fun h17 => ?_)
 ·
  refine sx_seq fun K13 k13 => sx_region ?_
  refine sx_pure rfl rfl rfl (px_build rfl (xbld44x  _)) ?_
  have f15 := fb2.ext c6
  have f16 := f15.ext c10
  refine sx_store (vs := [.bool false, (.slice none 0 0), (.slice none 0 0)]) rfl rfl f16 rfl Try.sizeOf44 (Nat.le_of_ble_eq_true rfl) (one_cons rfl (one_cons rfl (one_cons rfl one_nil))) (fun w14 sw14 fw14 cw14 => ?_)
  have zw14 := cw14.size
  have gw14 : Blk w14 b2 [.bool false, (.slice none 0 0), (.slice none 0 0)] 44 := fw14
  refine sa rfl rfl rfl rfl ?_
  refine wl_nil (q_n (k13 _ _ ?_))
  refine sx_sub (Sub.cons (t := 0) rfl (.cons (t := 6) rfl (.cons (t := 7) rfl (.cons (t := 8) rfl (.cons (t := 9) rfl (.nil)))))) ?_
  refine sx_retc ?_
  refine q_r (sx_ret2 Try.results109 ⟨_, rfl, gw14.loadA (vs := [.bool false, (.slice none 0 0), (.slice none 0 0)]) (look_lit rfl) Try.isAgg44 Try.sizeOf44⟩ rfl ?_)
  rw [rR_zero (len_zero.1 (by omega))]
  have q17 := Chg.step (l := 0) (h := 0) (Chg.zero (l := 0) (h := 0) ((cb2.t c6).t c10)) cw14 (by omega)
  exact ⟨_, _, w.heap.size, w.heap.size, w.heap.size, w.heap.size, rfl, Own.nil _ _ _ _ _, Own.nil _ _ _ _ _, by omega, ⟨by simp [noR], by simp [noR]⟩, q17⟩
 ·
  have hd0 : 0 < d := len_pos.1 (by omega)
  have hgp := gcd_pos_r (m := m) hd0
  have lg := gcd_le_left (m := m) (n := d) (k := max (dg m).length (dg d).length) (by omega) (by omega)
  have lq1 := len_div m (Nat.gcd m d)
  have lq2 := len_div d (Nat.gcd m d)
  refine sx_skip ?_
  refine q_n (k11 _ _ ?_)
  refine sx_seq fun K18 k18 => sx_region ?_
  refine sm rfl rfl rfl rfl ?_
  refine sm rfl rfl rfl rfl ?_
  have f19 := os_6.ext c10
  refine sx_call rfl rfl Try.call126 (c_l05Gcd f19 os_10 (by omega) (by omega)) (fun v20 w20 p20 => ?_)
  obtain ⟨s20, rfl, os_20, c20⟩ := p20
  have zw20 := c20.size
  refine sa rfl rfl rfl rfl ?_
  refine wl_nil (q_n (k18 _ _ ?_))
  refine sx_sub (Sub.cons (t := 0) rfl (.cons (t := 6) rfl (.cons (t := 7) rfl (.cons (t := 8) rfl (.cons (t := 9) rfl (.cons (t := 10) rfl (.nil))))))) ?_
  refine sx_seq fun K21 k21 => sx_region ?_
  refine sm rfl rfl rfl rfl ?_
  refine sm rfl rfl rfl rfl ?_
  have f22 := f19.ext c20
  refine sx_call rfl rfl Try.call51 (c_l03Div f22 os_20 (by omega) (by omega) (hgp)) (fun v23 w23 p23 => ?_)
  obtain ⟨s23, t23, rfl, os_23, ot_23, c23⟩ := p23
  have zw23 := c23.size
  refine sm rfl rfl rfl rfl ?_
  refine sx_pure rfl rfl rfl (px_extract (vs := [s23, t23]) rfl rfl) ?_
  refine sx_pure rfl rfl rfl (px_extract (vs := [s23, t23]) rfl rfl) ?_
  refine sa rfl rfl rfl rfl ?_
  refine sa rfl rfl rfl rfl ?_
  refine wl_nil (q_n (k21 _ _ ?_))
  refine sx_seq fun K24 k24 => sx_region ?_
  refine sm rfl rfl rfl rfl ?_
  refine sm rfl rfl rfl rfl ?_
  have f25 := os_10.ext c20
  have f26 := f25.ext c23
  have f27 := os_20.ext c23
  refine sx_call rfl rfl Try.call51 (c_l03Div f26 f27 (by omega) (by omega) (hgp)) (fun v28 w28 p28 => ?_)
  obtain ⟨s28, t28, rfl, os_28, ot_28, c28⟩ := p28
  have zw28 := c28.size
  refine sm rfl rfl rfl rfl ?_
  refine sx_pure rfl rfl rfl (px_extract (vs := [s28, t28]) rfl rfl) ?_
  refine sx_pure rfl rfl rfl (px_extract (vs := [s28, t28]) rfl rfl) ?_
  refine sa rfl rfl rfl rfl ?_
  refine sa rfl rfl rfl rfl ?_
  refine wl_nil (q_n (k24 _ _ ?_))
  refine sx_sub (Sub.cons (t := 0) rfl (.cons (t := 6) rfl (.cons (t := 7) rfl (.cons (t := 11) rfl (.cons (t := 13) rfl (.nil)))))) ?_
  refine sx_seq fun K29 k29 => ?_
  refine sx_seq fun K30 k30 => sx_region ?_
  refine sm rfl rfl rfl rfl ?_
  have f31 := os_23.ext c28
  refine sx_pure rfl rfl rfl (px_len rfl Try.underlying22 f31) ?_
  refine sx_pure rfl rfl rfl (px_gt rfl rfl) ?_
  refine sm rfl rfl rfl rfl ?_
  refine sx_tmpP (t := 41) rfl (fun h23 => ?_) (fun h23 => ?_)
  ·
   refine sx_guardF rfl rfl rfl rfl rfl rfl ?_
   refine sx_guardF rfl rfl rfl rfl rfl rfl ?_
   refine sx_guardF rfl rfl rfl rfl rfl rfl ?_
   refine sx_pure rfl rfl rfl (px_pick rfl rfl) ?_
   refine wl_nil (q_n (k30 _ _ ?_))
   refine sx_condT rfl ?_
   refine sx_seq fun K32 k32 => sx_region ?_
   refine sx_pure rfl rfl rfl (px_build rfl (xbld44x  _)) ?_
   have f34 := fb2.ext c6
   have f35 := f34.ext c10
   have f36 := f35.ext c20
   have f37 := f36.ext c23
   have f38 := f37.ext c28
   refine sx_store (vs := [.bool false, (.slice none 0 0), (.slice none 0 0)]) rfl rfl f38 rfl Try.sizeOf44 (Nat.le_of_ble_eq_true rfl) (one_cons rfl (one_cons rfl (one_cons rfl one_nil))) (fun w33 sw33 fw33 cw33 => ?_)
   have zw33 := cw33.size
   have gw33 : Blk w33 b2 [.bool false, (.slice none 0 0), (.slice none 0 0)] 44 := fw33
   refine sa rfl rfl rfl rfl ?_
   refine wl_nil (q_n (k32 _ _ ?_))
   refine sx_retc ?_
   refine q_r (sx_ret2 Try.results109 ⟨_, rfl, gw33.loadA (vs := [.bool false, (.slice none 0 0), (.slice none 0 0)]) (look_lit rfl) Try.isAgg44 Try.sizeOf44⟩ rfl ?_)
   rw [rR_no (fun h => by omega)]
   have q39 := Chg.step (l := 0) (h := 0) (Chg.zero (l := 0) (h := 0) (((((cb2.t c6).t c10).t c20).t c23).t c28)) cw33 (by omega)
   exact ⟨_, _, w.heap.size, w.heap.size, w.heap.size, w.heap.size, rfl, Own.nil _ _ _ _ _, Own.nil _ _ _ _ _, by omega, ⟨by simp [noR], by simp [noR]⟩, q39⟩
  ·
   refine sx_guardT rfl rfl rfl ?_
   refine sm rfl rfl rfl rfl ?_
   refine sx_guardT rfl rfl rfl ?_
   refine sx_pure rfl rfl rfl (px_len rfl Try.underlying22 os_28) ?_
   refine sx_guardT rfl rfl rfl ?_
   refine sx_pure rfl rfl rfl (px_gt rfl rfl) ?_
   refine sx_pure rfl rfl rfl (px_pick rfl rfl) ?_
   refine wl_nil (q_n (k30 _ _ ?_))
   refine sx_condP rfl (fun h23x1 => ?_) (fun h23x1 => ?_)
   ·
    refine sx_seq fun K40 k40 => sx_region ?_
    refine sx_pure rfl rfl rfl (px_build rfl (xbld44x  _)) ?_
    have f42 := fb2.ext c6
    have f43 := f42.ext c10
    have f44 := f43.ext c20
    have f45 := f44.ext c23
    have f46 := f45.ext c28
    refine sx_store (vs := [.bool false, (.slice none 0 0), (.slice none 0 0)]) rfl rfl f46 rfl Try.sizeOf44 (Nat.le_of_ble_eq_true rfl) (one_cons rfl (one_cons rfl (one_cons rfl one_nil))) (fun w41 sw41 fw41 cw41 => ?_)
    have zw41 := cw41.size
    have gw41 : Blk w41 b2 [.bool false, (.slice none 0 0), (.slice none 0 0)] 44 := fw41
    refine sa rfl rfl rfl rfl ?_
    refine wl_nil (q_n (k40 _ _ ?_))
    refine sx_retc ?_
    refine q_r (sx_ret2 Try.results109 ⟨_, rfl, gw41.loadA (vs := [.bool false, (.slice none 0 0), (.slice none 0 0)]) (look_lit rfl) Try.isAgg44 Try.sizeOf44⟩ rfl ?_)
    rw [rR_no (fun h => by omega)]
    have q47 := Chg.step (l := 0) (h := 0) (Chg.zero (l := 0) (h := 0) (((((cb2.t c6).t c10).t c20).t c23).t c28)) cw41 (by omega)
    exact ⟨_, _, w.heap.size, w.heap.size, w.heap.size, w.heap.size, rfl, Own.nil _ _ _ _ _, Own.nil _ _ _ _ _, by omega, ⟨by simp [noR], by simp [noR]⟩, q47⟩
   ·
    refine sx_skip ?_
    refine q_n (k29 _ _ ?_)
    refine sx_seq fun K48 k48 => sx_region ?_
    refine sm rfl rfl rfl rfl ?_
    refine sm rfl rfl rfl rfl ?_
    refine sx_call rfl rfl Try.call54 (c_l04Make f31 (by omega)) (fun v49 w49 p49 => ?_)
    obtain ⟨s49, rfl, os_49, c49⟩ := p49
    have zw49 := c49.size
    refine sx_lit0 rfl xelt22 (fun s50 ws50 ss50 fs50 cs50 => ?_)
    have zws50 := cs50.size
    refine sm rfl rfl rfl rfl ?_
    have f52 := os_28.ext c49
    have f53 := f52.ext cs50
    refine sx_append rfl xelt22 rfl rfl fs50 f53 one_int (by omega) (by first | omega | (simp only [List.length_nil]; omega)) (by unfold maxLen; first | omega | (simp only [List.length_nil]; omega)) (fun a51 w51 fw51 cw51 => ?_)
    have nw51 := Own.norm (f := (Value.int .i64)) (zs := dg (d / (Nat.gcd m d))) fw51
    have zw51 := cw51.size
    refine sx_pure rfl rfl rfl (px_build rfl (xbld44x0x1 nw51.one _)) ?_
    have f55 := fb2.ext c6
    have f56 := f55.ext c10
    have f57 := f56.ext c20
    have f58 := f57.ext c23
    have f59 := f58.ext c28
    have f60 := f59.ext c49
    have f61 := f60.ext cs50
    have f62 := f61.chg cw51 (by omega)
    have f63 := os_49.ext cs50
    have f64 := f63.chg cw51 (by omega)
    refine sx_store (vs := [.bool (ng (capI n (m / (Nat.gcd m d)))), s49, a51]) rfl rfl f62 rfl Try.sizeOf44 (Nat.le_of_ble_eq_true rfl) (one_cons rfl (one_cons f64.one (one_cons nw51.one one_nil))) (fun w54 sw54 fw54 cw54 => ?_)
    have zw54 := cw54.size
    have gw54 : Blk w54 b2 [.bool (ng (capI n (m / (Nat.gcd m d)))), s49, a51] 44 := fw54
    refine sa rfl rfl rfl rfl ?_
    refine wl_nil (q_n (k48 _ _ ?_))
    refine sx_sub (Sub.cons (t := 6) rfl (.cons (t := 7) rfl (.nil))) ?_
    refine sx_retc ?_
    refine sx_ret2 Try.results109 ⟨_, rfl, gw54.loadA (vs := [.bool (ng (capI n (m / (Nat.gcd m d)))), s49, a51]) (look_lit rfl) Try.isAgg44 Try.sizeOf44⟩ rfl ?_
    have hrl := rR_len (x := sgI n m) (d := d)
    have hcs := capI_sgI (n := n) (m := m / Nat.gcd m d) (by omega)
    have f65 := f64.chg cw54 (by omega)
    have hr1 := f65
    rw [hcs, sgI_abs] at hr1
    rw [rR_ok hd0 (by omega) (by omega)] at hrl ⊢
    have q66 := Chg.step (l := 0) (h := 0) (Chg.zero (l := 0) (h := 0) (((((((cb2.t c6).t c10).t c20).t c23).t c28).t c49).t cs50)) cw51 (by omega)
    have q67 := Chg.step (l := 0) (h := 0) q66 cw54 (by omega)
    have f68 := nw51.chg cw54 (by omega)
    exact ⟨_, _, _, _, _, _, by rw [hcs, ← ng_sgI], hr1, f68, by omega, hrl, q67⟩

theorem c_sRatMake {w : World} {n1 : Bool} {v1 : Value} {lv1 uv1 : Nat} {z1 : List Int} {n2 : Bool} {v2 : Value} {lv2 uv2 : Nat} {z2 : List Int} (hv1 : Sl w lv1 uv1 v1 (z1)) (hv2 : Sl w lv2 uv2 v2 (z2)) (h63 : z1.length ≤ 4611686018427387904 ∧ z2.length ≤ 4611686018427387904) :
  Ret Try.prog 100 [.agg #[.bool n1, v1], .agg #[.bool n2, v2]] w fun v w' => ∃ s t ls us lt ut, v = .tuple #[.agg #[.bool ((rMake n1 z1 n2 z2).1), s, t], .bool ((rMake n1 z1 n2 z2).2.2.2)] ∧ OwnI w' (ls) (us) s intT ((rMake n1 z1 n2 z2).2.1) ∧ OwnI w' (lt) (ut) t intT ((rMake n1 z1 n2 z2).2.2.1) ∧ (w.heap.size ≤ ls ∧ us ≤ w'.heap.size ∧ w.heap.size ≤ lt ∧ ut ≤ w'.heap.size ∧ (us ≤ lt ∨ ut ≤ ls)) ∧ ((rMake n1 z1 n2 z2).2.1.length ≤ 18 ∧ (rMake n1 z1 n2 z2).2.2.1.length ≤ 18) ∧ Chg 0 0 w w' := by
 have hv10 := hv1.fit
 have hv20 := hv2.fit
 refine sx_enter Try.func100 rfl Try.ntmps100 (Nat.le_of_ble_eq_true rfl) ?_
 refine sx_seq fun K1 k1 => sx_region ?_
 refine sx_box [.bool n1, v1] rfl rfl rfl (fun b2 w3 eb2 sb2 fb2 cb2 => ?_)
 have zw3 := cb2.size
 refine sx_box [.bool n2, v2] rfl rfl rfl (fun b4 w5 eb4 sb4 fb4 cb4 => ?_)
 have zw5 := cb4.size
 refine sx_alloc [.bool false, (.slice none 0 0), (.slice none 0 0)] rfl Try.zeroValue44 rfl (fun b6 w7 eb6 sb6 fb6 cb6 => ?_)
 have zw7 := cb6.size
 refine sa rfl rfl rfl rfl ?_
 refine wl_nil (q_n (k1 _ _ ?_))
 refine sx_seq fun K8 k8 => ?_
 refine sx_seq fun K9 k9 => sx_region ?_
 have f10 := fb2.ext cb4
 have f11 := f10.ext cb6
 refine sx_pure rfl rfl rfl (px_load rfl (f11.loadA (vs := [.bool n1, v1]) (look_lit rfl) Try.isAgg28 Try.sizeOf28)) ?_
 have f12 := hv10.ext cb2
 have f13 := f12.ext cb4
 have f14 := f13.ext cb6
 refine sx_call rfl rfl Try.call73 (c_sIntOk f14 (by omega)) (fun v15 w15 p15 => ?_)
 obtain ⟨rfl, c15⟩ := p15
 have zw15 := c15.size
 refine sx_pure rfl rfl rfl (px_notP rfl) ?_
 refine sm rfl rfl rfl rfl ?_
 refine sx_tmpP (t := 9) rfl (fun h42 => ?_) (fun h42 => ?_)
 ·
  refine sx_guardF rfl rfl rfl rfl rfl rfl ?_
  refine sx_guardF rfl rfl rfl rfl rfl rfl ?_
  refine sx_guardF rfl rfl rfl rfl rfl rfl ?_
  refine sx_pure rfl rfl rfl (px_pick rfl rfl) ?_
  refine wl_nil (q_n (k9 _ _ ?_))
  refine sx_condT rfl ?_
  refine sx_seq fun K16 k16 => sx_region ?_
  refine sx_pure rfl rfl rfl (px_build rfl (xbld44x  _)) ?_
  have f18 := fb6.ext c15
  refine sx_store (vs := [.bool false, (.slice none 0 0), (.slice none 0 0)]) rfl rfl f18 rfl Try.sizeOf44 (Nat.le_of_ble_eq_true rfl) (one_cons rfl (one_cons rfl (one_cons rfl one_nil))) (fun w17 sw17 fw17 cw17 => ?_)
  have zw17 := cw17.size
  have gw17 : Blk w17 b6 [.bool false, (.slice none 0 0), (.slice none 0 0)] 44 := fw17
  refine sa rfl rfl rfl rfl ?_
  refine wl_nil (q_n (k16 _ _ ?_))
  refine sx_sub (Sub.cons (t := 2) rfl (.cons (t := 3) rfl (.cons (t := 4) rfl (.cons (t := 5) rfl (.nil))))) ?_
  refine sx_retc ?_
  refine q_r (sx_ret2 Try.results100 ⟨_, rfl, gw17.loadA (vs := [.bool false, (.slice none 0 0), (.slice none 0 0)]) (look_lit rfl) Try.isAgg44 Try.sizeOf44⟩ rfl ?_)
  rw [rMake_no (by grind)]
  have q19 := Chg.step (l := 0) (h := 0) (Chg.zero (l := 0) (h := 0) (((cb2.t cb4).t cb6).t c15)) cw17 (by omega)
  exact ⟨_, _, w.heap.size, w.heap.size, w.heap.size, w.heap.size, rfl, Own.nil _ _ _ _ _, Own.nil _ _ _ _ _, by omega, ⟨by simp [noR], by simp [noR]⟩, q19⟩
 ·
  refine sx_guardT rfl rfl rfl ?_
  have f20 := fb4.ext cb6
  have f21 := f20.ext c15
  refine sx_pure rfl rfl rfl (px_load rfl (f21.loadA (vs := [.bool n2, v2]) (look_lit rfl) Try.isAgg28 Try.sizeOf28)) ?_
  refine sx_guardT rfl rfl rfl ?_
  have f22 := hv20.ext cb2
  have f23 := f22.ext cb4
  have f24 := f23.ext cb6
  have f25 := f24.ext c15
  refine sx_call rfl rfl Try.call73 (c_sIntOk f25 (by omega)) (fun v26 w26 p26 => ?_)
  obtain ⟨rfl, c26⟩ := p26
  have zw26 := c26.size
  refine sx_guardT rfl rfl rfl ?_
  refine sx_pure rfl rfl rfl (px_notP rfl) ?_
  refine sx_pure rfl rfl rfl (px_pick rfl rfl) ?_
  refine wl_nil (q_n (k9 _ _ ?_))
  refine sx_condP rfl (fun h42x1 => ?_) (fun h42x1 => ?_)
  ·
   refine sx_seq fun K27 k27 => sx_region ?_
   refine sx_pure rfl rfl rfl (px_build rfl (xbld44x  _)) ?_
   have f29 := fb6.ext c15
   have f30 := f29.ext c26
   refine sx_store (vs := [.bool false, (.slice none 0 0), (.slice none 0 0)]) rfl rfl f30 rfl Try.sizeOf44 (Nat.le_of_ble_eq_true rfl) (one_cons rfl (one_cons rfl (one_cons rfl one_nil))) (fun w28 sw28 fw28 cw28 => ?_)
   have zw28 := cw28.size
   have gw28 : Blk w28 b6 [.bool false, (.slice none 0 0), (.slice none 0 0)] 44 := fw28
   refine sa rfl rfl rfl rfl ?_
   refine wl_nil (q_n (k27 _ _ ?_))
   refine sx_sub (Sub.cons (t := 2) rfl (.cons (t := 3) rfl (.cons (t := 4) rfl (.cons (t := 5) rfl (.nil))))) ?_
   refine sx_retc ?_
   refine q_r (sx_ret2 Try.results100 ⟨_, rfl, gw28.loadA (vs := [.bool false, (.slice none 0 0), (.slice none 0 0)]) (look_lit rfl) Try.isAgg44 Try.sizeOf44⟩ rfl ?_)
   rw [rMake_no (by grind)]
   have q31 := Chg.step (l := 0) (h := 0) (Chg.zero (l := 0) (h := 0) ((((cb2.t cb4).t cb6).t c15).t c26)) cw28 (by omega)
   exact ⟨_, _, w.heap.size, w.heap.size, w.heap.size, w.heap.size, rfl, Own.nil _ _ _ _ _, Own.nil _ _ _ _ _, by omega, ⟨by simp [noR], by simp [noR]⟩, q31⟩
  ·
   have hI := Decidable.not_not.1 h42
   have hJ := Decidable.not_not.1 h42x1
   obtain ⟨x1, rfl, rfl, hx1⟩ := hI.int
   obtain ⟨x2, rfl, rfl, hx2⟩ := hJ.int
   refine sx_skip ?_
   refine q_n (k8 _ _ ?_)
   refine sx_seq fun K32 k32 => sx_region ?_
   refine sx_pure rfl rfl rfl (px_field rfl xfld28x0) ?_
   have f33 := f11.ext c15
   have f34 := f33.ext c26
   refine sx_pure rfl rfl rfl (px_load rfl (f34.load1 rfl Try.isAgg4)) ?_
   refine sx_pure rfl rfl rfl (px_field rfl xfld28x0) ?_
   have f35 := f21.ext c26
   refine sx_pure rfl rfl rfl (px_load rfl (f35.load1 rfl Try.isAgg4)) ?_
   refine sx_pure rfl rfl rfl (px_neB Try.underlying4 rfl rfl) ?_
   refine sx_pure rfl rfl rfl (px_field rfl xfld28x1) ?_
   refine sx_pure rfl rfl rfl (px_load rfl (f34.load1 rfl Try.isAgg22)) ?_
   refine sx_pure rfl rfl rfl (px_field rfl xfld28x1) ?_
   refine sx_pure rfl rfl rfl (px_load rfl (f35.load1 rfl Try.isAgg22)) ?_
   have f36 := f14.ext c15
   have f37 := f36.ext c26
   have f38 := f25.ext c26
   refine sx_call rfl rfl Try.call109 (c_l05Low f37 f38 (by omega) (by omega)) (fun v39 w39 p39 => ?_)
   obtain ⟨s39, t39, ls39, us39, lt39, ut39, rfl, os_39, ot_39, hd39, hl39, c39⟩ := p39
   have zw39 := c39.size
   refine sx_pure rfl rfl rfl (px_extract (vs := [.agg #[.bool ((rR (sgI ((ng x1) != (ng x2)) x1.natAbs) x2.natAbs).1), s39, t39], .bool ((rR (sgI ((ng x1) != (ng x2)) x1.natAbs) x2.natAbs).2.2.2)]) rfl rfl) ?_
   refine sx_pure rfl rfl rfl (px_extract (vs := [.agg #[.bool ((rR (sgI ((ng x1) != (ng x2)) x1.natAbs) x2.natAbs).1), s39, t39], .bool ((rR (sgI ((ng x1) != (ng x2)) x1.natAbs) x2.natAbs).2.2.2)]) rfl rfl) ?_
   have f41 := fb6.ext c15
   have f42 := f41.ext c26
   have f43 := f42.ext c39
   refine sx_store (vs := [.bool ((rR (sgI ((ng x1) != (ng x2)) x1.natAbs) x2.natAbs).1), s39, t39]) rfl rfl f43 rfl Try.sizeOf44 (Nat.le_of_ble_eq_true rfl) (one_cons rfl (one_cons os_39.one (one_cons ot_39.one one_nil))) (fun w40 sw40 fw40 cw40 => ?_)
   have zw40 := cw40.size
   have gw40 : Blk w40 b6 [.bool ((rR (sgI ((ng x1) != (ng x2)) x1.natAbs) x2.natAbs).1), s39, t39] 44 := fw40
   refine sa rfl rfl rfl rfl ?_
   refine wl_nil (q_n (k32 _ _ ?_))
   refine sx_sub (Sub.cons (t := 4) rfl (.cons (t := 5) rfl (.nil))) ?_
   refine sx_retc ?_
   refine sx_ret2 Try.results100 ⟨_, rfl, gw40.loadA (vs := [.bool ((rR (sgI ((ng x1) != (ng x2)) x1.natAbs) x2.natAbs).1), s39, t39]) (look_lit rfl) Try.isAgg44 Try.sizeOf44⟩ rfl ?_
   have hrl := rMake_len (n1 := ng x1) (z1 := dg x1.natAbs) (n2 := ng x2) (z2 := dg x2.natAbs)
   rw [rMake_ok hI hJ] at hrl ⊢
   have q44 := Chg.step (l := 0) (h := 0) (Chg.zero (l := 0) (h := 0) (((((cb2.t cb4).t cb6).t c15).t c26).t c39)) cw40 (by omega)
   have f45 := os_39.chg cw40 (by omega)
   have f46 := ot_39.chg cw40 (by omega)
   exact ⟨_, _, _, _, _, _, rfl, f45, f46, by omega, hrl, q44⟩

theorem c_sRatInt {w : World} {n1 : Bool} {v1 : Value} {lv1 uv1 : Nat} {z1 : List Int} (hv1 : Sl w lv1 uv1 v1 (z1)) (h63 : z1.length ≤ 4611686018427387904) :
  Ret Try.prog 63 [.agg #[.bool n1, v1]] w fun v w' => ∃ s t ls us lt ut, v = .tuple #[.agg #[.bool ((rInt n1 z1).1), s, t], .bool ((rInt n1 z1).2.2.2)] ∧ OwnI w' (ls) (us) s intT ((rInt n1 z1).2.1) ∧ OwnI w' (lt) (ut) t intT ((rInt n1 z1).2.2.1) ∧ (w.heap.size ≤ ls ∧ us ≤ w'.heap.size ∧ w.heap.size ≤ lt ∧ ut ≤ w'.heap.size ∧ (us ≤ lt ∨ ut ≤ ls)) ∧ ((rInt n1 z1).2.1.length ≤ 18 ∧ (rInt n1 z1).2.2.1.length ≤ 18) ∧ Chg 0 0 w w' := by
 have hv10 := hv1.fit
 refine sx_enter Try.func63 rfl Try.ntmps63 (Nat.le_of_ble_eq_true rfl) ?_
 refine sx_seq fun K1 k1 => sx_region ?_
 refine sx_box [.bool n1, v1] rfl rfl rfl (fun b2 w3 eb2 sb2 fb2 cb2 => ?_)
 have zw3 := cb2.size
 refine sx_alloc [.bool false, (.slice none 0 0), (.slice none 0 0)] rfl Try.zeroValue44 rfl (fun b4 w5 eb4 sb4 fb4 cb4 => ?_)
 have zw5 := cb4.size
 refine sa rfl rfl rfl rfl ?_
 refine wl_nil (q_n (k1 _ _ ?_))
 refine sx_seq fun K6 k6 => ?_
 have f7 := fb2.ext cb4
 have f8 := hv10.ext cb2
 have f9 := f8.ext cb4
 refine dx_region (fun w' => Chg b4 (b4 + 1) w5 w') (by kernel_rfl) (Chg.zero (Chg.drew _)) ?_
 have d10 := Chg.drew w5
 have s10 : Chg b4 (b4 + 1) w5 (World.drew w5) := Chg.zero (Chg.drew _)
 have y10 : (World.drew w5).heap.size = w5.heap.size := rfl
 generalize World.drew w5 = w10 at *
 have zw10 := d10.size
 refine dx_take 0 rfl rfl rfl rfl (by kernel_rfl) (by kernel_rfl) (by kernel_rfl) s10 (fun _ hS => px_load rfl ((f7.chg hS (by omega)).loadA (vs := [.bool n1, v1]) (look_lit rfl) Try.isAgg28 Try.sizeOf28)) ?_
 refine dx_eff 1 rfl (by kernel_rfl) ?_
 refine sx_call rfl rfl Try.call101 (c_sIntOf (by omega)) (fun v11 w11 p11 => ?_)
 obtain ⟨s11, rfl, os_11, c11⟩ := p11
 have zw11 := c11.size
 have s12 : Chg b4 (b4 + 1) w5 w11 := (Chg.zero (l := b4) (h := (b4 + 1)) (d10.t c11))
 refine wl_nil ?_
 refine dx_next s12 ?_
 refine dx_eff 2 rfl (by kernel_rfl) ?_
 have f13 := f9.ext d10
 have f14 := f13.ext c11
 refine sx_call rfl rfl Try.call100 (c_sRatMake f14 os_11.sv (by have h9 := len_i64 (n := 1) (by omega); omega)) (fun v15 w15 p15 => ?_)
 obtain ⟨s15, t15, ls15, us15, lt15, ut15, rfl, os_15, ot_15, hd15, hl15, c15⟩ := p15
 have zw15 := c15.size
 have s16 : Chg b4 (b4 + 1) w5 w15 := (Chg.zero (l := b4) (h := (b4 + 1)) ((d10.t c11).t c15))
 refine wl_nil ?_
 refine dx_next s16 ?_
 refine dx_take 3 rfl rfl rfl rfl (by kernel_rfl) (by kernel_rfl) (by kernel_rfl) s16 (fun _ hS => px_extract (vs := [.agg #[.bool ((rMake n1 z1 (ng (1 : Int)) (dg ((1 : Int)).natAbs)).1), s15, t15], .bool ((rMake n1 z1 (ng (1 : Int)) (dg ((1 : Int)).natAbs)).2.2.2)]) rfl rfl) ?_
 refine dx_take 4 rfl rfl rfl rfl (by kernel_rfl) (by kernel_rfl) (by kernel_rfl) s16 (fun _ hS => px_extract (vs := [.agg #[.bool ((rMake n1 z1 (ng (1 : Int)) (dg ((1 : Int)).natAbs)).1), s15, t15], .bool ((rMake n1 z1 (ng (1 : Int)) (dg ((1 : Int)).natAbs)).2.2.2)]) rfl rfl) ?_
 refine dx_eff 5 rfl (by kernel_rfl) ?_
 have f18 := fb4.ext d10
 have f19 := f18.ext c11
 have f20 := f19.ext c15
 refine sx_store (vs := [.bool ((rMake n1 z1 (ng (1 : Int)) (dg ((1 : Int)).natAbs)).1), s15, t15]) rfl rfl f20 rfl Try.sizeOf44 (Nat.le_of_ble_eq_true rfl) (one_cons rfl (one_cons os_15.one (one_cons ot_15.one one_nil))) (fun w17 sw17 fw17 cw17 => ?_)
 have zw17 := cw17.size
 have gw17 : Blk w17 b4 [.bool ((rMake n1 z1 (ng (1 : Int)) (dg ((1 : Int)).natAbs)).1), s15, t15] 44 := fw17
 have q22 := Chg.step (l := b4) (h := (b4 + 1)) (Chg.zero (l := b4) (h := (b4 + 1)) ((d10.t c11).t c15)) cw17 (by omega)
 have s21 : Chg b4 (b4 + 1) w5 w17 := q22
 refine wl_nil ?_
 refine dx_next s21 ?_
 refine dx_take 6 rfl rfl rfl rfl (by kernel_rfl) (by kernel_rfl) (by kernel_rfl) s21 (fun _ hS => px_assign rfl) ?_
 refine dx_done (by kernel_rfl) ?_
 refine q_n (k6 _ _ ?_)
 refine sx_retc ?_
 refine sx_ret2 Try.results63 ⟨_, rfl, gw17.loadA (vs := [.bool ((rMake n1 z1 (ng (1 : Int)) (dg ((1 : Int)).natAbs)).1), s15, t15]) (look_lit rfl) Try.isAgg44 Try.sizeOf44⟩ rfl ?_
 have hrl := rInt_len (n := n1) (z := z1)
 unfold rInt at hrl ⊢
 have q23 := Chg.step (l := 0) (h := 0) (Chg.zero (l := 0) (h := 0) ((((cb2.t cb4).t d10).t c11).t c15)) cw17 (by omega)
 have f24 := os_15.chg cw17 (by omega)
 have f25 := ot_15.chg cw17 (by omega)
 exact ⟨_, _, _, _, _, _, rfl, f24, f25, by omega, hrl, q23⟩

theorem c_IntNeg {w : World} {va : Value} {lva uva : Nat} {x : Int} (hva : Sl w lva uva va (dg x.natAbs)) (hbx : (dg x.natAbs).length ≤ 50) :
  Ret Try.prog 121 [.agg #[.bool (ng x), va]] w fun v w' => ∃ s, v = .agg #[.bool (ng (-x)), s] ∧ OwnI w' w.heap.size w'.heap.size s intT (dg (-x).natAbs) ∧ Chg 0 0 w w' := by
 have hva0 := hva.fit
 refine sx_enter Try.func121 rfl Try.ntmps121 (Nat.le_of_ble_eq_true rfl) ?_
 refine sx_seq fun K1 k1 => sx_region ?_
 refine sx_box [.bool (ng x), va] rfl rfl rfl (fun b2 w3 eb2 sb2 fb2 cb2 => ?_)
 have zw3 := cb2.size
 refine sx_alloc [.bool false, (.slice none 0 0)] rfl Try.zeroValue28 rfl (fun b4 w5 eb4 sb4 fb4 cb4 => ?_)
 have zw5 := cb4.size
 refine wl_nil (q_n (k1 _ _ ?_))
 refine sx_seq fun K6 k6 => ?_
 refine sx_seq fun K7 k7 => sx_region ?_
 have f8 := fb2.ext cb4
 refine sx_pure rfl rfl rfl (px_load rfl (f8.loadA (vs := [.bool (ng x), va]) (look_lit rfl) Try.isAgg28 Try.sizeOf28)) ?_
 have f9 := hva0.ext cb2
 have f10 := f9.ext cb4
 refine sx_call rfl rfl Try.call73 (c_sIntOk f10 (by omega)) (fun v11 w11 p11 => ?_)
 obtain ⟨rfl, c11⟩ := p11
 have zw11 := c11.size
 refine sx_pure rfl rfl rfl (px_notP rfl) ?_
 refine wl_nil (q_n (k7 _ _ ?_))
 have h38 : ¬ (¬ (IOk (ng x) (dg x.natAbs))) := by first | exact fun h => h (IOk_ng (by omega)) | exact fun h => h (IOk_ng (by assumption))
 refine sx_condPF rfl h38 ?_
 refine sx_skip ?_
 refine q_n (k6 _ _ ?_)
 refine sx_seq fun K12 k12 => sx_region ?_
 refine sx_pure rfl rfl rfl (px_field rfl xfld28x0) ?_
 have f13 := f8.ext c11
 refine sx_pure rfl rfl rfl (px_load rfl (f13.load1 rfl Try.isAgg4)) ?_
 refine sx_pure rfl rfl rfl (px_not rfl) ?_
 refine sx_pure rfl rfl rfl (px_field rfl xfld28x1) ?_
 refine sx_pure rfl rfl rfl (px_load rfl (f13.load1 rfl Try.isAgg22)) ?_
 have f14 := f10.ext c11
 refine sx_call rfl rfl Try.call54 (c_l04Make f14 (by omega)) (fun v15 w15 p15 => ?_)
 obtain ⟨s15, rfl, os_15, c15⟩ := p15
 have zw15 := c15.size
 have f17 := fb4.ext c11
 have f18 := f17.ext c15
 refine sx_store (vs := [.bool (ng (capI (!(ng x)) x.natAbs)), s15]) rfl rfl f18 rfl Try.sizeOf28 (Nat.le_of_ble_eq_true rfl) (one_cons rfl (one_cons os_15.one one_nil)) (fun w16 sw16 fw16 cw16 => ?_)
 have zw16 := cw16.size
 have gw16 : Blk w16 b4 [.bool (ng (capI (!(ng x)) x.natAbs)), s15] 28 := fw16
 refine wl_nil (q_n (k12 _ _ ?_))
 refine sx_retc ?_
 refine sx_ret1 Try.results121 ⟨_, rfl, gw16.loadA (vs := [.bool (ng (capI (!(ng x)) x.natAbs)), s15]) (look_lit rfl) Try.isAgg28 Try.sizeOf28⟩ ?_
 have hq := capI_of (neg_sg x)
 rw [cap_ok (by rw [Int.natAbs_neg]; exact hbx)] at hq
 rw [← hq]
 have q19 := Chg.step (l := 0) (h := 0) (Chg.zero (l := 0) (h := 0) (((cb2.t cb4).t c11).t c15)) cw16 (by omega)
 have f20 := os_15.chg cw16 (by omega)
 exact ⟨_, rfl, (Own.mono f20 (by omega) (by omega)), q19⟩

theorem c_sRatNeg {w : World} {n1 : Bool} {v1 : Value} {lv1 uv1 : Nat} {z1 : List Int} {d1 : Value} {ld1 ud1 : Nat} {y1 : List Int} (hv1 : Sl w lv1 uv1 v1 (z1)) (hd1 : Sl w ld1 ud1 d1 (y1)) (h63 : z1.length ≤ 4611686018427387904 ∧ y1.length ≤ 4611686018427387904) :
  Ret Try.prog 102 [.agg #[.bool n1, v1, d1]] w fun v w' => ∃ s t ls us lt ut, v = .tuple #[.agg #[.bool ((rNeg n1 z1 y1).1), s, t], .bool ((rNeg n1 z1 y1).2.2.2)] ∧ OwnI w' (ls) (us) s intT ((rNeg n1 z1 y1).2.1) ∧ OwnI w' (lt) (ut) t intT ((rNeg n1 z1 y1).2.2.1) ∧ (w.heap.size ≤ ls ∧ us ≤ w'.heap.size ∧ w.heap.size ≤ lt ∧ ut ≤ w'.heap.size ∧ (us ≤ lt ∨ ut ≤ ls)) ∧ ((rNeg n1 z1 y1).2.1.length ≤ 18 ∧ (rNeg n1 z1 y1).2.2.1.length ≤ 18) ∧ Chg 0 0 w w' := by
 have hv10 := hv1.fit
 have hd10 := hd1.fit
 refine sx_enter Try.func102 rfl Try.ntmps102 (Nat.le_of_ble_eq_true rfl) ?_
 refine sx_seq fun K1 k1 => sx_region ?_
 refine sx_box [.bool n1, v1, d1] rfl rfl rfl (fun b2 w3 eb2 sb2 fb2 cb2 => ?_)
 have zw3 := cb2.size
 refine sx_alloc [.bool false, (.slice none 0 0), (.slice none 0 0)] rfl Try.zeroValue44 rfl (fun b4 w5 eb4 sb4 fb4 cb4 => ?_)
 have zw5 := cb4.size
 refine sa rfl rfl rfl rfl ?_
 refine wl_nil (q_n (k1 _ _ ?_))
 refine sx_seq fun K6 k6 => ?_
 refine sx_seq fun K7 k7 => sx_region ?_
 have f8 := fb2.ext cb4
 refine sx_pure rfl rfl rfl (px_load rfl (f8.loadA (vs := [.bool n1, v1, d1]) (look_lit rfl) Try.isAgg44 Try.sizeOf44)) ?_
 have f9 := hv10.ext cb2
 have f10 := f9.ext cb4
 have f11 := hd10.ext cb2
 have f12 := f11.ext cb4
 refine sx_call rfl rfl Try.call47 (c_sRatOk f10 f12 (by omega)) (fun v13 w13 p13 => ?_)
 obtain ⟨rfl, c13⟩ := p13
 have zw13 := c13.size
 refine sx_pure rfl rfl rfl (px_notP rfl) ?_
 refine wl_nil (q_n (k7 _ _ ?_))
 refine sx_condP rfl (fun h67 => ?_) (fun h67 => ?_)
 ·
  refine sx_seq fun K14 k14 => sx_region ?_
  refine sx_pure rfl rfl rfl (px_build rfl (xbld44x  _)) ?_
  have f16 := fb4.ext c13
  refine sx_store (vs := [.bool false, (.slice none 0 0), (.slice none 0 0)]) rfl rfl f16 rfl Try.sizeOf44 (Nat.le_of_ble_eq_true rfl) (one_cons rfl (one_cons rfl (one_cons rfl one_nil))) (fun w15 sw15 fw15 cw15 => ?_)
  have zw15 := cw15.size
  have gw15 : Blk w15 b4 [.bool false, (.slice none 0 0), (.slice none 0 0)] 44 := fw15
  refine sa rfl rfl rfl rfl ?_
  refine wl_nil (q_n (k14 _ _ ?_))
  refine sx_retc ?_
  refine q_r (sx_ret2 Try.results102 ⟨_, rfl, gw15.loadA (vs := [.bool false, (.slice none 0 0), (.slice none 0 0)]) (look_lit rfl) Try.isAgg44 Try.sizeOf44⟩ rfl ?_)
  rw [rNeg_no h67]
  have q17 := Chg.step (l := 0) (h := 0) (Chg.zero (l := 0) (h := 0) ((cb2.t cb4).t c13)) cw15 (by omega)
  exact ⟨_, _, w.heap.size, w.heap.size, w.heap.size, w.heap.size, rfl, Own.nil _ _ _ _ _, Own.nil _ _ _ _ _, by omega, ⟨by simp [noR], by simp [noR]⟩, q17⟩
 ·
  have hR := Decidable.not_not.1 h67
  obtain ⟨x1, e1, rfl, rfl, rfl, hp1, hx1, hy1, hg1⟩ := hR.rat
  refine sx_skip ?_
  refine q_n (k6 _ _ ?_)
  refine sx_seq fun K18 k18 => ?_
  refine sx_cut k18 (fun fr w' => ∃ (gs19x0 : Value) (gl19x0 : Nat) (gu19x0 : Nat) (gs19x1 : Value) (gl19x1 : Nat) (gu19x1 : Nat), fr = [(2, .pointer (some ⟨b4, 0, none⟩)), (3, .bool true)] ∧ Chg b4 (b4 + 1) w13 w' ∧ (Own w' gl19x0 gu19x0 gs19x0 intT ((dg (-x1).natAbs).length) 1 ((dg (-x1).natAbs).map (Value.int .i64))) ∧ (Own w' gl19x1 gu19x1 gs19x1 3 ((dg e1).length) 1 ((dg e1).map (Value.int .i64))) ∧ (Blk w' b4 [.bool (ng (-x1)), gs19x0, gs19x1] 44) ∧ (w13.heap.size ≤ gl19x0 ∧ gu19x0 ≤ w'.heap.size) ∧ (w13.heap.size ≤ gl19x1 ∧ gu19x1 ≤ w'.heap.size) ∧ (gu19x1 ≤ gl19x0 ∨ gu19x0 ≤ gl19x1)) (fun kc19 => ?_) ?_
  ·
   have f20 := f8.ext c13
   have f21 := f10.ext c13
   have f22 := f12.ext c13
   refine dx_region (fun w' => Chg b4 (b4 + 1) w13 w') (by kernel_rfl) (Chg.zero (Chg.drew _)) ?_
   have d23 := Chg.drew w13
   have s23 : Chg b4 (b4 + 1) w13 (World.drew w13) := Chg.zero (Chg.drew _)
   have y23 : (World.drew w13).heap.size = w13.heap.size := rfl
   generalize World.drew w13 = w23 at *
   have zw23 := d23.size
   refine dx_take 0 rfl rfl rfl rfl (by kernel_rfl) (by kernel_rfl) (by kernel_rfl) s23 (fun _ hS => px_field rfl xfld44x0) ?_
   refine dx_take 1 rfl rfl rfl rfl (by kernel_rfl) (by kernel_rfl) (by kernel_rfl) s23 (fun _ hS => px_load rfl ((f20.chg hS (by omega)).loadA (vs := [.bool (ng x1), v1]) (look_lit rfl) Try.isAgg28 Try.sizeOf28)) ?_
   refine dx_take 4 rfl rfl rfl rfl (by kernel_rfl) (by kernel_rfl) (by kernel_rfl) s23 (fun _ hS => px_field rfl xfld44x1) ?_
   refine dx_take 5 rfl rfl rfl rfl (by kernel_rfl) (by kernel_rfl) (by kernel_rfl) s23 (fun _ hS => px_load rfl ((f20.chg hS (by omega)).load1 rfl Try.isAgg22)) ?_
   refine dx_eff2 2 3 rfl rfl (by kernel_rfl) ?_ ?_
   ·
    have f24 := f21.ext d23
    refine sx_call rfl rfl Try.call121 (c_IntNeg f24 (by omega)) (fun v25 w25 p25 => ?_)
    obtain ⟨s25, rfl, os_25, c25⟩ := p25
    have zw25 := c25.size
    have s26 : Chg b4 (b4 + 1) w13 w25 := (Chg.zero (l := b4) (h := (b4 + 1)) (d23.t c25))
    refine wl_nil ?_
    refine dx_next s26 ?_
    refine dx_eff 3 rfl (by kernel_rfl) ?_
    refine sx_lit0 rfl xelt22 (fun s27 ws27 ss27 fs27 cs27 => ?_)
    have zws27 := cs27.size
    have s28 : Chg b4 (b4 + 1) w13 ws27 := (Chg.zero (l := b4) (h := (b4 + 1)) ((d23.t c25).t cs27))
    refine wl_nil ?_
    refine dx_next s28 ?_
    refine dx_eff 6 rfl (by kernel_rfl) ?_
    have f30 := f22.ext d23
    have f31 := f30.ext c25
    have f32 := f31.ext cs27
    refine sx_append2 rfl xelt22 rfl rfl fs27 f32 (len_pos.2 hp1) one_int (by omega) (by first | omega | (simp only [List.length_nil]; omega)) (by unfold maxLen; first | omega | (simp only [List.length_nil]; omega)) (fun a29 w29 alw29 ahw29 adw29 fw29 cw29 => ?_)
    have nw29 := Own.norm (f := (Value.int .i64)) (zs := dg e1) fw29
    have zw29 := cw29.size
    have q34 := Chg.step (l := b4) (h := (b4 + 1)) (Chg.zero (l := b4) (h := (b4 + 1)) ((d23.t c25).t cs27)) cw29 (by omega)
    have s33 : Chg b4 (b4 + 1) w13 w29 := q34
    refine wl_nil ?_
    refine dx_next s33 ?_
    refine dx_take 7 rfl rfl rfl rfl (by kernel_rfl) (by kernel_rfl) (by kernel_rfl) s33 (fun _ hS => px_build rfl (xbld44x0x1 nw29.one _)) ?_
    refine dx_eff 8 rfl (by kernel_rfl) ?_
    have f36 := fb4.ext c13
    have f37 := f36.ext d23
    have f38 := f37.ext c25
    have f39 := f38.ext cs27
    have f40 := f39.chg cw29 (by omega)
    have f41 := os_25.ext cs27
    have f42 := f41.chg cw29 (by omega)
    refine sx_store (vs := [.bool (ng (-x1)), s25, a29]) rfl rfl f40 rfl Try.sizeOf44 (Nat.le_of_ble_eq_true rfl) (one_cons rfl (one_cons f42.one (one_cons nw29.one one_nil))) (fun w35 sw35 fw35 cw35 => ?_)
    have zw35 := cw35.size
    have gw35 : Blk w35 b4 [.bool (ng (-x1)), s25, a29] 44 := fw35
    have q44 := Chg.step (l := b4) (h := (b4 + 1)) (Chg.zero (l := b4) (h := (b4 + 1)) ((d23.t c25).t cs27)) cw29 (by omega)
    have q45 := Chg.step (l := b4) (h := (b4 + 1)) q44 cw35 (by omega)
    have s43 : Chg b4 (b4 + 1) w13 w35 := q45
    refine wl_nil ?_
    refine dx_next s43 ?_
    refine dx_take 9 rfl rfl rfl rfl (by kernel_rfl) (by kernel_rfl) (by kernel_rfl) s43 (fun _ hS => px_assign rfl) ?_
    refine dx_done (by kernel_rfl) ?_
    have f46 := f42.chg cw35 (by omega)
    have f47 := nw29.chg cw35 (by omega)
    have q48 := Chg.step (l := b4) (h := (b4 + 1)) (Chg.zero (l := b4) (h := (b4 + 1)) ((d23.t c25).t cs27)) cw29 (by omega)
    have q49 := Chg.step (l := b4) (h := (b4 + 1)) q48 cw35 (by omega)
    exact q_n (kw_sub (Sub.cons (t := 2) rfl (.cons (t := 3) rfl (.nil))) (kc19 _ _ ⟨s25, w23.heap.size, w25.heap.size, a29, alw29, ahw29, rfl, q49, f46, f47, gw35, by omega, by omega, by omega⟩))
   ·
    refine sx_lit0 rfl xelt22 (fun s50 ws50 ss50 fs50 cs50 => ?_)
    have zws50 := cs50.size
    have s51 : Chg b4 (b4 + 1) w13 ws50 := (Chg.zero (l := b4) (h := (b4 + 1)) (d23.t cs50))
    refine wl_nil ?_
    refine dx_next s51 ?_
    refine dx_eff 2 rfl (by kernel_rfl) ?_
    have f52 := f21.ext d23
    have f53 := f52.ext cs50
    refine sx_call rfl rfl Try.call121 (c_IntNeg f53 (by omega)) (fun v54 w54 p54 => ?_)
    obtain ⟨s54, rfl, os_54, c54⟩ := p54
    have zw54 := c54.size
    have s55 : Chg b4 (b4 + 1) w13 w54 := (Chg.zero (l := b4) (h := (b4 + 1)) ((d23.t cs50).t c54))
    refine wl_nil ?_
    refine dx_next s55 ?_
    refine dx_eff 6 rfl (by kernel_rfl) ?_
    have f57 := fs50.ext c54
    have f58 := f22.ext d23
    have f59 := f58.ext cs50
    have f60 := f59.ext c54
    refine sx_append2 rfl xelt22 rfl rfl f57 f60 (len_pos.2 hp1) one_int (by omega) (by first | omega | (simp only [List.length_nil]; omega)) (by unfold maxLen; first | omega | (simp only [List.length_nil]; omega)) (fun a56 w56 alw56 ahw56 adw56 fw56 cw56 => ?_)
    have nw56 := Own.norm (f := (Value.int .i64)) (zs := dg e1) fw56
    have zw56 := cw56.size
    have q62 := Chg.step (l := b4) (h := (b4 + 1)) (Chg.zero (l := b4) (h := (b4 + 1)) ((d23.t cs50).t c54)) cw56 (by omega)
    have s61 : Chg b4 (b4 + 1) w13 w56 := q62
    refine wl_nil ?_
    refine dx_next s61 ?_
    refine dx_take 7 rfl rfl rfl rfl (by kernel_rfl) (by kernel_rfl) (by kernel_rfl) s61 (fun _ hS => px_build rfl (xbld44x0x1 nw56.one _)) ?_
    refine dx_eff 8 rfl (by kernel_rfl) ?_
    have f64 := fb4.ext c13
    have f65 := f64.ext d23
    have f66 := f65.ext cs50
    have f67 := f66.ext c54
    have f68 := f67.chg cw56 (by omega)
    have f69 := os_54.chg cw56 (by omega)
    refine sx_store (vs := [.bool (ng (-x1)), s54, a56]) rfl rfl f68 rfl Try.sizeOf44 (Nat.le_of_ble_eq_true rfl) (one_cons rfl (one_cons f69.one (one_cons nw56.one one_nil))) (fun w63 sw63 fw63 cw63 => ?_)
    have zw63 := cw63.size
    have gw63 : Blk w63 b4 [.bool (ng (-x1)), s54, a56] 44 := fw63
    have q71 := Chg.step (l := b4) (h := (b4 + 1)) (Chg.zero (l := b4) (h := (b4 + 1)) ((d23.t cs50).t c54)) cw56 (by omega)
    have q72 := Chg.step (l := b4) (h := (b4 + 1)) q71 cw63 (by omega)
    have s70 : Chg b4 (b4 + 1) w13 w63 := q72
    refine wl_nil ?_
    refine dx_next s70 ?_
    refine dx_take 9 rfl rfl rfl rfl (by kernel_rfl) (by kernel_rfl) (by kernel_rfl) s70 (fun _ hS => px_assign rfl) ?_
    refine dx_done (by kernel_rfl) ?_
    have f73 := f69.chg cw63 (by omega)
    have f74 := nw56.chg cw63 (by omega)
    have q75 := Chg.step (l := b4) (h := (b4 + 1)) (Chg.zero (l := b4) (h := (b4 + 1)) ((d23.t cs50).t c54)) cw56 (by omega)
    have q76 := Chg.step (l := b4) (h := (b4 + 1)) q75 cw63 (by omega)
    exact q_n (kw_sub (Sub.cons (t := 2) rfl (.cons (t := 3) rfl (.nil))) (kc19 _ _ ⟨s54, ws50.heap.size, w54.heap.size, a56, alw56, ahw56, rfl, q76, f73, f74, gw63, by omega, by omega, by omega⟩))
  ·
   rintro fr w'19 ⟨gs19x0, gl19x0, gu19x0, gs19x1, gl19x1, gu19x1, rfl, cw'19, xgs19x0, xgs19x1, xb4, ygl19x0, ygl19x1, dgl19x1xgl19x0⟩
   have zw'19 := cw'19.size
   refine sx_retc ?_
   refine sx_ret2 Try.results102 ⟨_, rfl, xb4.loadA (vs := [.bool (ng (-x1)), gs19x0, gs19x1]) (look_lit rfl) Try.isAgg44 Try.sizeOf44⟩ rfl ?_
   have hrl := rNeg_len (n := ng x1) (z := dg x1.natAbs) (y := dg e1)
   rw [rNeg_ok hR] at hrl ⊢
   have q77 := Chg.step (l := 0) (h := 0) (Chg.zero (l := 0) (h := 0) ((cb2.t cb4).t c13)) cw'19 (by omega)
   exact ⟨_, _, _, _, _, _, rfl, xgs19x0, xgs19x1, by omega, hrl, q77⟩

theorem c_l04Add {w : World} {va : Value} {lva uva : Nat} {x : Int} {vb : Value} {lvb uvb : Nat} {y : Int} (hva : Sl w lva uva va (dg x.natAbs)) (hvb : Sl w lvb uvb vb (dg y.natAbs)) (hbx : (dg x.natAbs).length ≤ 1000) (hby : (dg y.natAbs).length ≤ 1000) :
  Ret Try.prog 122 [.agg #[.bool (ng x), va], .agg #[.bool (ng y), vb]] w fun v w' => ∃ s, v = .agg #[.bool (ng (cap (x + y))), s] ∧ OwnI w' w.heap.size w'.heap.size s intT (dg (cap (x + y)).natAbs) ∧ Chg 0 0 w w' := by
 have hva0 := hva.fit
 have hvb0 := hvb.fit
 have l2 := len_add x.natAbs y.natAbs
 have l3 := len_le (Nat.sub_le x.natAbs y.natAbs)
 have l4 := len_le (Nat.sub_le y.natAbs x.natAbs)
 refine sx_enter Try.func122 rfl Try.ntmps122 (Nat.le_of_ble_eq_true rfl) ?_
 refine sx_seq fun K1 k1 => sx_region ?_
 refine sx_box [.bool (ng x), va] rfl rfl rfl (fun b2 w3 eb2 sb2 fb2 cb2 => ?_)
 have zw3 := cb2.size
 refine sx_box [.bool (ng y), vb] rfl rfl rfl (fun b4 w5 eb4 sb4 fb4 cb4 => ?_)
 have zw5 := cb4.size
 refine sx_alloc [.bool false, (.slice none 0 0)] rfl Try.zeroValue28 rfl (fun b6 w7 eb6 sb6 fb6 cb6 => ?_)
 have zw7 := cb6.size
 refine wl_nil (q_n (k1 _ _ ?_))
 refine sx_seq fun K8 k8 => ?_
 refine sx_seq fun K9 k9 => sx_region ?_
 refine sx_pure rfl rfl rfl (px_field rfl xfld28x0) ?_
 have f10 := fb2.ext cb4
 have f11 := f10.ext cb6
 refine sx_pure rfl rfl rfl (px_load rfl (f11.load1 rfl Try.isAgg4)) ?_
 refine sx_pure rfl rfl rfl (px_field rfl xfld28x0) ?_
 have f12 := fb4.ext cb6
 refine sx_pure rfl rfl rfl (px_load rfl (f12.load1 rfl Try.isAgg4)) ?_
 refine sx_pure rfl rfl rfl (px_eqB Try.underlying4 rfl rfl) ?_
 refine wl_nil (q_n (k9 _ _ ?_))
 refine sx_condB rfl (fun h53 => ?_) (fun h53 => ?_)
 ·
  refine sx_seq fun K13 k13 => ?_
  have f14 := hva0.ext cb2
  have f15 := f14.ext cb4
  have f16 := f15.ext cb6
  have f17 := hvb0.ext cb2
  have f18 := f17.ext cb4
  have f19 := f18.ext cb6
  refine dx_region (fun w' => Chg b6 (b6 + 1) w7 w') (by kernel_rfl) (Chg.zero (Chg.drew _)) ?_
  have d20 := Chg.drew w7
  have s20 : Chg b6 (b6 + 1) w7 (World.drew w7) := Chg.zero (Chg.drew _)
  have y20 : (World.drew w7).heap.size = w7.heap.size := rfl
  generalize World.drew w7 = w20 at *
  have zw20 := d20.size
  refine dx_take 0 rfl rfl rfl rfl (by kernel_rfl) (by kernel_rfl) (by kernel_rfl) s20 (fun _ hS => px_field rfl xfld28x0) ?_
  refine dx_take 1 rfl rfl rfl rfl (by kernel_rfl) (by kernel_rfl) (by kernel_rfl) s20 (fun _ hS => px_load rfl ((f11.chg hS (by omega)).load1 rfl Try.isAgg4)) ?_
  refine dx_take 2 rfl rfl rfl rfl (by kernel_rfl) (by kernel_rfl) (by kernel_rfl) s20 (fun _ hS => px_field rfl xfld28x1) ?_
  refine dx_take 3 rfl rfl rfl rfl (by kernel_rfl) (by kernel_rfl) (by kernel_rfl) s20 (fun _ hS => px_load rfl ((f11.chg hS (by omega)).load1 rfl Try.isAgg22)) ?_
  refine dx_take 4 rfl rfl rfl rfl (by kernel_rfl) (by kernel_rfl) (by kernel_rfl) s20 (fun _ hS => px_field rfl xfld28x1) ?_
  refine dx_take 5 rfl rfl rfl rfl (by kernel_rfl) (by kernel_rfl) (by kernel_rfl) s20 (fun _ hS => px_load rfl ((f12.chg hS (by omega)).load1 rfl Try.isAgg22)) ?_
  refine dx_eff 6 rfl (by kernel_rfl) ?_
  have f21 := f16.ext d20
  have f22 := f19.ext d20
  refine sx_call rfl rfl Try.call53 (c_l02Add f21 f22 (by omega) (by omega)) (fun v23 w23 p23 => ?_)
  obtain ⟨s23, rfl, os_23, c23⟩ := p23
  have zw23 := c23.size
  have s24 : Chg b6 (b6 + 1) w7 w23 := (Chg.zero (l := b6) (h := (b6 + 1)) (d20.t c23))
  refine wl_nil ?_
  refine dx_next s24 ?_
  refine dx_eff 7 rfl (by kernel_rfl) ?_
  refine sx_call rfl rfl Try.call54 (c_l04Make os_23 (by omega)) (fun v25 w25 p25 => ?_)
  obtain ⟨s25, rfl, os_25, c25⟩ := p25
  have zw25 := c25.size
  have s26 : Chg b6 (b6 + 1) w7 w25 := (Chg.zero (l := b6) (h := (b6 + 1)) ((d20.t c23).t c25))
  refine wl_nil ?_
  refine dx_next s26 ?_
  refine dx_eff 8 rfl (by kernel_rfl) ?_
  have f28 := fb6.ext d20
  have f29 := f28.ext c23
  have f30 := f29.ext c25
  refine sx_store (vs := [.bool (ng (capI (ng x) (x.natAbs + y.natAbs))), s25]) rfl rfl f30 rfl Try.sizeOf28 (Nat.le_of_ble_eq_true rfl) (one_cons rfl (one_cons os_25.one one_nil)) (fun w27 sw27 fw27 cw27 => ?_)
  have zw27 := cw27.size
  have gw27 : Blk w27 b6 [.bool (ng (capI (ng x) (x.natAbs + y.natAbs))), s25] 28 := fw27
  have q32 := Chg.step (l := b6) (h := (b6 + 1)) (Chg.zero (l := b6) (h := (b6 + 1)) ((d20.t c23).t c25)) cw27 (by omega)
  have s31 : Chg b6 (b6 + 1) w7 w27 := q32
  refine wl_nil ?_
  refine dx_next s31 ?_
  refine dx_done (by kernel_rfl) ?_
  refine q_n (k13 _ _ ?_)
  refine sx_sub (Sub.cons (t := 2) rfl (.cons (t := 3) rfl (.cons (t := 4) rfl (.nil)))) ?_
  refine sx_retc ?_
  refine q_r (sx_ret1 Try.results122 ⟨_, rfl, gw27.loadA (vs := [.bool (ng (capI (ng x) (x.natAbs + y.natAbs))), s25]) (look_lit rfl) Try.isAgg28 Try.sizeOf28⟩ ?_)
  have hq := capI_of (add_sg h53)
  rw [← hq]
  have q33 := Chg.step (l := 0) (h := 0) (Chg.zero (l := 0) (h := 0) (((((cb2.t cb4).t cb6).t d20).t c23).t c25)) cw27 (by omega)
  have f34 := os_25.chg cw27 (by omega)
  exact ⟨_, rfl, (Own.mono f34 (by omega) (by omega)), q33⟩
 ·
  refine sx_skip ?_
  refine q_n (k8 _ _ ?_)
  refine sx_seq fun K35 k35 => ?_
  refine sx_seq fun K36 k36 => sx_region ?_
  refine sx_pure rfl rfl rfl (px_field rfl xfld28x1) ?_
  refine sx_pure rfl rfl rfl (px_load rfl (f11.load1 rfl Try.isAgg22)) ?_
  refine sx_pure rfl rfl rfl (px_field rfl xfld28x1) ?_
  refine sx_pure rfl rfl rfl (px_load rfl (f12.load1 rfl Try.isAgg22)) ?_
  have f37 := hva0.ext cb2
  have f38 := f37.ext cb4
  have f39 := f38.ext cb6
  have f40 := hvb0.ext cb2
  have f41 := f40.ext cb4
  have f42 := f41.ext cb6
  refine sx_call rfl rfl Try.call85 (c_l02Cmp f39 f42 (by omega)) (fun v43 w43 p43 => ?_)
  obtain ⟨rfl, c43⟩ := p43
  have zw43 := c43.size
  refine sx_pure rfl rfl rfl (px_ge rfl rfl) ?_
  refine wl_nil (q_n (k36 _ _ ?_))
  refine sx_sub (Sub.cons (t := 2) rfl (.cons (t := 3) rfl (.cons (t := 4) rfl (.cons (t := 23) rfl (.nil))))) ?_
  refine sx_condP rfl (fun h56 => ?_) (fun h56 => ?_)
  ·
   rw [cmpL_dg] at h56
   have hge := cmpN_nonneg.1 h56
   refine sx_seq fun K44 k44 => ?_
   have f45 := f11.ext c43
   have f46 := f12.ext c43
   have f47 := f39.ext c43
   have f48 := f42.ext c43
   refine dx_region (fun w' => Chg b6 (b6 + 1) w43 w') (by kernel_rfl) (Chg.zero (Chg.drew _)) ?_
   have d49 := Chg.drew w43
   have s49 : Chg b6 (b6 + 1) w43 (World.drew w43) := Chg.zero (Chg.drew _)
   have y49 : (World.drew w43).heap.size = w43.heap.size := rfl
   generalize World.drew w43 = w49 at *
   have zw49 := d49.size
   refine dx_take 0 rfl rfl rfl rfl (by kernel_rfl) (by kernel_rfl) (by kernel_rfl) s49 (fun _ hS => px_field rfl xfld28x0) ?_
   refine dx_take 1 rfl rfl rfl rfl (by kernel_rfl) (by kernel_rfl) (by kernel_rfl) s49 (fun _ hS => px_load rfl ((f45.chg hS (by omega)).load1 rfl Try.isAgg4)) ?_
   refine dx_take 2 rfl rfl rfl rfl (by kernel_rfl) (by kernel_rfl) (by kernel_rfl) s49 (fun _ hS => px_field rfl xfld28x1) ?_
   refine dx_take 3 rfl rfl rfl rfl (by kernel_rfl) (by kernel_rfl) (by kernel_rfl) s49 (fun _ hS => px_load rfl ((f45.chg hS (by omega)).load1 rfl Try.isAgg22)) ?_
   refine dx_take 4 rfl rfl rfl rfl (by kernel_rfl) (by kernel_rfl) (by kernel_rfl) s49 (fun _ hS => px_field rfl xfld28x1) ?_
   refine dx_take 5 rfl rfl rfl rfl (by kernel_rfl) (by kernel_rfl) (by kernel_rfl) s49 (fun _ hS => px_load rfl ((f46.chg hS (by omega)).load1 rfl Try.isAgg22)) ?_
   refine dx_eff 6 rfl (by kernel_rfl) ?_
   have f50 := f47.ext d49
   have f51 := f48.ext d49
   refine sx_call rfl rfl Try.call91 (c_l02Sub f50 f51 (by omega) (by omega) (by omega)) (fun v52 w52 p52 => ?_)
   obtain ⟨s52, rfl, os_52, c52⟩ := p52
   have zw52 := c52.size
   have s53 : Chg b6 (b6 + 1) w43 w52 := (Chg.zero (l := b6) (h := (b6 + 1)) (d49.t c52))
   refine wl_nil ?_
   refine dx_next s53 ?_
   refine dx_eff 7 rfl (by kernel_rfl) ?_
   refine sx_call rfl rfl Try.call54 (c_l04Make os_52 (by omega)) (fun v54 w54 p54 => ?_)
   obtain ⟨s54, rfl, os_54, c54⟩ := p54
   have zw54 := c54.size
   have s55 : Chg b6 (b6 + 1) w43 w54 := (Chg.zero (l := b6) (h := (b6 + 1)) ((d49.t c52).t c54))
   refine wl_nil ?_
   refine dx_next s55 ?_
   refine dx_eff 8 rfl (by kernel_rfl) ?_
   have f57 := fb6.ext c43
   have f58 := f57.ext d49
   have f59 := f58.ext c52
   have f60 := f59.ext c54
   refine sx_store (vs := [.bool (ng (capI (ng x) (x.natAbs - y.natAbs))), s54]) rfl rfl f60 rfl Try.sizeOf28 (Nat.le_of_ble_eq_true rfl) (one_cons rfl (one_cons os_54.one one_nil)) (fun w56 sw56 fw56 cw56 => ?_)
   have zw56 := cw56.size
   have gw56 : Blk w56 b6 [.bool (ng (capI (ng x) (x.natAbs - y.natAbs))), s54] 28 := fw56
   have q62 := Chg.step (l := b6) (h := (b6 + 1)) (Chg.zero (l := b6) (h := (b6 + 1)) ((d49.t c52).t c54)) cw56 (by omega)
   have s61 : Chg b6 (b6 + 1) w43 w56 := q62
   refine wl_nil ?_
   refine dx_next s61 ?_
   refine dx_done (by kernel_rfl) ?_
   refine q_n (k44 _ _ ?_)
   refine sx_retc ?_
   refine q_r (sx_ret1 Try.results122 ⟨_, rfl, gw56.loadA (vs := [.bool (ng (capI (ng x) (x.natAbs - y.natAbs))), s54]) (look_lit rfl) Try.isAgg28 Try.sizeOf28⟩ ?_)
   have hq := capI_of (sub_sg h53 hge)
   rw [← hq]
   have q63 := Chg.step (l := 0) (h := 0) (Chg.zero (l := 0) (h := 0) ((((((cb2.t cb4).t cb6).t c43).t d49).t c52).t c54)) cw56 (by omega)
   have f64 := os_54.chg cw56 (by omega)
   exact ⟨_, rfl, (Own.mono f64 (by omega) (by omega)), q63⟩
  ·
   rw [cmpL_dg] at h56
   have hlt := cmpN_neg.1 (Int.not_le.1 h56)
   refine sx_skip ?_
   refine q_n (k35 _ _ ?_)
   refine sx_seq fun K65 k65 => ?_
   have f66 := f11.ext c43
   have f67 := f12.ext c43
   have f68 := f39.ext c43
   have f69 := f42.ext c43
   refine dx_region (fun w' => Chg b6 (b6 + 1) w43 w') (by kernel_rfl) (Chg.zero (Chg.drew _)) ?_
   have d70 := Chg.drew w43
   have s70 : Chg b6 (b6 + 1) w43 (World.drew w43) := Chg.zero (Chg.drew _)
   have y70 : (World.drew w43).heap.size = w43.heap.size := rfl
   generalize World.drew w43 = w70 at *
   have zw70 := d70.size
   refine dx_take 0 rfl rfl rfl rfl (by kernel_rfl) (by kernel_rfl) (by kernel_rfl) s70 (fun _ hS => px_field rfl xfld28x0) ?_
   refine dx_take 1 rfl rfl rfl rfl (by kernel_rfl) (by kernel_rfl) (by kernel_rfl) s70 (fun _ hS => px_load rfl ((f67.chg hS (by omega)).load1 rfl Try.isAgg4)) ?_
   refine dx_take 2 rfl rfl rfl rfl (by kernel_rfl) (by kernel_rfl) (by kernel_rfl) s70 (fun _ hS => px_field rfl xfld28x1) ?_
   refine dx_take 3 rfl rfl rfl rfl (by kernel_rfl) (by kernel_rfl) (by kernel_rfl) s70 (fun _ hS => px_load rfl ((f67.chg hS (by omega)).load1 rfl Try.isAgg22)) ?_
   refine dx_take 4 rfl rfl rfl rfl (by kernel_rfl) (by kernel_rfl) (by kernel_rfl) s70 (fun _ hS => px_field rfl xfld28x1) ?_
   refine dx_take 5 rfl rfl rfl rfl (by kernel_rfl) (by kernel_rfl) (by kernel_rfl) s70 (fun _ hS => px_load rfl ((f66.chg hS (by omega)).load1 rfl Try.isAgg22)) ?_
   refine dx_eff 6 rfl (by kernel_rfl) ?_
   have f71 := f69.ext d70
   have f72 := f68.ext d70
   refine sx_call rfl rfl Try.call91 (c_l02Sub f71 f72 (by omega) (by omega) (by omega)) (fun v73 w73 p73 => ?_)
   obtain ⟨s73, rfl, os_73, c73⟩ := p73
   have zw73 := c73.size
   have s74 : Chg b6 (b6 + 1) w43 w73 := (Chg.zero (l := b6) (h := (b6 + 1)) (d70.t c73))
   refine wl_nil ?_
   refine dx_next s74 ?_
   refine dx_eff 7 rfl (by kernel_rfl) ?_
   refine sx_call rfl rfl Try.call54 (c_l04Make os_73 (by omega)) (fun v75 w75 p75 => ?_)
   obtain ⟨s75, rfl, os_75, c75⟩ := p75
   have zw75 := c75.size
   have s76 : Chg b6 (b6 + 1) w43 w75 := (Chg.zero (l := b6) (h := (b6 + 1)) ((d70.t c73).t c75))
   refine wl_nil ?_
   refine dx_next s76 ?_
   refine dx_eff 8 rfl (by kernel_rfl) ?_
   have f78 := fb6.ext c43
   have f79 := f78.ext d70
   have f80 := f79.ext c73
   have f81 := f80.ext c75
   refine sx_store (vs := [.bool (ng (capI (ng y) (y.natAbs - x.natAbs))), s75]) rfl rfl f81 rfl Try.sizeOf28 (Nat.le_of_ble_eq_true rfl) (one_cons rfl (one_cons os_75.one one_nil)) (fun w77 sw77 fw77 cw77 => ?_)
   have zw77 := cw77.size
   have gw77 : Blk w77 b6 [.bool (ng (capI (ng y) (y.natAbs - x.natAbs))), s75] 28 := fw77
   have q83 := Chg.step (l := b6) (h := (b6 + 1)) (Chg.zero (l := b6) (h := (b6 + 1)) ((d70.t c73).t c75)) cw77 (by omega)
   have s82 : Chg b6 (b6 + 1) w43 w77 := q83
   refine wl_nil ?_
   refine dx_next s82 ?_
   refine dx_done (by kernel_rfl) ?_
   refine q_n (k65 _ _ ?_)
   refine sx_retc ?_
   refine sx_ret1 Try.results122 ⟨_, rfl, gw77.loadA (vs := [.bool (ng (capI (ng y) (y.natAbs - x.natAbs))), s75]) (look_lit rfl) Try.isAgg28 Try.sizeOf28⟩ ?_
   have hq := capI_of (sub_sg2 h53 (by omega))
   rw [← hq]
   have q84 := Chg.step (l := 0) (h := 0) (Chg.zero (l := 0) (h := 0) ((((((cb2.t cb4).t cb6).t c43).t d70).t c73).t c75)) cw77 (by omega)
   have f85 := os_75.chg cw77 (by omega)
   exact ⟨_, rfl, (Own.mono f85 (by omega) (by omega)), q84⟩

theorem c_sRatAdd {w : World} {n1 : Bool} {v1 : Value} {lv1 uv1 : Nat} {z1 : List Int} {d1 : Value} {ld1 ud1 : Nat} {y1 : List Int} {n2 : Bool} {v2 : Value} {lv2 uv2 : Nat} {z2 : List Int} {d2 : Value} {ld2 ud2 : Nat} {y2 : List Int} (hv1 : Sl w lv1 uv1 v1 (z1)) (hd1 : Sl w ld1 ud1 d1 (y1)) (hv2 : Sl w lv2 uv2 v2 (z2)) (hd2 : Sl w ld2 ud2 d2 (y2)) (h63 : z1.length ≤ 4611686018427387904 ∧ y1.length ≤ 4611686018427387904 ∧ z2.length ≤ 4611686018427387904 ∧ y2.length ≤ 4611686018427387904) :
  Ret Try.prog 103 [.agg #[.bool n1, v1, d1], .agg #[.bool n2, v2, d2]] w fun v w' => ∃ s t ls us lt ut, v = .tuple #[.agg #[.bool ((rAdd n1 z1 y1 n2 z2 y2).1), s, t], .bool ((rAdd n1 z1 y1 n2 z2 y2).2.2.2)] ∧ OwnI w' (ls) (us) s intT ((rAdd n1 z1 y1 n2 z2 y2).2.1) ∧ OwnI w' (lt) (ut) t intT ((rAdd n1 z1 y1 n2 z2 y2).2.2.1) ∧ (w.heap.size ≤ ls ∧ us ≤ w'.heap.size ∧ w.heap.size ≤ lt ∧ ut ≤ w'.heap.size ∧ (us ≤ lt ∨ ut ≤ ls)) ∧ ((rAdd n1 z1 y1 n2 z2 y2).2.1.length ≤ 18 ∧ (rAdd n1 z1 y1 n2 z2 y2).2.2.1.length ≤ 18) ∧ Chg 0 0 w w' := by
 have hv10 := hv1.fit
 have hd10 := hd1.fit
 have hv20 := hv2.fit
 have hd20 := hd2.fit
 refine sx_enter Try.func103 rfl Try.ntmps103 (Nat.le_of_ble_eq_true rfl) ?_
 refine sx_seq fun K1 k1 => sx_region ?_
 refine sx_box [.bool n1, v1, d1] rfl rfl rfl (fun b2 w3 eb2 sb2 fb2 cb2 => ?_)
 have zw3 := cb2.size
 refine sx_box [.bool n2, v2, d2] rfl rfl rfl (fun b4 w5 eb4 sb4 fb4 cb4 => ?_)
 have zw5 := cb4.size
 refine sx_alloc [.bool false, (.slice none 0 0), (.slice none 0 0)] rfl Try.zeroValue44 rfl (fun b6 w7 eb6 sb6 fb6 cb6 => ?_)
 have zw7 := cb6.size
 refine sa rfl rfl rfl rfl ?_
 refine wl_nil (q_n (k1 _ _ ?_))
 refine sx_seq fun K8 k8 => ?_
 refine sx_seq fun K9 k9 => sx_region ?_
 have f10 := fb2.ext cb4
 have f11 := f10.ext cb6
 refine sx_pure rfl rfl rfl (px_load rfl (f11.loadA (vs := [.bool n1, v1, d1]) (look_lit rfl) Try.isAgg44 Try.sizeOf44)) ?_
 have f12 := hv10.ext cb2
 have f13 := f12.ext cb4
 have f14 := f13.ext cb6
 have f15 := hd10.ext cb2
 have f16 := f15.ext cb4
 have f17 := f16.ext cb6
 refine sx_call rfl rfl Try.call47 (c_sRatOk f14 f17 (by omega)) (fun v18 w18 p18 => ?_)
 obtain ⟨rfl, c18⟩ := p18
 have zw18 := c18.size
 refine sx_pure rfl rfl rfl (px_notP rfl) ?_
 refine sm rfl rfl rfl rfl ?_
 refine sx_tmpP (t := 12) rfl (fun h56 => ?_) (fun h56 => ?_)
 ·
  refine sx_guardF rfl rfl rfl rfl rfl rfl ?_
  refine sx_guardF rfl rfl rfl rfl rfl rfl ?_
  refine sx_guardF rfl rfl rfl rfl rfl rfl ?_
  refine sx_pure rfl rfl rfl (px_pick rfl rfl) ?_
  refine wl_nil (q_n (k9 _ _ ?_))
  refine sx_condT rfl ?_
  refine sx_seq fun K19 k19 => sx_region ?_
  refine sx_pure rfl rfl rfl (px_build rfl (xbld44x  _)) ?_
  have f21 := fb6.ext c18
  refine sx_store (vs := [.bool false, (.slice none 0 0), (.slice none 0 0)]) rfl rfl f21 rfl Try.sizeOf44 (Nat.le_of_ble_eq_true rfl) (one_cons rfl (one_cons rfl (one_cons rfl one_nil))) (fun w20 sw20 fw20 cw20 => ?_)
  have zw20 := cw20.size
  have gw20 : Blk w20 b6 [.bool false, (.slice none 0 0), (.slice none 0 0)] 44 := fw20
  refine sa rfl rfl rfl rfl ?_
  refine wl_nil (q_n (k19 _ _ ?_))
  refine sx_sub (Sub.cons (t := 2) rfl (.cons (t := 3) rfl (.cons (t := 4) rfl (.cons (t := 5) rfl (.nil))))) ?_
  refine sx_retc ?_
  refine q_r (sx_ret2 Try.results103 ⟨_, rfl, gw20.loadA (vs := [.bool false, (.slice none 0 0), (.slice none 0 0)]) (look_lit rfl) Try.isAgg44 Try.sizeOf44⟩ rfl ?_)
  rw [rAdd_no (by grind)]
  have q22 := Chg.step (l := 0) (h := 0) (Chg.zero (l := 0) (h := 0) (((cb2.t cb4).t cb6).t c18)) cw20 (by omega)
  exact ⟨_, _, w.heap.size, w.heap.size, w.heap.size, w.heap.size, rfl, Own.nil _ _ _ _ _, Own.nil _ _ _ _ _, by omega, ⟨by simp [noR], by simp [noR]⟩, q22⟩
 ·
  refine sx_guardT rfl rfl rfl ?_
  have f23 := fb4.ext cb6
  have f24 := f23.ext c18
  refine sx_pure rfl rfl rfl (px_load rfl (f24.loadA (vs := [.bool n2, v2, d2]) (look_lit rfl) Try.isAgg44 Try.sizeOf44)) ?_
  refine sx_guardT rfl rfl rfl ?_
  have f25 := hv20.ext cb2
  have f26 := f25.ext cb4
  have f27 := f26.ext cb6
  have f28 := f27.ext c18
  have f29 := hd20.ext cb2
  have f30 := f29.ext cb4
  have f31 := f30.ext cb6
  have f32 := f31.ext c18
  refine sx_call rfl rfl Try.call47 (c_sRatOk f28 f32 (by omega)) (fun v33 w33 p33 => ?_)
  obtain ⟨rfl, c33⟩ := p33
  have zw33 := c33.size
  refine sx_guardT rfl rfl rfl ?_
  refine sx_pure rfl rfl rfl (px_notP rfl) ?_
  refine sx_pure rfl rfl rfl (px_pick rfl rfl) ?_
  refine wl_nil (q_n (k9 _ _ ?_))
  refine sx_condP rfl (fun h56x1 => ?_) (fun h56x1 => ?_)
  ·
   refine sx_seq fun K34 k34 => sx_region ?_
   refine sx_pure rfl rfl rfl (px_build rfl (xbld44x  _)) ?_
   have f36 := fb6.ext c18
   have f37 := f36.ext c33
   refine sx_store (vs := [.bool false, (.slice none 0 0), (.slice none 0 0)]) rfl rfl f37 rfl Try.sizeOf44 (Nat.le_of_ble_eq_true rfl) (one_cons rfl (one_cons rfl (one_cons rfl one_nil))) (fun w35 sw35 fw35 cw35 => ?_)
   have zw35 := cw35.size
   have gw35 : Blk w35 b6 [.bool false, (.slice none 0 0), (.slice none 0 0)] 44 := fw35
   refine sa rfl rfl rfl rfl ?_
   refine wl_nil (q_n (k34 _ _ ?_))
   refine sx_sub (Sub.cons (t := 2) rfl (.cons (t := 3) rfl (.cons (t := 4) rfl (.cons (t := 5) rfl (.nil))))) ?_
   refine sx_retc ?_
   refine q_r (sx_ret2 Try.results103 ⟨_, rfl, gw35.loadA (vs := [.bool false, (.slice none 0 0), (.slice none 0 0)]) (look_lit rfl) Try.isAgg44 Try.sizeOf44⟩ rfl ?_)
   rw [rAdd_no (by grind)]
   have q38 := Chg.step (l := 0) (h := 0) (Chg.zero (l := 0) (h := 0) ((((cb2.t cb4).t cb6).t c18).t c33)) cw35 (by omega)
   exact ⟨_, _, w.heap.size, w.heap.size, w.heap.size, w.heap.size, rfl, Own.nil _ _ _ _ _, Own.nil _ _ _ _ _, by omega, ⟨by simp [noR], by simp [noR]⟩, q38⟩
  ·
   have hR1 := Decidable.not_not.1 h56
   have hR2 := Decidable.not_not.1 h56x1
   obtain ⟨x1, e1, rfl, rfl, rfl, hp1, hx1, hy1, hg1⟩ := hR1.rat
   obtain ⟨x2, e2, rfl, rfl, rfl, hp2, hx2, hy2, hg2⟩ := hR2.rat
   have l1 := len_mul x1.natAbs e2
   have l2 := len_mul x2.natAbs e1
   have l3 := len_mul e1 e2
   have a1 : (x1 * (e2 : Int)).natAbs = x1.natAbs * e2 := by rw [Int.natAbs_mul, Int.natAbs_natCast]
   have a2 : (x2 * (e1 : Int)).natAbs = x2.natAbs * e1 := by rw [Int.natAbs_mul, Int.natAbs_natCast]
   have l4 := len_addI (x1 * (e2 : Int)) (x2 * (e1 : Int))
   rw [a1, a2] at l4
   have l5 := len_mul e1 x2.natAbs
   have l6 := len_mul x1.natAbs x2.natAbs
   have c1 : capI (ng x1) (x1.natAbs * e2) = x1 * (e2 : Int) := by rw [capI_of (mul_nat_sg x1 e2), cap_ok (by rw [a1]; omega)]
   have c2 : capI (ng x2) (x2.natAbs * e1) = x2 * (e1 : Int) := by rw [capI_of (mul_nat_sg x2 e1), cap_ok (by rw [a2]; omega)]
   have c3 : (cap (capI (ng x1) (x1.natAbs * e2) + capI (ng x2) (x2.natAbs * e1))) = x1 * (e2 : Int) + x2 * (e1 : Int) := by rw [c1, c2, cap_ok (by omega)]
   refine sx_skip ?_
   refine q_n (k8 _ _ ?_)
   refine sx_seq fun K39 k39 => ?_
   refine sx_cut k39 (fun fr w' => ∃ (gb40x0 : Nat) (gs40x1 : Value) (gl40x1 : Nat) (gu40x1 : Nat), fr = [(2, .pointer (some ⟨b2, 0, none⟩)), (3, .pointer (some ⟨b4, 0, none⟩)), (4, .pointer (some ⟨b6, 0, none⟩)), (5, .bool false), (6, .pointer (some ⟨gb40x0, 0, none⟩))] ∧ Chg 0 0 w33 w' ∧ (Blk w' gb40x0 [.bool (ng (capI (ng x1) (x1.natAbs * e2))), gs40x1] 28) ∧ (Own w' gl40x1 gu40x1 gs40x1 intT ((dg (capI (ng x1) (x1.natAbs * e2)).natAbs).length) 1 ((dg (capI (ng x1) (x1.natAbs * e2)).natAbs).map (Value.int .i64))) ∧ (w33.heap.size ≤ gb40x0 ∧ gb40x0 + 1 ≤ w'.heap.size) ∧ (w33.heap.size ≤ gl40x1 ∧ gu40x1 ≤ w'.heap.size) ∧ (gu40x1 ≤ gb40x0 ∨ gb40x0 + 1 ≤ gl40x1)) (fun kc40 => ?_) ?_
   ·
    have f41 := f11.ext c18
    have f42 := f41.ext c33
    have f43 := f24.ext c33
    have f44 := fb6.ext c18
    have f45 := f44.ext c33
    have f46 := f14.ext c18
    have f47 := f46.ext c33
    have f48 := f17.ext c18
    have f49 := f48.ext c33
    have f50 := f28.ext c33
    have f51 := f32.ext c33
    refine dx_region (fun w' => Chg 0 0 w33 w') (by kernel_rfl) (Chg.zero (Chg.drew _)) ?_
    have d52 := Chg.drew w33
    have s52 : Chg 0 0 w33 (World.drew w33) := Chg.zero (Chg.drew _)
    have y52 : (World.drew w33).heap.size = w33.heap.size := rfl
    generalize World.drew w33 = w52 at *
    have zw52 := d52.size
    refine dx_take 0 rfl rfl rfl rfl (by kernel_rfl) (by kernel_rfl) (by kernel_rfl) s52 (fun _ hS => px_field rfl xfld44x0) ?_
    refine dx_take 1 rfl rfl rfl rfl (by kernel_rfl) (by kernel_rfl) (by kernel_rfl) s52 (fun _ hS => px_field rfl xfld28x0) ?_
    refine dx_take 2 rfl rfl rfl rfl (by kernel_rfl) (by kernel_rfl) (by kernel_rfl) s52 (fun _ hS => px_load rfl ((f42.chg hS (by omega)).load1 rfl Try.isAgg4)) ?_
    refine dx_take 3 rfl rfl rfl rfl (by kernel_rfl) (by kernel_rfl) (by kernel_rfl) s52 (fun _ hS => px_field rfl xfld44x0) ?_
    refine dx_take 4 rfl rfl rfl rfl (by kernel_rfl) (by kernel_rfl) (by kernel_rfl) s52 (fun _ hS => px_field rfl xfld28x1) ?_
    refine dx_take 5 rfl rfl rfl rfl (by kernel_rfl) (by kernel_rfl) (by kernel_rfl) s52 (fun _ hS => px_load rfl ((f42.chg hS (by omega)).load1 rfl Try.isAgg22)) ?_
    refine dx_take 6 rfl rfl rfl rfl (by kernel_rfl) (by kernel_rfl) (by kernel_rfl) s52 (fun _ hS => px_field rfl xfld44x1) ?_
    refine dx_take 7 rfl rfl rfl rfl (by kernel_rfl) (by kernel_rfl) (by kernel_rfl) s52 (fun _ hS => px_load rfl ((f43.chg hS (by omega)).load1 rfl Try.isAgg22)) ?_
    refine dx_eff2 8 10 rfl rfl (by kernel_rfl) ?_ ?_
    ·
     have f53 := f47.ext d52
     have f54 := f51.ext d52
     refine sx_call rfl rfl Try.call49 (c_l02Mul f53 f54 (by omega) (by omega)) (fun v55 w55 p55 => ?_)
     obtain ⟨s55, rfl, os_55, c55⟩ := p55
     have zw55 := c55.size
     have s56 : Chg 0 0 w33 w55 := (d52.t c55)
     refine wl_nil ?_
     refine dx_next s56 ?_
     refine dx_eff2 9 10 rfl rfl (by kernel_rfl) ?_ ?_
     ·
      refine sx_call rfl rfl Try.call54 (c_l04Make os_55 (by omega)) (fun v57 w57 p57 => ?_)
      obtain ⟨s57, rfl, os_57, c57⟩ := p57
      have zw57 := c57.size
      have s58 : Chg 0 0 w33 w57 := ((d52.t c55).t c57)
      refine wl_nil ?_
      refine dx_next s58 ?_
      refine dx_eff 10 rfl (by kernel_rfl) ?_
      refine sx_alloc [.bool false, (.slice none 0 0)] rfl Try.zeroValue28 rfl (fun b59 w60 eb59 sb59 fb59 cb59 => ?_)
      have zw60 := cb59.size
      have s61 : Chg 0 0 w33 w60 := (((d52.t c55).t c57).t cb59)
      refine wl_nil ?_
      refine dx_next s61 ?_
      refine dx_eff 11 rfl (by kernel_rfl) ?_
      have f63 := os_57.ext cb59
      refine sx_store (vs := [.bool (ng (capI (ng x1) (x1.natAbs * e2))), s57]) rfl rfl fb59 rfl Try.sizeOf28 (Nat.le_of_ble_eq_true rfl) (one_cons rfl (one_cons f63.one one_nil)) (fun w62 sw62 fw62 cw62 => ?_)
      have zw62 := cw62.size
      have gw62 : Blk w62 b59 [.bool (ng (capI (ng x1) (x1.natAbs * e2))), s57] 28 := fw62
      have q65 := Chg.step (l := 0) (h := 0) (Chg.zero (l := 0) (h := 0) (((d52.t c55).t c57).t cb59)) cw62 (by omega)
      have s64 : Chg 0 0 w33 w62 := q65
      refine wl_nil ?_
      refine dx_next s64 ?_
      refine dx_done (by kernel_rfl) ?_
      have f66 := f63.chg cw62 (by omega)
      have q67 := Chg.step (l := 0) (h := 0) (Chg.zero (l := 0) (h := 0) (((d52.t c55).t c57).t cb59)) cw62 (by omega)
      exact q_n (kw_sub (Sub.cons (t := 2) rfl (.cons (t := 3) rfl (.cons (t := 4) rfl (.cons (t := 5) rfl (.cons (t := 6) rfl (.nil)))))) (kc40 _ _ ⟨b59, s57, w55.heap.size, w57.heap.size, rfl, q67, gw62, f66, by omega, by omega, by omega⟩))
     ·
      refine sx_alloc [.bool false, (.slice none 0 0)] rfl Try.zeroValue28 rfl (fun b68 w69 eb68 sb68 fb68 cb68 => ?_)
      have zw69 := cb68.size
      have s70 : Chg 0 0 w33 w69 := ((d52.t c55).t cb68)
      refine wl_nil ?_
      refine dx_next s70 ?_
      refine dx_eff 9 rfl (by kernel_rfl) ?_
      have f71 := os_55.ext cb68
      refine sx_call rfl rfl Try.call54 (c_l04Make f71 (by omega)) (fun v72 w72 p72 => ?_)
      obtain ⟨s72, rfl, os_72, c72⟩ := p72
      have zw72 := c72.size
      have s73 : Chg 0 0 w33 w72 := (((d52.t c55).t cb68).t c72)
      refine wl_nil ?_
      refine dx_next s73 ?_
      refine dx_eff 11 rfl (by kernel_rfl) ?_
      have f75 := fb68.ext c72
      refine sx_store (vs := [.bool (ng (capI (ng x1) (x1.natAbs * e2))), s72]) rfl rfl f75 rfl Try.sizeOf28 (Nat.le_of_ble_eq_true rfl) (one_cons rfl (one_cons os_72.one one_nil)) (fun w74 sw74 fw74 cw74 => ?_)
      have zw74 := cw74.size
      have gw74 : Blk w74 b68 [.bool (ng (capI (ng x1) (x1.natAbs * e2))), s72] 28 := fw74
      have q77 := Chg.step (l := 0) (h := 0) (Chg.zero (l := 0) (h := 0) (((d52.t c55).t cb68).t c72)) cw74 (by omega)
      have s76 : Chg 0 0 w33 w74 := q77
      refine wl_nil ?_
      refine dx_next s76 ?_
      refine dx_done (by kernel_rfl) ?_
      have f78 := os_72.chg cw74 (by omega)
      have q79 := Chg.step (l := 0) (h := 0) (Chg.zero (l := 0) (h := 0) (((d52.t c55).t cb68).t c72)) cw74 (by omega)
      exact q_n (kw_sub (Sub.cons (t := 2) rfl (.cons (t := 3) rfl (.cons (t := 4) rfl (.cons (t := 5) rfl (.cons (t := 6) rfl (.nil)))))) (kc40 _ _ ⟨b68, s72, w69.heap.size, w72.heap.size, rfl, q79, gw74, f78, by omega, by omega, by omega⟩))
    ·
     refine sx_alloc [.bool false, (.slice none 0 0)] rfl Try.zeroValue28 rfl (fun b80 w81 eb80 sb80 fb80 cb80 => ?_)
     have zw81 := cb80.size
     have s82 : Chg 0 0 w33 w81 := (d52.t cb80)
     refine wl_nil ?_
     refine dx_next s82 ?_
     refine dx_eff 8 rfl (by kernel_rfl) ?_
     have f83 := f47.ext d52
     have f84 := f83.ext cb80
     have f85 := f51.ext d52
     have f86 := f85.ext cb80
     refine sx_call rfl rfl Try.call49 (c_l02Mul f84 f86 (by omega) (by omega)) (fun v87 w87 p87 => ?_)
     obtain ⟨s87, rfl, os_87, c87⟩ := p87
     have zw87 := c87.size
     have s88 : Chg 0 0 w33 w87 := ((d52.t cb80).t c87)
     refine wl_nil ?_
     refine dx_next s88 ?_
     refine dx_eff 9 rfl (by kernel_rfl) ?_
     refine sx_call rfl rfl Try.call54 (c_l04Make os_87 (by omega)) (fun v89 w89 p89 => ?_)
     obtain ⟨s89, rfl, os_89, c89⟩ := p89
     have zw89 := c89.size
     have s90 : Chg 0 0 w33 w89 := (((d52.t cb80).t c87).t c89)
     refine wl_nil ?_
     refine dx_next s90 ?_
     refine dx_eff 11 rfl (by kernel_rfl) ?_
     have f92 := fb80.ext c87
     have f93 := f92.ext c89
     refine sx_store (vs := [.bool (ng (capI (ng x1) (x1.natAbs * e2))), s89]) rfl rfl f93 rfl Try.sizeOf28 (Nat.le_of_ble_eq_true rfl) (one_cons rfl (one_cons os_89.one one_nil)) (fun w91 sw91 fw91 cw91 => ?_)
     have zw91 := cw91.size
     have gw91 : Blk w91 b80 [.bool (ng (capI (ng x1) (x1.natAbs * e2))), s89] 28 := fw91
     have q95 := Chg.step (l := 0) (h := 0) (Chg.zero (l := 0) (h := 0) (((d52.t cb80).t c87).t c89)) cw91 (by omega)
     have s94 : Chg 0 0 w33 w91 := q95
     refine wl_nil ?_
     refine dx_next s94 ?_
     refine dx_done (by kernel_rfl) ?_
     have f96 := os_89.chg cw91 (by omega)
     have q97 := Chg.step (l := 0) (h := 0) (Chg.zero (l := 0) (h := 0) (((d52.t cb80).t c87).t c89)) cw91 (by omega)
     exact q_n (kw_sub (Sub.cons (t := 2) rfl (.cons (t := 3) rfl (.cons (t := 4) rfl (.cons (t := 5) rfl (.cons (t := 6) rfl (.nil)))))) (kc40 _ _ ⟨b80, s89, w87.heap.size, w89.heap.size, rfl, q97, gw91, f96, by omega, by omega, by omega⟩))
   ·
    rintro fr w'40 ⟨gb40x0, gs40x1, gl40x1, gu40x1, rfl, cw'40, xgb40x0, xgs40x1, ygb40x0, ygl40x1, dgl40x1xgb40x0⟩
    have zw'40 := cw'40.size
    refine sx_seq fun K98 k98 => ?_
    refine sx_cut k98 (fun fr w' => ∃ (gb99x0 : Nat) (gs99x1 : Value) (gl99x1 : Nat) (gu99x1 : Nat), fr = [(2, .pointer (some ⟨b2, 0, none⟩)), (3, .pointer (some ⟨b4, 0, none⟩)), (4, .pointer (some ⟨b6, 0, none⟩)), (5, .bool false), (6, .pointer (some ⟨gb40x0, 0, none⟩)), (7, .pointer (some ⟨gb99x0, 0, none⟩))] ∧ Chg 0 0 w'40 w' ∧ (Blk w' gb99x0 [.bool (ng (capI (ng x2) (x2.natAbs * e1))), gs99x1] 28) ∧ (Own w' gl99x1 gu99x1 gs99x1 intT ((dg (capI (ng x2) (x2.natAbs * e1)).natAbs).length) 1 ((dg (capI (ng x2) (x2.natAbs * e1)).natAbs).map (Value.int .i64))) ∧ (w'40.heap.size ≤ gb99x0 ∧ gb99x0 + 1 ≤ w'.heap.size) ∧ (w'40.heap.size ≤ gl99x1 ∧ gu99x1 ≤ w'.heap.size) ∧ (gu99x1 ≤ gb99x0 ∨ gb99x0 + 1 ≤ gl99x1)) (fun kc99 => ?_) ?_
    ·
     have f100 := f11.ext c18
     have f101 := f100.ext c33
     have f102 := f101.ext cw'40
     have f103 := f24.ext c33
     have f104 := f103.ext cw'40
     have f105 := fb6.ext c18
     have f106 := f105.ext c33
     have f107 := f106.ext cw'40
     have f108 := f14.ext c18
     have f109 := f108.ext c33
     have f110 := f109.ext cw'40
     have f111 := f17.ext c18
     have f112 := f111.ext c33
     have f113 := f112.ext cw'40
     have f114 := f28.ext c33
     have f115 := f114.ext cw'40
     have f116 := f32.ext c33
     have f117 := f116.ext cw'40
     refine dx_region (fun w' => Chg 0 0 w'40 w') (by kernel_rfl) (Chg.zero (Chg.drew _)) ?_
     have d118 := Chg.drew w'40
     have s118 : Chg 0 0 w'40 (World.drew w'40) := Chg.zero (Chg.drew _)
     have y118 : (World.drew w'40).heap.size = w'40.heap.size := rfl
     generalize World.drew w'40 = w118 at *
     have zw118 := d118.size
     refine dx_take 0 rfl rfl rfl rfl (by kernel_rfl) (by kernel_rfl) (by kernel_rfl) s118 (fun _ hS => px_field rfl xfld44x0) ?_
     refine dx_take 1 rfl rfl rfl rfl (by kernel_rfl) (by kernel_rfl) (by kernel_rfl) s118 (fun _ hS => px_field rfl xfld28x0) ?_
     refine dx_take 2 rfl rfl rfl rfl (by kernel_rfl) (by kernel_rfl) (by kernel_rfl) s118 (fun _ hS => px_load rfl ((f104.chg hS (by omega)).load1 rfl Try.isAgg4)) ?_
     refine dx_take 3 rfl rfl rfl rfl (by kernel_rfl) (by kernel_rfl) (by kernel_rfl) s118 (fun _ hS => px_field rfl xfld44x0) ?_
     refine dx_take 4 rfl rfl rfl rfl (by kernel_rfl) (by kernel_rfl) (by kernel_rfl) s118 (fun _ hS => px_field rfl xfld28x1) ?_
     refine dx_take 5 rfl rfl rfl rfl (by kernel_rfl) (by kernel_rfl) (by kernel_rfl) s118 (fun _ hS => px_load rfl ((f104.chg hS (by omega)).load1 rfl Try.isAgg22)) ?_
     refine dx_take 6 rfl rfl rfl rfl (by kernel_rfl) (by kernel_rfl) (by kernel_rfl) s118 (fun _ hS => px_field rfl xfld44x1) ?_
     refine dx_take 7 rfl rfl rfl rfl (by kernel_rfl) (by kernel_rfl) (by kernel_rfl) s118 (fun _ hS => px_load rfl ((f102.chg hS (by omega)).load1 rfl Try.isAgg22)) ?_
     refine dx_eff2 8 10 rfl rfl (by kernel_rfl) ?_ ?_
     ·
      have f119 := f115.ext d118
      have f120 := f113.ext d118
      refine sx_call rfl rfl Try.call49 (c_l02Mul f119 f120 (by omega) (by omega)) (fun v121 w121 p121 => ?_)
      obtain ⟨s121, rfl, os_121, c121⟩ := p121
      have zw121 := c121.size
      have s122 : Chg 0 0 w'40 w121 := (d118.t c121)
      refine wl_nil ?_
      refine dx_next s122 ?_
      refine dx_eff2 9 10 rfl rfl (by kernel_rfl) ?_ ?_
      ·
       refine sx_call rfl rfl Try.call54 (c_l04Make os_121 (by omega)) (fun v123 w123 p123 => ?_)
       obtain ⟨s123, rfl, os_123, c123⟩ := p123
       have zw123 := c123.size
       have s124 : Chg 0 0 w'40 w123 := ((d118.t c121).t c123)
       refine wl_nil ?_
       refine dx_next s124 ?_
       refine dx_eff 10 rfl (by kernel_rfl) ?_
       refine sx_alloc [.bool false, (.slice none 0 0)] rfl Try.zeroValue28 rfl (fun b125 w126 eb125 sb125 fb125 cb125 => ?_)
       have zw126 := cb125.size
       have s127 : Chg 0 0 w'40 w126 := (((d118.t c121).t c123).t cb125)
       refine wl_nil ?_
       refine dx_next s127 ?_
       refine dx_eff 11 rfl (by kernel_rfl) ?_
       have f129 := os_123.ext cb125
       refine sx_store (vs := [.bool (ng (capI (ng x2) (x2.natAbs * e1))), s123]) rfl rfl fb125 rfl Try.sizeOf28 (Nat.le_of_ble_eq_true rfl) (one_cons rfl (one_cons f129.one one_nil)) (fun w128 sw128 fw128 cw128 => ?_)
       have zw128 := cw128.size
       have gw128 : Blk w128 b125 [.bool (ng (capI (ng x2) (x2.natAbs * e1))), s123] 28 := fw128
       have q131 := Chg.step (l := 0) (h := 0) (Chg.zero (l := 0) (h := 0) (((d118.t c121).t c123).t cb125)) cw128 (by omega)
       have s130 : Chg 0 0 w'40 w128 := q131
       refine wl_nil ?_
       refine dx_next s130 ?_
       refine dx_done (by kernel_rfl) ?_
       have f132 := f129.chg cw128 (by omega)
       have q133 := Chg.step (l := 0) (h := 0) (Chg.zero (l := 0) (h := 0) (((d118.t c121).t c123).t cb125)) cw128 (by omega)
       exact q_n (kw_sub (Sub.cons (t := 2) rfl (.cons (t := 3) rfl (.cons (t := 4) rfl (.cons (t := 5) rfl (.cons (t := 6) rfl (.cons (t := 7) rfl (.nil))))))) (kc99 _ _ ⟨b125, s123, w121.heap.size, w123.heap.size, rfl, q133, gw128, f132, by omega, by omega, by omega⟩))
      ·
       refine sx_alloc [.bool false, (.slice none 0 0)] rfl Try.zeroValue28 rfl (fun b134 w135 eb134 sb134 fb134 cb134 => ?_)
       have zw135 := cb134.size
       have s136 : Chg 0 0 w'40 w135 := ((d118.t c121).t cb134)
       refine wl_nil ?_
       refine dx_next s136 ?_
       refine dx_eff 9 rfl (by kernel_rfl) ?_
       have f137 := os_121.ext cb134
       refine sx_call rfl rfl Try.call54 (c_l04Make f137 (by omega)) (fun v138 w138 p138 => ?_)
       obtain ⟨s138, rfl, os_138, c138⟩ := p138
       have zw138 := c138.size
       have s139 : Chg 0 0 w'40 w138 := (((d118.t c121).t cb134).t c138)
       refine wl_nil ?_
       refine dx_next s139 ?_
       refine dx_eff 11 rfl (by kernel_rfl) ?_
       have f141 := fb134.ext c138
       refine sx_store (vs := [.bool (ng (capI (ng x2) (x2.natAbs * e1))), s138]) rfl rfl f141 rfl Try.sizeOf28 (Nat.le_of_ble_eq_true rfl) (one_cons rfl (one_cons os_138.one one_nil)) (fun w140 sw140 fw140 cw140 => ?_)
       have zw140 := cw140.size
       have gw140 : Blk w140 b134 [.bool (ng (capI (ng x2) (x2.natAbs * e1))), s138] 28 := fw140
       have q143 := Chg.step (l := 0) (h := 0) (Chg.zero (l := 0) (h := 0) (((d118.t c121).t cb134).t c138)) cw140 (by omega)
       have s142 : Chg 0 0 w'40 w140 := q143
       refine wl_nil ?_
       refine dx_next s142 ?_
       refine dx_done (by kernel_rfl) ?_
       have f144 := os_138.chg cw140 (by omega)
       have q145 := Chg.step (l := 0) (h := 0) (Chg.zero (l := 0) (h := 0) (((d118.t c121).t cb134).t c138)) cw140 (by omega)
       exact q_n (kw_sub (Sub.cons (t := 2) rfl (.cons (t := 3) rfl (.cons (t := 4) rfl (.cons (t := 5) rfl (.cons (t := 6) rfl (.cons (t := 7) rfl (.nil))))))) (kc99 _ _ ⟨b134, s138, w135.heap.size, w138.heap.size, rfl, q145, gw140, f144, by omega, by omega, by omega⟩))
     ·
      refine sx_alloc [.bool false, (.slice none 0 0)] rfl Try.zeroValue28 rfl (fun b146 w147 eb146 sb146 fb146 cb146 => ?_)
      have zw147 := cb146.size
      have s148 : Chg 0 0 w'40 w147 := (d118.t cb146)
      refine wl_nil ?_
      refine dx_next s148 ?_
      refine dx_eff 8 rfl (by kernel_rfl) ?_
      have f149 := f115.ext d118
      have f150 := f149.ext cb146
      have f151 := f113.ext d118
      have f152 := f151.ext cb146
      refine sx_call rfl rfl Try.call49 (c_l02Mul f150 f152 (by omega) (by omega)) (fun v153 w153 p153 => ?_)
      obtain ⟨s153, rfl, os_153, c153⟩ := p153
      have zw153 := c153.size
      have s154 : Chg 0 0 w'40 w153 := ((d118.t cb146).t c153)
      refine wl_nil ?_
      refine dx_next s154 ?_
      refine dx_eff 9 rfl (by kernel_rfl) ?_
      refine sx_call rfl rfl Try.call54 (c_l04Make os_153 (by omega)) (fun v155 w155 p155 => ?_)
      obtain ⟨s155, rfl, os_155, c155⟩ := p155
      have zw155 := c155.size
      have s156 : Chg 0 0 w'40 w155 := (((d118.t cb146).t c153).t c155)
      refine wl_nil ?_
      refine dx_next s156 ?_
      refine dx_eff 11 rfl (by kernel_rfl) ?_
      have f158 := fb146.ext c153
      have f159 := f158.ext c155
      refine sx_store (vs := [.bool (ng (capI (ng x2) (x2.natAbs * e1))), s155]) rfl rfl f159 rfl Try.sizeOf28 (Nat.le_of_ble_eq_true rfl) (one_cons rfl (one_cons os_155.one one_nil)) (fun w157 sw157 fw157 cw157 => ?_)
      have zw157 := cw157.size
      have gw157 : Blk w157 b146 [.bool (ng (capI (ng x2) (x2.natAbs * e1))), s155] 28 := fw157
      have q161 := Chg.step (l := 0) (h := 0) (Chg.zero (l := 0) (h := 0) (((d118.t cb146).t c153).t c155)) cw157 (by omega)
      have s160 : Chg 0 0 w'40 w157 := q161
      refine wl_nil ?_
      refine dx_next s160 ?_
      refine dx_done (by kernel_rfl) ?_
      have f162 := os_155.chg cw157 (by omega)
      have q163 := Chg.step (l := 0) (h := 0) (Chg.zero (l := 0) (h := 0) (((d118.t cb146).t c153).t c155)) cw157 (by omega)
      exact q_n (kw_sub (Sub.cons (t := 2) rfl (.cons (t := 3) rfl (.cons (t := 4) rfl (.cons (t := 5) rfl (.cons (t := 6) rfl (.cons (t := 7) rfl (.nil))))))) (kc99 _ _ ⟨b146, s155, w153.heap.size, w155.heap.size, rfl, q163, gw157, f162, by omega, by omega, by omega⟩))
    ·
     rintro fr w'99 ⟨gb99x0, gs99x1, gl99x1, gu99x1, rfl, cw'99, xgb99x0, xgs99x1, ygb99x0, ygl99x1, dgl99x1xgb99x0⟩
     have zw'99 := cw'99.size
     refine sx_seq fun K164 k164 => sx_region ?_
     have f165 := xgb40x0.ext cw'99
     refine sx_pure rfl rfl rfl (px_load rfl (f165.loadA (vs := [.bool (ng (capI (ng x1) (x1.natAbs * e2))), gs40x1]) (look_lit rfl) Try.isAgg28 Try.sizeOf28)) ?_
     refine sx_pure rfl rfl rfl (px_load rfl (xgb99x0.loadA (vs := [.bool (ng (capI (ng x2) (x2.natAbs * e1))), gs99x1]) (look_lit rfl) Try.isAgg28 Try.sizeOf28)) ?_
     have f166 := xgs40x1.ext cw'99
     refine sx_call rfl rfl Try.call122 (c_l04Add f166.sv xgs99x1.sv (by rw [c1, a1]; omega) (by rw [c2, a2]; omega)) (fun v167 w167 p167 => ?_)
     obtain ⟨s167, rfl, os_167, c167⟩ := p167
     have zw167 := c167.size
     refine sx_alloc [.bool false, (.slice none 0 0)] rfl Try.zeroValue28 rfl (fun b168 w169 eb168 sb168 fb168 cb168 => ?_)
     have zw169 := cb168.size
     have f171 := os_167.ext cb168
     refine sx_store (vs := [.bool (ng (cap ((capI (ng x1) (x1.natAbs * e2)) + (capI (ng x2) (x2.natAbs * e1))))), s167]) rfl rfl fb168 rfl Try.sizeOf28 (Nat.le_of_ble_eq_true rfl) (one_cons rfl (one_cons f171.one one_nil)) (fun w170 sw170 fw170 cw170 => ?_)
     have zw170 := cw170.size
     have gw170 : Blk w170 b168 [.bool (ng (cap ((capI (ng x1) (x1.natAbs * e2)) + (capI (ng x2) (x2.natAbs * e1))))), s167] 28 := fw170
     refine wl_nil (q_n (k164 _ _ ?_))
     refine sx_seq fun K172 k172 => ?_
     have f173 := f11.ext c18
     have f174 := f173.ext c33
     have f175 := f174.ext cw'40
     have f176 := f175.ext cw'99
     have f177 := f176.ext c167
     have f178 := f177.ext cb168
     have f179 := f178.chg cw170 (by omega)
     have f180 := f24.ext c33
     have f181 := f180.ext cw'40
     have f182 := f181.ext cw'99
     have f183 := f182.ext c167
     have f184 := f183.ext cb168
     have f185 := f184.chg cw170 (by omega)
     have f186 := f165.ext c167
     have f187 := f186.ext cb168
     have f188 := f187.chg cw170 (by omega)
     have f189 := xgb99x0.ext c167
     have f190 := f189.ext cb168
     have f191 := f190.chg cw170 (by omega)
     have f192 := f14.ext c18
     have f193 := f192.ext c33
     have f194 := f193.ext cw'40
     have f195 := f194.ext cw'99
     have f196 := f195.ext c167
     have f197 := f196.ext cb168
     have f198 := f197.chg cw170 (by omega)
     have f199 := f17.ext c18
     have f200 := f199.ext c33
     have f201 := f200.ext cw'40
     have f202 := f201.ext cw'99
     have f203 := f202.ext c167
     have f204 := f203.ext cb168
     have f205 := f204.chg cw170 (by omega)
     have f206 := f28.ext c33
     have f207 := f206.ext cw'40
     have f208 := f207.ext cw'99
     have f209 := f208.ext c167
     have f210 := f209.ext cb168
     have f211 := f210.chg cw170 (by omega)
     have f212 := f32.ext c33
     have f213 := f212.ext cw'40
     have f214 := f213.ext cw'99
     have f215 := f214.ext c167
     have f216 := f215.ext cb168
     have f217 := f216.chg cw170 (by omega)
     have f218 := f166.ext c167
     have f219 := f218.ext cb168
     have f220 := f219.chg cw170 (by omega)
     have f221 := xgs99x1.ext c167
     have f222 := f221.ext cb168
     have f223 := f222.chg cw170 (by omega)
     have f224 := f171.chg cw170 (by omega)
     refine dx_region (fun w' => Chg b6 (b6 + 1) w170 w') (by kernel_rfl) (Chg.zero (Chg.drew _)) ?_
     have d225 := Chg.drew w170
     have s225 : Chg b6 (b6 + 1) w170 (World.drew w170) := Chg.zero (Chg.drew _)
     have y225 : (World.drew w170).heap.size = w170.heap.size := rfl
     generalize World.drew w170 = w225 at *
     have zw225 := d225.size
     refine dx_take 0 rfl rfl rfl rfl (by kernel_rfl) (by kernel_rfl) (by kernel_rfl) s225 (fun _ hS => px_field rfl xfld28x0) ?_
     refine dx_take 1 rfl rfl rfl rfl (by kernel_rfl) (by kernel_rfl) (by kernel_rfl) s225 (fun _ hS => px_load rfl ((gw170.chg hS (by omega)).load1 rfl Try.isAgg4)) ?_
     refine dx_take 2 rfl rfl rfl rfl (by kernel_rfl) (by kernel_rfl) (by kernel_rfl) s225 (fun _ hS => px_field rfl xfld28x1) ?_
     refine dx_take 3 rfl rfl rfl rfl (by kernel_rfl) (by kernel_rfl) (by kernel_rfl) s225 (fun _ hS => px_load rfl ((gw170.chg hS (by omega)).load1 rfl Try.isAgg22)) ?_
     refine dx_take 4 rfl rfl rfl rfl (by kernel_rfl) (by kernel_rfl) (by kernel_rfl) s225 (fun _ hS => px_field rfl xfld44x1) ?_
     refine dx_take 5 rfl rfl rfl rfl (by kernel_rfl) (by kernel_rfl) (by kernel_rfl) s225 (fun _ hS => px_load rfl ((f179.chg hS (by omega)).load1 rfl Try.isAgg22)) ?_
     refine dx_take 6 rfl rfl rfl rfl (by kernel_rfl) (by kernel_rfl) (by kernel_rfl) s225 (fun _ hS => px_field rfl xfld44x1) ?_
     refine dx_take 7 rfl rfl rfl rfl (by kernel_rfl) (by kernel_rfl) (by kernel_rfl) s225 (fun _ hS => px_load rfl ((f185.chg hS (by omega)).load1 rfl Try.isAgg22)) ?_
     refine dx_eff 8 rfl (by kernel_rfl) ?_
     have f226 := f205.ext d225
     have f227 := f217.ext d225
     refine sx_call rfl rfl Try.call49 (c_l02Mul f226 f227 (by omega) (by omega)) (fun v228 w228 p228 => ?_)
     obtain ⟨s228, rfl, os_228, c228⟩ := p228
     have zw228 := c228.size
     have s229 : Chg b6 (b6 + 1) w170 w228 := (Chg.zero (l := b6) (h := (b6 + 1)) (d225.t c228))
     refine wl_nil ?_
     refine dx_next s229 ?_
     refine dx_eff 9 rfl (by kernel_rfl) ?_
     have f230 := f224.ext d225
     have f231 := f230.ext c228
     refine sx_call rfl rfl Try.call109 (c_l05Low f231.sv os_228 (by rw [c3]; omega) (by omega)) (fun v232 w232 p232 => ?_)
     obtain ⟨s232, t232, ls232, us232, lt232, ut232, rfl, os_232, ot_232, hd232, hl232, c232⟩ := p232
     have zw232 := c232.size
     have s233 : Chg b6 (b6 + 1) w170 w232 := (Chg.zero (l := b6) (h := (b6 + 1)) ((d225.t c228).t c232))
     refine wl_nil ?_
     refine dx_next s233 ?_
     refine dx_take 10 rfl rfl rfl rfl (by kernel_rfl) (by kernel_rfl) (by kernel_rfl) s233 (fun _ hS => px_extract (vs := [.agg #[.bool ((rR (sgI (ng (cap ((capI (ng x1) (x1.natAbs * e2)) + (capI (ng x2) (x2.natAbs * e1))))) ((cap ((capI (ng x1) (x1.natAbs * e2)) + (capI (ng x2) (x2.natAbs * e1)))).natAbs)) (e1 * e2)).1), s232, t232], .bool ((rR (sgI (ng (cap ((capI (ng x1) (x1.natAbs * e2)) + (capI (ng x2) (x2.natAbs * e1))))) ((cap ((capI (ng x1) (x1.natAbs * e2)) + (capI (ng x2) (x2.natAbs * e1)))).natAbs)) (e1 * e2)).2.2.2)]) rfl rfl) ?_
     refine dx_take 11 rfl rfl rfl rfl (by kernel_rfl) (by kernel_rfl) (by kernel_rfl) s233 (fun _ hS => px_extract (vs := [.agg #[.bool ((rR (sgI (ng (cap ((capI (ng x1) (x1.natAbs * e2)) + (capI (ng x2) (x2.natAbs * e1))))) ((cap ((capI (ng x1) (x1.natAbs * e2)) + (capI (ng x2) (x2.natAbs * e1)))).natAbs)) (e1 * e2)).1), s232, t232], .bool ((rR (sgI (ng (cap ((capI (ng x1) (x1.natAbs * e2)) + (capI (ng x2) (x2.natAbs * e1))))) ((cap ((capI (ng x1) (x1.natAbs * e2)) + (capI (ng x2) (x2.natAbs * e1)))).natAbs)) (e1 * e2)).2.2.2)]) rfl rfl) ?_
     refine dx_eff 12 rfl (by kernel_rfl) ?_
     have f235 := fb6.ext c18
     have f236 := f235.ext c33
     have f237 := f236.ext cw'40
     have f238 := f237.ext cw'99
     have f239 := f238.ext c167
     have f240 := f239.ext cb168
     have f241 := f240.chg cw170 (by omega)
     have f242 := f241.ext d225
     have f243 := f242.ext c228
     have f244 := f243.ext c232
     refine sx_store (vs := [.bool ((rR (sgI (ng (cap ((capI (ng x1) (x1.natAbs * e2)) + (capI (ng x2) (x2.natAbs * e1))))) ((cap ((capI (ng x1) (x1.natAbs * e2)) + (capI (ng x2) (x2.natAbs * e1)))).natAbs)) (e1 * e2)).1), s232, t232]) rfl rfl f244 rfl Try.sizeOf44 (Nat.le_of_ble_eq_true rfl) (one_cons rfl (one_cons os_232.one (one_cons ot_232.one one_nil))) (fun w234 sw234 fw234 cw234 => ?_)
     have zw234 := cw234.size
     have gw234 : Blk w234 b6 [.bool ((rR (sgI (ng (cap ((capI (ng x1) (x1.natAbs * e2)) + (capI (ng x2) (x2.natAbs * e1))))) ((cap ((capI (ng x1) (x1.natAbs * e2)) + (capI (ng x2) (x2.natAbs * e1)))).natAbs)) (e1 * e2)).1), s232, t232] 44 := fw234
     have q246 := Chg.step (l := b6) (h := (b6 + 1)) (Chg.zero (l := b6) (h := (b6 + 1)) ((d225.t c228).t c232)) cw234 (by omega)
     have s245 : Chg b6 (b6 + 1) w170 w234 := q246
     refine wl_nil ?_
     refine dx_next s245 ?_
     refine dx_take 13 rfl rfl rfl rfl (by kernel_rfl) (by kernel_rfl) (by kernel_rfl) s245 (fun _ hS => px_assign rfl) ?_
     refine dx_done (by kernel_rfl) ?_
     refine q_n (k172 _ _ ?_)
     refine sx_sub (Sub.cons (t := 4) rfl (.cons (t := 5) rfl (.nil))) ?_
     refine sx_retc ?_
     refine sx_ret2 Try.results103 ⟨_, rfl, gw234.loadA (vs := [.bool ((rR (sgI (ng (cap ((capI (ng x1) (x1.natAbs * e2)) + (capI (ng x2) (x2.natAbs * e1))))) ((cap ((capI (ng x1) (x1.natAbs * e2)) + (capI (ng x2) (x2.natAbs * e1)))).natAbs)) (e1 * e2)).1), s232, t232]) (look_lit rfl) Try.isAgg44 Try.sizeOf44⟩ rfl ?_
     have hrl := rAdd_len (n1 := ng x1) (z1 := dg x1.natAbs) (y1 := dg e1) (n2 := ng x2) (z2 := dg x2.natAbs) (y2 := dg e2)
     have hre : rAdd (ng x1) (dg x1.natAbs) (dg e1) (ng x2) (dg x2.natAbs) (dg e2) = rR (sgI (ng (cap (capI (ng x1) (x1.natAbs * e2) + capI (ng x2) (x2.natAbs * e1)))) (cap (capI (ng x1) (x1.natAbs * e2) + capI (ng x2) (x2.natAbs * e1))).natAbs) (e1 * e2) := by rw [rAdd_ok hR1 hR2, c3, sgI_ng]
     rw [hre] at hrl ⊢
     have q247 := Chg.step (l := 0) (h := 0) (Chg.zero (l := 0) (h := 0) ((((((((cb2.t cb4).t cb6).t c18).t c33).t cw'40).t cw'99).t c167).t cb168)) cw170 (by omega)
     have q248 := Chg.step (l := 0) (h := 0) q247 ((d225.t c228).t c232) (by omega)
     have q249 := Chg.step (l := 0) (h := 0) q248 cw234 (by omega)
     have f250 := os_232.chg cw234 (by omega)
     have f251 := ot_232.chg cw234 (by omega)
     exact ⟨_, _, _, _, _, _, rfl, f250, f251, by omega, hrl, q249⟩

theorem c_sRatSub {w : World} {n1 : Bool} {v1 : Value} {lv1 uv1 : Nat} {z1 : List Int} {d1 : Value} {ld1 ud1 : Nat} {y1 : List Int} {n2 : Bool} {v2 : Value} {lv2 uv2 : Nat} {z2 : List Int} {d2 : Value} {ld2 ud2 : Nat} {y2 : List Int} (hv1 : Sl w lv1 uv1 v1 (z1)) (hd1 : Sl w ld1 ud1 d1 (y1)) (hv2 : Sl w lv2 uv2 v2 (z2)) (hd2 : Sl w ld2 ud2 d2 (y2)) (h63 : z1.length ≤ 4611686018427387904 ∧ y1.length ≤ 4611686018427387904 ∧ z2.length ≤ 4611686018427387904 ∧ y2.length ≤ 4611686018427387904) :
  Ret Try.prog 64 [.agg #[.bool n1, v1, d1], .agg #[.bool n2, v2, d2]] w fun v w' => ∃ s t ls us lt ut, v = .tuple #[.agg #[.bool ((rSub n1 z1 y1 n2 z2 y2).1), s, t], .bool ((rSub n1 z1 y1 n2 z2 y2).2.2.2)] ∧ OwnI w' (ls) (us) s intT ((rSub n1 z1 y1 n2 z2 y2).2.1) ∧ OwnI w' (lt) (ut) t intT ((rSub n1 z1 y1 n2 z2 y2).2.2.1) ∧ (w.heap.size ≤ ls ∧ us ≤ w'.heap.size ∧ w.heap.size ≤ lt ∧ ut ≤ w'.heap.size ∧ (us ≤ lt ∨ ut ≤ ls)) ∧ ((rSub n1 z1 y1 n2 z2 y2).2.1.length ≤ 18 ∧ (rSub n1 z1 y1 n2 z2 y2).2.2.1.length ≤ 18) ∧ Chg 0 0 w w' := by
 have hv10 := hv1.fit
 have hd10 := hd1.fit
 have hv20 := hv2.fit
 have hd20 := hd2.fit
 refine sx_enter Try.func64 rfl Try.ntmps64 (Nat.le_of_ble_eq_true rfl) ?_
 refine sx_seq fun K1 k1 => sx_region ?_
 refine sx_box [.bool n1, v1, d1] rfl rfl rfl (fun b2 w3 eb2 sb2 fb2 cb2 => ?_)
 have zw3 := cb2.size
 refine sx_box [.bool n2, v2, d2] rfl rfl rfl (fun b4 w5 eb4 sb4 fb4 cb4 => ?_)
 have zw5 := cb4.size
 refine sx_alloc [.bool false, (.slice none 0 0), (.slice none 0 0)] rfl Try.zeroValue44 rfl (fun b6 w7 eb6 sb6 fb6 cb6 => ?_)
 have zw7 := cb6.size
 refine sa rfl rfl rfl rfl ?_
 refine wl_nil (q_n (k1 _ _ ?_))
 refine sx_seq fun K8 k8 => sx_region ?_
 have f9 := fb4.ext cb6
 refine sx_pure rfl rfl rfl (px_load rfl (f9.loadA (vs := [.bool n2, v2, d2]) (look_lit rfl) Try.isAgg44 Try.sizeOf44)) ?_
 have f10 := hv20.ext cb2
 have f11 := f10.ext cb4
 have f12 := f11.ext cb6
 have f13 := hd20.ext cb2
 have f14 := f13.ext cb4
 have f15 := f14.ext cb6
 refine sx_call rfl rfl Try.call102 (c_sRatNeg f12 f15 (by omega)) (fun v16 w16 p16 => ?_)
 obtain ⟨s16, t16, ls16, us16, lt16, ut16, rfl, os_16, ot_16, hd16, hl16, c16⟩ := p16
 have zw16 := c16.size
 refine sm rfl rfl rfl rfl ?_
 refine sx_pure rfl rfl rfl (px_extract (vs := [.agg #[.bool ((rNeg n2 z2 y2).1), s16, t16], .bool ((rNeg n2 z2 y2).2.2.2)]) rfl rfl) ?_
 refine sx_pure rfl rfl rfl (px_extract (vs := [.agg #[.bool ((rNeg n2 z2 y2).1), s16, t16], .bool ((rNeg n2 z2 y2).2.2.2)]) rfl rfl) ?_
 refine sx_alloc [.bool false, (.slice none 0 0), (.slice none 0 0)] rfl Try.zeroValue44 rfl (fun b17 w18 eb17 sb17 fb17 cb17 => ?_)
 have zw18 := cb17.size
 have f20 := ot_16.ext cb17
 have f21 := os_16.ext cb17
 refine sx_store (vs := [.bool ((rNeg n2 z2 y2).1), s16, t16]) rfl rfl fb17 rfl Try.sizeOf44 (Nat.le_of_ble_eq_true rfl) (one_cons rfl (one_cons f21.one (one_cons f20.one one_nil))) (fun w19 sw19 fw19 cw19 => ?_)
 have zw19 := cw19.size
 have gw19 : Blk w19 b17 [.bool ((rNeg n2 z2 y2).1), s16, t16] 44 := fw19
 refine sa rfl rfl rfl rfl ?_
 refine wl_nil (q_n (k8 _ _ ?_))
 refine sx_seq fun K22 k22 => ?_
 refine sx_seq fun K23 k23 => sx_region ?_
 refine sm rfl rfl rfl rfl ?_
 refine sx_pure rfl rfl rfl (px_not rfl) ?_
 refine wl_nil (q_n (k23 _ _ ?_))
 refine sx_sub (Sub.cons (t := 2) rfl (.cons (t := 4) rfl (.cons (t := 5) rfl (.cons (t := 6) rfl (.cons (t := 14) rfl (.nil)))))) ?_
 refine sx_condB rfl (fun h76 => ?_) (fun h76 => ?_)
 ·
  refine sx_seq fun K24 k24 => sx_region ?_
  refine sx_pure rfl rfl rfl (px_build rfl (xbld44x  _)) ?_
  have f26 := fb6.ext c16
  have f27 := f26.ext cb17
  have f28 := f27.chg cw19 (by omega)
  refine sx_store (vs := [.bool false, (.slice none 0 0), (.slice none 0 0)]) rfl rfl f28 rfl Try.sizeOf44 (Nat.le_of_ble_eq_true rfl) (one_cons rfl (one_cons rfl (one_cons rfl one_nil))) (fun w25 sw25 fw25 cw25 => ?_)
  have zw25 := cw25.size
  have gw25 : Blk w25 b6 [.bool false, (.slice none 0 0), (.slice none 0 0)] 44 := fw25
  refine sa rfl rfl rfl rfl ?_
  refine wl_nil (q_n (k24 _ _ ?_))
  refine sx_retc ?_
  refine q_r (sx_ret2 Try.results64 ⟨_, rfl, gw25.loadA (vs := [.bool false, (.slice none 0 0), (.slice none 0 0)]) (look_lit rfl) Try.isAgg44 Try.sizeOf44⟩ rfl ?_)
  rw [rSub_bad (bnot_t h76)]
  have q29 := Chg.step (l := 0) (h := 0) (Chg.zero (l := 0) (h := 0) ((((cb2.t cb4).t cb6).t c16).t cb17)) cw19 (by omega)
  have q30 := Chg.step (l := 0) (h := 0) q29 cw25 (by omega)
  exact ⟨_, _, w.heap.size, w.heap.size, w.heap.size, w.heap.size, rfl, Own.nil _ _ _ _ _, Own.nil _ _ _ _ _, by omega, ⟨by simp [noR], by simp [noR]⟩, q30⟩
 ·
  refine sx_skip ?_
  refine q_n (k22 _ _ ?_)
  refine sx_seq fun K31 k31 => sx_region ?_
  have f32 := fb2.ext cb4
  have f33 := f32.ext cb6
  have f34 := f33.ext c16
  have f35 := f34.ext cb17
  have f36 := f35.chg cw19 (by omega)
  refine sx_pure rfl rfl rfl (px_load rfl (f36.loadA (vs := [.bool n1, v1, d1]) (look_lit rfl) Try.isAgg44 Try.sizeOf44)) ?_
  refine sx_pure rfl rfl rfl (px_load rfl (gw19.loadA (vs := [.bool ((rNeg n2 z2 y2).1), s16, t16]) (look_lit rfl) Try.isAgg44 Try.sizeOf44)) ?_
  have f37 := hv10.ext cb2
  have f38 := f37.ext cb4
  have f39 := f38.ext cb6
  have f40 := f39.ext c16
  have f41 := f40.ext cb17
  have f42 := f41.chg cw19 (by omega)
  have f43 := hd10.ext cb2
  have f44 := f43.ext cb4
  have f45 := f44.ext cb6
  have f46 := f45.ext c16
  have f47 := f46.ext cb17
  have f48 := f47.chg cw19 (by omega)
  have f49 := f21.chg cw19 (by omega)
  have f50 := f20.chg cw19 (by omega)
  refine sx_call rfl rfl Try.call103 (c_sRatAdd f42 f48 f49.sv f50.sv (by omega)) (fun v51 w51 p51 => ?_)
  obtain ⟨s51, t51, ls51, us51, lt51, ut51, rfl, os_51, ot_51, hd51, hl51, c51⟩ := p51
  have zw51 := c51.size
  refine sx_pure rfl rfl rfl (px_extract (vs := [.agg #[.bool ((rAdd n1 z1 y1 ((rNeg n2 z2 y2).1) ((rNeg n2 z2 y2).2.1) ((rNeg n2 z2 y2).2.2.1)).1), s51, t51], .bool ((rAdd n1 z1 y1 ((rNeg n2 z2 y2).1) ((rNeg n2 z2 y2).2.1) ((rNeg n2 z2 y2).2.2.1)).2.2.2)]) rfl rfl) ?_
  refine sx_pure rfl rfl rfl (px_extract (vs := [.agg #[.bool ((rAdd n1 z1 y1 ((rNeg n2 z2 y2).1) ((rNeg n2 z2 y2).2.1) ((rNeg n2 z2 y2).2.2.1)).1), s51, t51], .bool ((rAdd n1 z1 y1 ((rNeg n2 z2 y2).1) ((rNeg n2 z2 y2).2.1) ((rNeg n2 z2 y2).2.2.1)).2.2.2)]) rfl rfl) ?_
  have f53 := fb6.ext c16
  have f54 := f53.ext cb17
  have f55 := f54.chg cw19 (by omega)
  have f56 := f55.ext c51
  refine sx_store (vs := [.bool ((rAdd n1 z1 y1 ((rNeg n2 z2 y2).1) ((rNeg n2 z2 y2).2.1) ((rNeg n2 z2 y2).2.2.1)).1), s51, t51]) rfl rfl f56 rfl Try.sizeOf44 (Nat.le_of_ble_eq_true rfl) (one_cons rfl (one_cons os_51.one (one_cons ot_51.one one_nil))) (fun w52 sw52 fw52 cw52 => ?_)
  have zw52 := cw52.size
  have gw52 : Blk w52 b6 [.bool ((rAdd n1 z1 y1 ((rNeg n2 z2 y2).1) ((rNeg n2 z2 y2).2.1) ((rNeg n2 z2 y2).2.2.1)).1), s51, t51] 44 := fw52
  refine sa rfl rfl rfl rfl ?_
  refine wl_nil (q_n (k31 _ _ ?_))
  refine sx_retc ?_
  refine sx_ret2 Try.results64 ⟨_, rfl, gw52.loadA (vs := [.bool ((rAdd n1 z1 y1 ((rNeg n2 z2 y2).1) ((rNeg n2 z2 y2).2.1) ((rNeg n2 z2 y2).2.2.1)).1), s51, t51]) (look_lit rfl) Try.isAgg44 Try.sizeOf44⟩ rfl ?_
  have hrl := rSub_len (n1 := n1) (z1 := z1) (y1 := y1) (n2 := n2) (z2 := z2) (y2 := y2)
  rw [rSub_neg (bnot_f h76)] at hrl ⊢
  have q57 := Chg.step (l := 0) (h := 0) (Chg.zero (l := 0) (h := 0) ((((cb2.t cb4).t cb6).t c16).t cb17)) cw19 (by omega)
  have q58 := Chg.step (l := 0) (h := 0) q57 c51 (by omega)
  have q59 := Chg.step (l := 0) (h := 0) q58 cw52 (by omega)
  have f60 := os_51.chg cw52 (by omega)
  have f61 := ot_51.chg cw52 (by omega)
  exact ⟨_, _, _, _, _, _, rfl, f60, f61, by omega, hrl, q59⟩

theorem c_sRatRest {w : World} {n1 : Bool} {v1 : Value} {lv1 uv1 : Nat} {z1 : List Int} {d1 : Value} {ld1 ud1 : Nat} {y1 : List Int} {m : Int} (hv1 : Sl w lv1 uv1 v1 (z1)) (hd1 : Sl w ld1 ud1 d1 (y1)) (h63 : z1.length ≤ 4611686018427387904 ∧ y1.length ≤ 4611686018427387904) :
  Ret Try.prog 23 [.agg #[.bool n1, v1, d1], .int .i64 m] w fun v w' => ∃ s t u ls us lt ut lu uu, v = .tuple #[.agg #[.bool ((rRest n1 z1 y1 m).1.1), s], .agg #[.bool ((rRest n1 z1 y1 m).2.1.1), t, u], .bool ((rRest n1 z1 y1 m).2.2)] ∧ OwnI w' (ls) (us) s intT ((rRest n1 z1 y1 m).1.2) ∧ OwnI w' (lt) (ut) t intT ((rRest n1 z1 y1 m).2.1.2.1) ∧ OwnI w' (lu) (uu) u intT ((rRest n1 z1 y1 m).2.1.2.2) ∧ (w.heap.size ≤ ls ∧ us ≤ w'.heap.size ∧ w.heap.size ≤ lt ∧ ut ≤ w'.heap.size ∧ w.heap.size ≤ lu ∧ uu ≤ w'.heap.size ∧ us ≤ lt ∧ us ≤ lu ∧ (ut ≤ lu ∨ uu ≤ lt)) ∧ ((rRest n1 z1 y1 m).1.2.length ≤ 19 ∧ (rRest n1 z1 y1 m).2.1.2.1.length ≤ 18 ∧ (rRest n1 z1 y1 m).2.1.2.2.length ≤ 18) ∧ Chg 0 0 w w' := by
 have hv10 := hv1.fit
 have hd10 := hd1.fit
 refine sx_enter Try.func23 rfl Try.ntmps23 (Nat.le_of_ble_eq_true rfl) ?_
 refine sx_seq fun K1 k1 => sx_region ?_
 refine sx_box [.bool n1, v1, d1] rfl rfl rfl (fun b2 w3 eb2 sb2 fb2 cb2 => ?_)
 have zw3 := cb2.size
 refine sx_alloc [.bool false, (.slice none 0 0)] rfl Try.zeroValue28 rfl (fun b4 w5 eb4 sb4 fb4 cb4 => ?_)
 have zw5 := cb4.size
 refine sx_alloc [.bool false, (.slice none 0 0), (.slice none 0 0)] rfl Try.zeroValue44 rfl (fun b6 w7 eb6 sb6 fb6 cb6 => ?_)
 have zw7 := cb6.size
 refine sa rfl rfl rfl rfl ?_
 refine wl_nil (q_n (k1 _ _ ?_))
 refine sx_seq fun K8 k8 => sx_region ?_
 have f9 := fb2.ext cb4
 have f10 := f9.ext cb6
 refine sx_pure rfl rfl rfl (px_load rfl (f10.loadA (vs := [.bool n1, v1, d1]) (look_lit rfl) Try.isAgg44 Try.sizeOf44)) ?_
 refine sm rfl rfl rfl rfl ?_
 have f11 := hv10.ext cb2
 have f12 := f11.ext cb4
 have f13 := f12.ext cb6
 have f14 := hd10.ext cb2
 have f15 := f14.ext cb4
 have f16 := f15.ext cb6
 refine sx_call rfl rfl Try.call62 (c_sRatRound f13 f16 (by omega)) (fun v17 w17 p17 => ?_)
 obtain ⟨s17, rfl, os_17, hl17, c17⟩ := p17
 have zw17 := c17.size
 refine sm rfl rfl rfl rfl ?_
 refine sx_pure rfl rfl rfl (px_extract (vs := [.agg #[.bool ((rRound n1 z1 y1 m).1), s17], .bool ((rRound n1 z1 y1 m).2.2)]) rfl rfl) ?_
 refine sx_pure rfl rfl rfl (px_extract (vs := [.agg #[.bool ((rRound n1 z1 y1 m).1), s17], .bool ((rRound n1 z1 y1 m).2.2)]) rfl rfl) ?_
 refine sx_alloc [.bool false, (.slice none 0 0)] rfl Try.zeroValue28 rfl (fun b18 w19 eb18 sb18 fb18 cb18 => ?_)
 have zw19 := cb18.size
 have f21 := os_17.ext cb18
 refine sx_store (vs := [.bool ((rRound n1 z1 y1 m).1), s17]) rfl rfl fb18 rfl Try.sizeOf28 (Nat.le_of_ble_eq_true rfl) (one_cons rfl (one_cons f21.one one_nil)) (fun w20 sw20 fw20 cw20 => ?_)
 have zw20 := cw20.size
 have gw20 : Blk w20 b18 [.bool ((rRound n1 z1 y1 m).1), s17] 28 := fw20
 refine sa rfl rfl rfl rfl ?_
 refine wl_nil (q_n (k8 _ _ ?_))
 refine sx_seq fun K22 k22 => sx_region ?_
 refine sx_pure rfl rfl rfl (px_load rfl (gw20.loadA (vs := [.bool ((rRound n1 z1 y1 m).1), s17]) (look_lit rfl) Try.isAgg28 Try.sizeOf28)) ?_
 have f23 := f21.chg cw20 (by omega)
 refine sx_call rfl rfl Try.call63 (c_sRatInt f23.sv (by omega)) (fun v24 w24 p24 => ?_)
 obtain ⟨s24, t24, ls24, us24, lt24, ut24, rfl, os_24, ot_24, hd24, hl24, c24⟩ := p24
 have zw24 := c24.size
 refine sm rfl rfl rfl rfl ?_
 refine sx_pure rfl rfl rfl (px_extract (vs := [.agg #[.bool ((rInt ((rRound n1 z1 y1 m).1) ((rRound n1 z1 y1 m).2.1)).1), s24, t24], .bool ((rInt ((rRound n1 z1 y1 m).1) ((rRound n1 z1 y1 m).2.1)).2.2.2)]) rfl rfl) ?_
 refine sx_pure rfl rfl rfl (px_extract (vs := [.agg #[.bool ((rInt ((rRound n1 z1 y1 m).1) ((rRound n1 z1 y1 m).2.1)).1), s24, t24], .bool ((rInt ((rRound n1 z1 y1 m).1) ((rRound n1 z1 y1 m).2.1)).2.2.2)]) rfl rfl) ?_
 refine sx_alloc [.bool false, (.slice none 0 0), (.slice none 0 0)] rfl Try.zeroValue44 rfl (fun b25 w26 eb25 sb25 fb25 cb25 => ?_)
 have zw26 := cb25.size
 have f28 := ot_24.ext cb25
 have f29 := os_24.ext cb25
 refine sx_store (vs := [.bool ((rInt ((rRound n1 z1 y1 m).1) ((rRound n1 z1 y1 m).2.1)).1), s24, t24]) rfl rfl fb25 rfl Try.sizeOf44 (Nat.le_of_ble_eq_true rfl) (one_cons rfl (one_cons f29.one (one_cons f28.one one_nil))) (fun w27 sw27 fw27 cw27 => ?_)
 have zw27 := cw27.size
 have gw27 : Blk w27 b25 [.bool ((rInt ((rRound n1 z1 y1 m).1) ((rRound n1 z1 y1 m).2.1)).1), s24, t24] 44 := fw27
 refine sa rfl rfl rfl rfl ?_
 refine wl_nil (q_n (k22 _ _ ?_))
 refine sx_sub (Sub.cons (t := 2) rfl (.cons (t := 4) rfl (.cons (t := 5) rfl (.cons (t := 6) rfl (.cons (t := 7) rfl (.cons (t := 8) rfl (.cons (t := 9) rfl (.cons (t := 10) rfl (.nil))))))))) ?_
 refine sx_seq fun K30 k30 => sx_region ?_
 have f31 := f10.ext c17
 have f32 := f31.ext cb18
 have f33 := f32.chg cw20 (by omega)
 have f34 := f33.ext c24
 have f35 := f34.ext cb25
 have f36 := f35.chg cw27 (by omega)
 refine sx_pure rfl rfl rfl (px_load rfl (f36.loadA (vs := [.bool n1, v1, d1]) (look_lit rfl) Try.isAgg44 Try.sizeOf44)) ?_
 refine sx_pure rfl rfl rfl (px_load rfl (gw27.loadA (vs := [.bool ((rInt ((rRound n1 z1 y1 m).1) ((rRound n1 z1 y1 m).2.1)).1), s24, t24]) (look_lit rfl) Try.isAgg44 Try.sizeOf44)) ?_
 have f37 := f13.ext c17
 have f38 := f37.ext cb18
 have f39 := f38.chg cw20 (by omega)
 have f40 := f39.ext c24
 have f41 := f40.ext cb25
 have f42 := f41.chg cw27 (by omega)
 have f43 := f16.ext c17
 have f44 := f43.ext cb18
 have f45 := f44.chg cw20 (by omega)
 have f46 := f45.ext c24
 have f47 := f46.ext cb25
 have f48 := f47.chg cw27 (by omega)
 have f49 := f29.chg cw27 (by omega)
 have f50 := f28.chg cw27 (by omega)
 refine sx_call rfl rfl Try.call64 (c_sRatSub f42 f48 f49.sv f50.sv (by omega)) (fun v51 w51 p51 => ?_)
 obtain ⟨s51, t51, ls51, us51, lt51, ut51, rfl, os_51, ot_51, hd51, hl51, c51⟩ := p51
 have zw51 := c51.size
 refine sm rfl rfl rfl rfl ?_
 refine sx_pure rfl rfl rfl (px_extract (vs := [.agg #[.bool ((rSub n1 z1 y1 ((rInt ((rRound n1 z1 y1 m).1) ((rRound n1 z1 y1 m).2.1)).1) ((rInt ((rRound n1 z1 y1 m).1) ((rRound n1 z1 y1 m).2.1)).2.1) ((rInt ((rRound n1 z1 y1 m).1) ((rRound n1 z1 y1 m).2.1)).2.2.1)).1), s51, t51], .bool ((rSub n1 z1 y1 ((rInt ((rRound n1 z1 y1 m).1) ((rRound n1 z1 y1 m).2.1)).1) ((rInt ((rRound n1 z1 y1 m).1) ((rRound n1 z1 y1 m).2.1)).2.1) ((rInt ((rRound n1 z1 y1 m).1) ((rRound n1 z1 y1 m).2.1)).2.2.1)).2.2.2)]) rfl rfl) ?_
 refine sx_pure rfl rfl rfl (px_extract (vs := [.agg #[.bool ((rSub n1 z1 y1 ((rInt ((rRound n1 z1 y1 m).1) ((rRound n1 z1 y1 m).2.1)).1) ((rInt ((rRound n1 z1 y1 m).1) ((rRound n1 z1 y1 m).2.1)).2.1) ((rInt ((rRound n1 z1 y1 m).1) ((rRound n1 z1 y1 m).2.1)).2.2.1)).1), s51, t51], .bool ((rSub n1 z1 y1 ((rInt ((rRound n1 z1 y1 m).1) ((rRound n1 z1 y1 m).2.1)).1) ((rInt ((rRound n1 z1 y1 m).1) ((rRound n1 z1 y1 m).2.1)).2.1) ((rInt ((rRound n1 z1 y1 m).1) ((rRound n1 z1 y1 m).2.1)).2.2.1)).2.2.2)]) rfl rfl) ?_
 refine sx_alloc [.bool false, (.slice none 0 0), (.slice none 0 0)] rfl Try.zeroValue44 rfl (fun b52 w53 eb52 sb52 fb52 cb52 => ?_)
 have zw53 := cb52.size
 have f55 := ot_51.ext cb52
 have f56 := os_51.ext cb52
 refine sx_store (vs := [.bool ((rSub n1 z1 y1 ((rInt ((rRound n1 z1 y1 m).1) ((rRound n1 z1 y1 m).2.1)).1) ((rInt ((rRound n1 z1 y1 m).1) ((rRound n1 z1 y1 m).2.1)).2.1) ((rInt ((rRound n1 z1 y1 m).1) ((rRound n1 z1 y1 m).2.1)).2.2.1)).1), s51, t51]) rfl rfl fb52 rfl Try.sizeOf44 (Nat.le_of_ble_eq_true rfl) (one_cons rfl (one_cons f56.one (one_cons f55.one one_nil))) (fun w54 sw54 fw54 cw54 => ?_)
 have zw54 := cw54.size
 have gw54 : Blk w54 b52 [.bool ((rSub n1 z1 y1 ((rInt ((rRound n1 z1 y1 m).1) ((rRound n1 z1 y1 m).2.1)).1) ((rInt ((rRound n1 z1 y1 m).1) ((rRound n1 z1 y1 m).2.1)).2.1) ((rInt ((rRound n1 z1 y1 m).1) ((rRound n1 z1 y1 m).2.1)).2.2.1)).1), s51, t51] 44 := fw54
 refine sa rfl rfl rfl rfl ?_
 refine wl_nil (q_n (k30 _ _ ?_))
 refine sx_sub (Sub.cons (t := 4) rfl (.cons (t := 5) rfl (.cons (t := 6) rfl (.cons (t := 7) rfl (.cons (t := 8) rfl (.cons (t := 10) rfl (.cons (t := 11) rfl (.cons (t := 12) rfl (.nil))))))))) ?_
 refine sx_seq fun K57 k57 => ?_
 refine sx_seq fun K58 k58 => sx_region ?_
 refine sm rfl rfl rfl rfl ?_
 refine sx_pure rfl rfl rfl (px_not rfl) ?_
 refine sm rfl rfl rfl rfl ?_
 refine sx_tmpB (t := 32) rfl (fun h75 => ?_) (fun h75 => ?_)
 ·
  refine sx_guardF rfl rfl rfl rfl rfl rfl ?_
  refine sx_guardF rfl rfl rfl rfl rfl rfl ?_
  refine sx_pure rfl rfl rfl (px_pick rfl rfl) ?_
  refine sm rfl rfl rfl rfl ?_
  refine sx_guardF rfl rfl rfl rfl rfl rfl ?_
  refine sx_guardF rfl rfl rfl rfl rfl rfl ?_
  refine sx_pure rfl rfl rfl (px_pick rfl rfl) ?_
  refine wl_nil (q_n (k58 _ _ ?_))
  refine sx_sub (Sub.cons (t := 4) rfl (.cons (t := 5) rfl (.cons (t := 6) rfl (.cons (t := 7) rfl (.cons (t := 11) rfl (.cons (t := 39) rfl (.nil))))))) ?_
  refine sx_condT rfl ?_
  refine sx_seq fun K59 k59 => sx_region ?_
  refine sx_pure rfl rfl rfl (px_build rfl (xbld28x  _)) ?_
  refine sx_pure rfl rfl rfl (px_build rfl (xbld44x  _)) ?_
  have f61 := fb4.ext cb6
  have f62 := f61.ext c17
  have f63 := f62.ext cb18
  have f64 := f63.chg cw20 (by omega)
  have f65 := f64.ext c24
  have f66 := f65.ext cb25
  have f67 := f66.chg cw27 (by omega)
  have f68 := f67.ext c51
  have f69 := f68.ext cb52
  have f70 := f69.chg cw54 (by omega)
  refine sx_store (vs := [.bool false, (.slice none 0 0)]) rfl rfl f70 rfl Try.sizeOf28 (Nat.le_of_ble_eq_true rfl) (one_cons rfl (one_cons rfl one_nil)) (fun w60 sw60 fw60 cw60 => ?_)
  have zw60 := cw60.size
  have gw60 : Blk w60 b4 [.bool false, (.slice none 0 0)] 28 := fw60
  have f72 := fb6.ext c17
  have f73 := f72.ext cb18
  have f74 := f73.chg cw20 (by omega)
  have f75 := f74.ext c24
  have f76 := f75.ext cb25
  have f77 := f76.chg cw27 (by omega)
  have f78 := f77.ext c51
  have f79 := f78.ext cb52
  have f80 := f79.chg cw54 (by omega)
  have f81 := f80.chg cw60 (by omega)
  refine sx_store (vs := [.bool false, (.slice none 0 0), (.slice none 0 0)]) rfl rfl f81 rfl Try.sizeOf44 (Nat.le_of_ble_eq_true rfl) (one_cons rfl (one_cons rfl (one_cons rfl one_nil))) (fun w71 sw71 fw71 cw71 => ?_)
  have zw71 := cw71.size
  have gw71 : Blk w71 b6 [.bool false, (.slice none 0 0), (.slice none 0 0)] 44 := fw71
  refine sa rfl rfl rfl rfl ?_
  refine wl_nil (q_n (k59 _ _ ?_))
  refine sx_retc ?_
  have f82 := gw60.chg cw71 (by omega)
  refine q_r (sx_ret3 Try.results23 ⟨_, rfl, f82.loadA (vs := [.bool false, (.slice none 0 0)]) (look_lit rfl) Try.isAgg28 Try.sizeOf28⟩ ⟨_, rfl, gw71.loadA (vs := [.bool false, (.slice none 0 0), (.slice none 0 0)]) (look_lit rfl) Try.isAgg44 Try.sizeOf44⟩ rfl ?_)
  rw [rRest_no (fun hh => by first | exact bcl hh.1 h75 | exact bcl hh.2.1 h75x1 | exact bcl hh.2.2 h75x2)]
  have q83 := Chg.step (l := 0) (h := 0) (Chg.zero (l := 0) (h := 0) ((((cb2.t cb4).t cb6).t c17).t cb18)) cw20 (by omega)
  have q84 := Chg.step (l := 0) (h := 0) q83 (c24.t cb25) (by omega)
  have q85 := Chg.step (l := 0) (h := 0) q84 cw27 (by omega)
  have q86 := Chg.step (l := 0) (h := 0) q85 (c51.t cb52) (by omega)
  have q87 := Chg.step (l := 0) (h := 0) q86 cw54 (by omega)
  have q88 := Chg.step (l := 0) (h := 0) q87 cw60 (by omega)
  have q89 := Chg.step (l := 0) (h := 0) q88 cw71 (by omega)
  exact ⟨_, _, _, w.heap.size, w.heap.size, w.heap.size, w.heap.size, w.heap.size, w.heap.size, rfl, Own.nil _ _ _ _ _, Own.nil _ _ _ _ _, Own.nil _ _ _ _ _, by omega, ⟨by simp, by simp, by simp⟩, q89⟩
 ·
  refine sx_guardT rfl rfl rfl ?_
  refine sm rfl rfl rfl rfl ?_
  refine sx_guardT rfl rfl rfl ?_
  refine sx_pure rfl rfl rfl (px_not rfl) ?_
  refine sx_pure rfl rfl rfl (px_pick rfl rfl) ?_
  refine sm rfl rfl rfl rfl ?_
  refine sx_tmpB (t := 36) rfl (fun h75x1 => ?_) (fun h75x1 => ?_)
  ·
   refine sx_guardF rfl rfl rfl rfl rfl rfl ?_
   refine sx_guardF rfl rfl rfl rfl rfl rfl ?_
   refine sx_pure rfl rfl rfl (px_pick rfl rfl) ?_
   refine wl_nil (q_n (k58 _ _ ?_))
   refine sx_sub (Sub.cons (t := 4) rfl (.cons (t := 5) rfl (.cons (t := 6) rfl (.cons (t := 7) rfl (.cons (t := 11) rfl (.cons (t := 39) rfl (.nil))))))) ?_
   refine sx_condT rfl ?_
   refine sx_seq fun K90 k90 => sx_region ?_
   refine sx_pure rfl rfl rfl (px_build rfl (xbld28x  _)) ?_
   refine sx_pure rfl rfl rfl (px_build rfl (xbld44x  _)) ?_
   have f92 := fb4.ext cb6
   have f93 := f92.ext c17
   have f94 := f93.ext cb18
   have f95 := f94.chg cw20 (by omega)
   have f96 := f95.ext c24
   have f97 := f96.ext cb25
   have f98 := f97.chg cw27 (by omega)
   have f99 := f98.ext c51
   have f100 := f99.ext cb52
   have f101 := f100.chg cw54 (by omega)
   refine sx_store (vs := [.bool false, (.slice none 0 0)]) rfl rfl f101 rfl Try.sizeOf28 (Nat.le_of_ble_eq_true rfl) (one_cons rfl (one_cons rfl one_nil)) (fun w91 sw91 fw91 cw91 => ?_)
   have zw91 := cw91.size
   have gw91 : Blk w91 b4 [.bool false, (.slice none 0 0)] 28 := fw91
   have f103 := fb6.ext c17
   have f104 := f103.ext cb18
   have f105 := f104.chg cw20 (by omega)
   have f106 := f105.ext c24
   have f107 := f106.ext cb25
   have f108 := f107.chg cw27 (by omega)
   have f109 := f108.ext c51
   have f110 := f109.ext cb52
   have f111 := f110.chg cw54 (by omega)
   have f112 := f111.chg cw91 (by omega)
   refine sx_store (vs := [.bool false, (.slice none 0 0), (.slice none 0 0)]) rfl rfl f112 rfl Try.sizeOf44 (Nat.le_of_ble_eq_true rfl) (one_cons rfl (one_cons rfl (one_cons rfl one_nil))) (fun w102 sw102 fw102 cw102 => ?_)
   have zw102 := cw102.size
   have gw102 : Blk w102 b6 [.bool false, (.slice none 0 0), (.slice none 0 0)] 44 := fw102
   refine sa rfl rfl rfl rfl ?_
   refine wl_nil (q_n (k90 _ _ ?_))
   refine sx_retc ?_
   have f113 := gw91.chg cw102 (by omega)
   refine q_r (sx_ret3 Try.results23 ⟨_, rfl, f113.loadA (vs := [.bool false, (.slice none 0 0)]) (look_lit rfl) Try.isAgg28 Try.sizeOf28⟩ ⟨_, rfl, gw102.loadA (vs := [.bool false, (.slice none 0 0), (.slice none 0 0)]) (look_lit rfl) Try.isAgg44 Try.sizeOf44⟩ rfl ?_)
   rw [rRest_no (fun hh => by first | exact bcl hh.1 h75 | exact bcl hh.2.1 h75x1 | exact bcl hh.2.2 h75x2)]
   have q114 := Chg.step (l := 0) (h := 0) (Chg.zero (l := 0) (h := 0) ((((cb2.t cb4).t cb6).t c17).t cb18)) cw20 (by omega)
   have q115 := Chg.step (l := 0) (h := 0) q114 (c24.t cb25) (by omega)
   have q116 := Chg.step (l := 0) (h := 0) q115 cw27 (by omega)
   have q117 := Chg.step (l := 0) (h := 0) q116 (c51.t cb52) (by omega)
   have q118 := Chg.step (l := 0) (h := 0) q117 cw54 (by omega)
   have q119 := Chg.step (l := 0) (h := 0) q118 cw91 (by omega)
   have q120 := Chg.step (l := 0) (h := 0) q119 cw102 (by omega)
   exact ⟨_, _, _, w.heap.size, w.heap.size, w.heap.size, w.heap.size, w.heap.size, w.heap.size, rfl, Own.nil _ _ _ _ _, Own.nil _ _ _ _ _, Own.nil _ _ _ _ _, by omega, ⟨by simp, by simp, by simp⟩, q120⟩
  ·
   refine sx_guardT rfl rfl rfl ?_
   refine sm rfl rfl rfl rfl ?_
   refine sx_guardT rfl rfl rfl ?_
   refine sx_pure rfl rfl rfl (px_not rfl) ?_
   refine sx_pure rfl rfl rfl (px_pick rfl rfl) ?_
   refine wl_nil (q_n (k58 _ _ ?_))
   refine sx_sub (Sub.cons (t := 4) rfl (.cons (t := 5) rfl (.cons (t := 6) rfl (.cons (t := 7) rfl (.cons (t := 11) rfl (.cons (t := 39) rfl (.nil))))))) ?_
   refine sx_condB rfl (fun h75x2 => ?_) (fun h75x2 => ?_)
   ·
    refine sx_seq fun K121 k121 => sx_region ?_
    refine sx_pure rfl rfl rfl (px_build rfl (xbld28x  _)) ?_
    refine sx_pure rfl rfl rfl (px_build rfl (xbld44x  _)) ?_
    have f123 := fb4.ext cb6
    have f124 := f123.ext c17
    have f125 := f124.ext cb18
    have f126 := f125.chg cw20 (by omega)
    have f127 := f126.ext c24
    have f128 := f127.ext cb25
    have f129 := f128.chg cw27 (by omega)
    have f130 := f129.ext c51
    have f131 := f130.ext cb52
    have f132 := f131.chg cw54 (by omega)
    refine sx_store (vs := [.bool false, (.slice none 0 0)]) rfl rfl f132 rfl Try.sizeOf28 (Nat.le_of_ble_eq_true rfl) (one_cons rfl (one_cons rfl one_nil)) (fun w122 sw122 fw122 cw122 => ?_)
    have zw122 := cw122.size
    have gw122 : Blk w122 b4 [.bool false, (.slice none 0 0)] 28 := fw122
    have f134 := fb6.ext c17
    have f135 := f134.ext cb18
    have f136 := f135.chg cw20 (by omega)
    have f137 := f136.ext c24
    have f138 := f137.ext cb25
    have f139 := f138.chg cw27 (by omega)
    have f140 := f139.ext c51
    have f141 := f140.ext cb52
    have f142 := f141.chg cw54 (by omega)
    have f143 := f142.chg cw122 (by omega)
    refine sx_store (vs := [.bool false, (.slice none 0 0), (.slice none 0 0)]) rfl rfl f143 rfl Try.sizeOf44 (Nat.le_of_ble_eq_true rfl) (one_cons rfl (one_cons rfl (one_cons rfl one_nil))) (fun w133 sw133 fw133 cw133 => ?_)
    have zw133 := cw133.size
    have gw133 : Blk w133 b6 [.bool false, (.slice none 0 0), (.slice none 0 0)] 44 := fw133
    refine sa rfl rfl rfl rfl ?_
    refine wl_nil (q_n (k121 _ _ ?_))
    refine sx_retc ?_
    have f144 := gw122.chg cw133 (by omega)
    refine q_r (sx_ret3 Try.results23 ⟨_, rfl, f144.loadA (vs := [.bool false, (.slice none 0 0)]) (look_lit rfl) Try.isAgg28 Try.sizeOf28⟩ ⟨_, rfl, gw133.loadA (vs := [.bool false, (.slice none 0 0), (.slice none 0 0)]) (look_lit rfl) Try.isAgg44 Try.sizeOf44⟩ rfl ?_)
    rw [rRest_no (fun hh => by first | exact bcl hh.1 h75 | exact bcl hh.2.1 h75x1 | exact bcl hh.2.2 h75x2)]
    have q145 := Chg.step (l := 0) (h := 0) (Chg.zero (l := 0) (h := 0) ((((cb2.t cb4).t cb6).t c17).t cb18)) cw20 (by omega)
    have q146 := Chg.step (l := 0) (h := 0) q145 (c24.t cb25) (by omega)
    have q147 := Chg.step (l := 0) (h := 0) q146 cw27 (by omega)
    have q148 := Chg.step (l := 0) (h := 0) q147 (c51.t cb52) (by omega)
    have q149 := Chg.step (l := 0) (h := 0) q148 cw54 (by omega)
    have q150 := Chg.step (l := 0) (h := 0) q149 cw122 (by omega)
    have q151 := Chg.step (l := 0) (h := 0) q150 cw133 (by omega)
    exact ⟨_, _, _, w.heap.size, w.heap.size, w.heap.size, w.heap.size, w.heap.size, w.heap.size, rfl, Own.nil _ _ _ _ _, Own.nil _ _ _ _ _, Own.nil _ _ _ _ _, by omega, ⟨by simp, by simp, by simp⟩, q151⟩
   ·
    refine sx_skip ?_
    refine q_n (k57 _ _ ?_)
    refine sx_seq fun K152 k152 => ?_
    have f153 := f36.ext c51
    have f154 := f153.ext cb52
    have f155 := f154.chg cw54 (by omega)
    have f156 := gw20.ext c24
    have f157 := f156.ext cb25
    have f158 := f157.chg cw27 (by omega)
    have f159 := f158.ext c51
    have f160 := f159.ext cb52
    have f161 := f160.chg cw54 (by omega)
    have f162 := gw27.ext c51
    have f163 := f162.ext cb52
    have f164 := f163.chg cw54 (by omega)
    have f165 := f42.ext c51
    have f166 := f165.ext cb52
    have f167 := f166.chg cw54 (by omega)
    have f168 := f48.ext c51
    have f169 := f168.ext cb52
    have f170 := f169.chg cw54 (by omega)
    have f171 := f23.ext c24
    have f172 := f171.ext cb25
    have f173 := f172.chg cw27 (by omega)
    have f174 := f173.ext c51
    have f175 := f174.ext cb52
    have f176 := f175.chg cw54 (by omega)
    have f177 := f49.ext c51
    have f178 := f177.ext cb52
    have f179 := f178.chg cw54 (by omega)
    have f180 := f50.ext c51
    have f181 := f180.ext cb52
    have f182 := f181.chg cw54 (by omega)
    have f183 := f56.chg cw54 (by omega)
    have f184 := f55.chg cw54 (by omega)
    refine dx_region (fun w' => Chg b4 (b6 + 1) w54 w') (by kernel_rfl) (Chg.zero (Chg.drew _)) ?_
    have d185 := Chg.drew w54
    have s185 : Chg b4 (b6 + 1) w54 (World.drew w54) := Chg.zero (Chg.drew _)
    have y185 : (World.drew w54).heap.size = w54.heap.size := rfl
    generalize World.drew w54 = w185 at *
    have zw185 := d185.size
    refine dx_take 0 rfl rfl rfl rfl (by kernel_rfl) (by kernel_rfl) (by kernel_rfl) s185 (fun _ hS => px_load rfl ((f161.chg hS (by omega)).loadA (vs := [.bool ((rRound n1 z1 y1 m).1), s17]) (look_lit rfl) Try.isAgg28 Try.sizeOf28)) ?_
    refine dx_take 1 rfl rfl rfl rfl (by kernel_rfl) (by kernel_rfl) (by kernel_rfl) s185 (fun _ hS => px_load rfl ((gw54.chg hS (by omega)).loadA (vs := [.bool ((rSub n1 z1 y1 ((rInt ((rRound n1 z1 y1 m).1) ((rRound n1 z1 y1 m).2.1)).1) ((rInt ((rRound n1 z1 y1 m).1) ((rRound n1 z1 y1 m).2.1)).2.1) ((rInt ((rRound n1 z1 y1 m).1) ((rRound n1 z1 y1 m).2.1)).2.2.1)).1), s51, t51]) (look_lit rfl) Try.isAgg44 Try.sizeOf44)) ?_
    refine dx_eff 2 rfl (by kernel_rfl) ?_
    have f187 := fb4.ext cb6
    have f188 := f187.ext c17
    have f189 := f188.ext cb18
    have f190 := f189.chg cw20 (by omega)
    have f191 := f190.ext c24
    have f192 := f191.ext cb25
    have f193 := f192.chg cw27 (by omega)
    have f194 := f193.ext c51
    have f195 := f194.ext cb52
    have f196 := f195.chg cw54 (by omega)
    have f197 := f196.ext d185
    have f198 := f176.ext d185
    refine sx_store (vs := [.bool ((rRound n1 z1 y1 m).1), s17]) rfl rfl f197 rfl Try.sizeOf28 (Nat.le_of_ble_eq_true rfl) (one_cons rfl (one_cons f198.one one_nil)) (fun w186 sw186 fw186 cw186 => ?_)
    have zw186 := cw186.size
    have gw186 : Blk w186 b4 [.bool ((rRound n1 z1 y1 m).1), s17] 28 := fw186
    have q200 := Chg.step (l := b4) (h := (b6 + 1)) (Chg.zero (l := b4) (h := (b6 + 1)) d185) cw186 (by omega)
    have s199 : Chg b4 (b6 + 1) w54 w186 := q200
    refine wl_nil ?_
    refine dx_next s199 ?_
    refine dx_eff 3 rfl (by kernel_rfl) ?_
    have f202 := fb6.ext c17
    have f203 := f202.ext cb18
    have f204 := f203.chg cw20 (by omega)
    have f205 := f204.ext c24
    have f206 := f205.ext cb25
    have f207 := f206.chg cw27 (by omega)
    have f208 := f207.ext c51
    have f209 := f208.ext cb52
    have f210 := f209.chg cw54 (by omega)
    have f211 := f210.ext d185
    have f212 := f211.chg cw186 (by omega)
    have f213 := f184.ext d185
    have f214 := f213.chg cw186 (by omega)
    have f215 := f183.ext d185
    have f216 := f215.chg cw186 (by omega)
    refine sx_store (vs := [.bool ((rSub n1 z1 y1 ((rInt ((rRound n1 z1 y1 m).1) ((rRound n1 z1 y1 m).2.1)).1) ((rInt ((rRound n1 z1 y1 m).1) ((rRound n1 z1 y1 m).2.1)).2.1) ((rInt ((rRound n1 z1 y1 m).1) ((rRound n1 z1 y1 m).2.1)).2.2.1)).1), s51, t51]) rfl rfl f212 rfl Try.sizeOf44 (Nat.le_of_ble_eq_true rfl) (one_cons rfl (one_cons f216.one (one_cons f214.one one_nil))) (fun w201 sw201 fw201 cw201 => ?_)
    have zw201 := cw201.size
    have gw201 : Blk w201 b6 [.bool ((rSub n1 z1 y1 ((rInt ((rRound n1 z1 y1 m).1) ((rRound n1 z1 y1 m).2.1)).1) ((rInt ((rRound n1 z1 y1 m).1) ((rRound n1 z1 y1 m).2.1)).2.1) ((rInt ((rRound n1 z1 y1 m).1) ((rRound n1 z1 y1 m).2.1)).2.2.1)).1), s51, t51] 44 := fw201
    have q218 := Chg.step (l := b4) (h := (b6 + 1)) (Chg.zero (l := b4) (h := (b6 + 1)) d185) cw186 (by omega)
    have q219 := Chg.step (l := b4) (h := (b6 + 1)) q218 cw201 (by omega)
    have s217 : Chg b4 (b6 + 1) w54 w201 := q219
    refine wl_nil ?_
    refine dx_next s217 ?_
    refine dx_take 4 rfl rfl rfl rfl (by kernel_rfl) (by kernel_rfl) (by kernel_rfl) s217 (fun _ hS => px_assign rfl) ?_
    refine dx_done (by kernel_rfl) ?_
    refine q_n (k152 _ _ ?_)
    refine sx_retc ?_
    have f220 := gw186.chg cw201 (by omega)
    refine sx_ret3 Try.results23 ⟨_, rfl, f220.loadA (vs := [.bool ((rRound n1 z1 y1 m).1), s17]) (look_lit rfl) Try.isAgg28 Try.sizeOf28⟩ ⟨_, rfl, gw201.loadA (vs := [.bool ((rSub n1 z1 y1 ((rInt ((rRound n1 z1 y1 m).1) ((rRound n1 z1 y1 m).2.1)).1) ((rInt ((rRound n1 z1 y1 m).1) ((rRound n1 z1 y1 m).2.1)).2.1) ((rInt ((rRound n1 z1 y1 m).1) ((rRound n1 z1 y1 m).2.1)).2.2.1)).1), s51, t51]) (look_lit rfl) Try.isAgg44 Try.sizeOf44⟩ rfl ?_
    have hrl := rRest_len (n := n1) (z := z1) (y := y1) (m := m)
    rw [rRest_ok (bnot_f h75) (bnot_f h75x1) (bnot_f h75x2)] at hrl ⊢
    have q221 := Chg.step (l := 0) (h := 0) (Chg.zero (l := 0) (h := 0) ((((cb2.t cb4).t cb6).t c17).t cb18)) cw20 (by omega)
    have q222 := Chg.step (l := 0) (h := 0) q221 (c24.t cb25) (by omega)
    have q223 := Chg.step (l := 0) (h := 0) q222 cw27 (by omega)
    have q224 := Chg.step (l := 0) (h := 0) q223 (c51.t cb52) (by omega)
    have q225 := Chg.step (l := 0) (h := 0) q224 cw54 (by omega)
    have q226 := Chg.step (l := 0) (h := 0) q225 d185 (by omega)
    have q227 := Chg.step (l := 0) (h := 0) q226 cw186 (by omega)
    have q228 := Chg.step (l := 0) (h := 0) q227 cw201 (by omega)
    have f229 := f198.chg cw186 (by omega)
    have f230 := f229.chg cw201 (by omega)
    have f231 := f216.chg cw201 (by omega)
    have f232 := f214.chg cw201 (by omega)
    exact ⟨_, _, _, _, _, _, _, _, _, rfl, f230, f231, f232, by omega, hrl, q228⟩

theorem c_iRatRound {w : World} {n1 : Bool} {v1 : Value} {lv1 uv1 : Nat} {z1 : List Int} {d1 : Value} {ld1 ud1 : Nat} {y1 : List Int} {m : Int} (hv1 : Sl w lv1 uv1 v1 (z1)) (hd1 : Sl w ld1 ud1 d1 (y1)) (h63 : z1.length ≤ 4611686018427387904 ∧ y1.length ≤ 4611686018427387904) :
  Ret Try.prog 65 [.agg #[.bool n1, v1, d1], .int .i64 m] w fun v w' => ∃ s, v = .tuple #[.agg #[.bool ((rRound n1 z1 y1 m).1), s], .bool ((rRound n1 z1 y1 m).2.2)] ∧ OwnI w' w.heap.size w'.heap.size s intT ((rRound n1 z1 y1 m).2.1) ∧ ((rRound n1 z1 y1 m).2.1.length ≤ 19) ∧ Chg 0 0 w w' := by
 have hv10 := hv1.fit
 have hd10 := hd1.fit
 refine sx_enter Try.func65 rfl Try.ntmps65 (Nat.le_of_ble_eq_true rfl) ?_
 refine sx_seq fun K1 k1 => sx_region ?_
 refine sx_box [.bool n1, v1, d1] rfl rfl rfl (fun b2 w3 eb2 sb2 fb2 cb2 => ?_)
 have zw3 := cb2.size
 refine sx_alloc [.bool false, (.slice none 0 0)] rfl Try.zeroValue28 rfl (fun b4 w5 eb4 sb4 fb4 cb4 => ?_)
 have zw5 := cb4.size
 refine sa rfl rfl rfl rfl ?_
 refine wl_nil (q_n (k1 _ _ ?_))
 refine sx_seq fun K6 k6 => ?_
 refine sx_seq fun K7 k7 => sx_region ?_
 have f8 := fb2.ext cb4
 refine sx_pure rfl rfl rfl (px_load rfl (f8.loadA (vs := [.bool n1, v1, d1]) (look_lit rfl) Try.isAgg44 Try.sizeOf44)) ?_
 have f9 := hv10.ext cb2
 have f10 := f9.ext cb4
 have f11 := hd10.ext cb2
 have f12 := f11.ext cb4
 refine sx_call rfl rfl Try.call56 (c_iRatOk f10 f12 (by omega)) (fun v13 w13 p13 => ?_)
 obtain ⟨rfl, c13⟩ := p13
 have zw13 := c13.size
 refine sx_pure rfl rfl rfl (px_notP rfl) ?_
 refine sm rfl rfl rfl rfl ?_
 refine sx_tmpP (t := 9) rfl (fun h74 => ?_) (fun h74 => ?_)
 ·
  refine sx_guardF rfl rfl rfl rfl rfl rfl ?_
  refine sx_guardF rfl rfl rfl rfl rfl rfl ?_
  refine sx_guardF rfl rfl rfl rfl rfl rfl ?_
  refine sx_pure rfl rfl rfl (px_pick rfl rfl) ?_
  refine wl_nil (q_n (k7 _ _ ?_))
  refine sx_condT rfl ?_
  refine sx_seq fun K14 k14 => sx_region ?_
  refine sx_pure rfl rfl rfl (px_build rfl (xbld28x  _)) ?_
  have f16 := fb4.ext c13
  refine sx_store (vs := [.bool false, (.slice none 0 0)]) rfl rfl f16 rfl Try.sizeOf28 (Nat.le_of_ble_eq_true rfl) (one_cons rfl (one_cons rfl one_nil)) (fun w15 sw15 fw15 cw15 => ?_)
  have zw15 := cw15.size
  have gw15 : Blk w15 b4 [.bool false, (.slice none 0 0)] 28 := fw15
  refine sa rfl rfl rfl rfl ?_
  refine wl_nil (q_n (k14 _ _ ?_))
  refine sx_retc ?_
  refine q_r (sx_ret2 Try.results65 ⟨_, rfl, gw15.loadA (vs := [.bool false, (.slice none 0 0)]) (look_lit rfl) Try.isAgg28 Try.sizeOf28⟩ rfl ?_)
  rw [rRound_no (by grind)]
  have q17 := Chg.step (l := 0) (h := 0) (Chg.zero (l := 0) (h := 0) ((cb2.t cb4).t c13)) cw15 (by omega)
  exact ⟨_, rfl, Own.nil _ _ _ _ _, by simp [noS], q17⟩
 ·
  refine sx_guardT rfl rfl rfl ?_
  refine sm rfl rfl rfl rfl ?_
  refine sx_guardT rfl rfl rfl ?_
  refine sx_call rfl rfl Try.call57 (c_isMode) (fun v18 w18 p18 => ?_)
  obtain ⟨rfl, c18⟩ := p18
  have zw18 := c18.size
  refine sx_guardT rfl rfl rfl ?_
  refine sx_pure rfl rfl rfl (px_notP rfl) ?_
  refine sx_pure rfl rfl rfl (px_pick rfl rfl) ?_
  refine wl_nil (q_n (k7 _ _ ?_))
  refine sx_condP rfl (fun h74x1 => ?_) (fun h74x1 => ?_)
  ·
   refine sx_seq fun K19 k19 => sx_region ?_
   refine sx_pure rfl rfl rfl (px_build rfl (xbld28x  _)) ?_
   have f21 := fb4.ext c13
   have f22 := f21.ext c18
   refine sx_store (vs := [.bool false, (.slice none 0 0)]) rfl rfl f22 rfl Try.sizeOf28 (Nat.le_of_ble_eq_true rfl) (one_cons rfl (one_cons rfl one_nil)) (fun w20 sw20 fw20 cw20 => ?_)
   have zw20 := cw20.size
   have gw20 : Blk w20 b4 [.bool false, (.slice none 0 0)] 28 := fw20
   refine sa rfl rfl rfl rfl ?_
   refine wl_nil (q_n (k19 _ _ ?_))
   refine sx_retc ?_
   refine q_r (sx_ret2 Try.results65 ⟨_, rfl, gw20.loadA (vs := [.bool false, (.slice none 0 0)]) (look_lit rfl) Try.isAgg28 Try.sizeOf28⟩ rfl ?_)
   rw [rRound_no (by grind)]
   have q23 := Chg.step (l := 0) (h := 0) (Chg.zero (l := 0) (h := 0) (((cb2.t cb4).t c13).t c18)) cw20 (by omega)
   exact ⟨_, rfl, Own.nil _ _ _ _ _, by simp [noS], q23⟩
  ·
   have hR := Decidable.not_not.1 h74
   have hM := Decidable.not_not.1 h74x1
   obtain ⟨x1, e1, rfl, rfl, rfl, he0, hx1, he1, hg1⟩ := hR.rat
   refine sx_skip ?_
   refine q_n (k6 _ _ ?_)
   refine sx_seq fun K24 k24 => sx_region ?_
   refine sx_pure rfl rfl rfl (px_field rfl xfld44x0) ?_
   have f25 := f8.ext c13
   have f26 := f25.ext c18
   refine sx_pure rfl rfl rfl (px_load rfl (f26.loadA (vs := [.bool (ng x1), v1]) (look_lit rfl) Try.isAgg28 Try.sizeOf28)) ?_
   refine sx_pure rfl rfl rfl (px_field rfl xfld44x1) ?_
   refine sx_pure rfl rfl rfl (px_load rfl (f26.load1 rfl Try.isAgg22)) ?_
   refine sm rfl rfl rfl rfl ?_
   have f27 := f10.ext c13
   have f28 := f27.ext c18
   have f29 := f12.ext c13
   have f30 := f29.ext c18
   refine sx_call rfl rfl Try.call58 (c_roundQuotient f28 f30 (by omega) (by omega) (by omega) (by omega)) (fun v31 w31 p31 => ?_)
   obtain ⟨s31, rfl, os_31, c31⟩ := p31
   have zw31 := c31.size
   have f33 := fb4.ext c13
   have f34 := f33.ext c18
   have f35 := f34.ext c31
   refine sx_store (vs := [.bool (ng (rqI x1 e1 m)), s31]) rfl rfl f35 rfl Try.sizeOf28 (Nat.le_of_ble_eq_true rfl) (one_cons rfl (one_cons os_31.one one_nil)) (fun w32 sw32 fw32 cw32 => ?_)
   have zw32 := cw32.size
   have gw32 : Blk w32 b4 [.bool (ng (rqI x1 e1 m)), s31] 28 := fw32
   refine sa rfl rfl rfl rfl ?_
   refine wl_nil (q_n (k24 _ _ ?_))
   refine sx_sub (Sub.cons (t := 4) rfl (.cons (t := 5) rfl (.nil))) ?_
   refine sx_retc ?_
   refine sx_ret2 Try.results65 ⟨_, rfl, gw32.loadA (vs := [.bool (ng (rqI x1 e1 m)), s31]) (look_lit rfl) Try.isAgg28 Try.sizeOf28⟩ rfl ?_
   have hrl := rRound_len (n := ng x1) (z := dg x1.natAbs) (y := dg e1) (m := m)
   rw [rRound_ok ⟨hR, hM⟩] at hrl ⊢
   have q36 := Chg.step (l := 0) (h := 0) (Chg.zero (l := 0) (h := 0) ((((cb2.t cb4).t c13).t c18).t c31)) cw32 (by omega)
   have f37 := os_31.chg cw32 (by omega)
   exact ⟨_, rfl, (Own.mono f37 (by omega) (by omega)), hrl, q36⟩

theorem c_iIntOf {w : World} {n : Int} (hn : -9223372036854775808 ≤ n ∧ n ≤ 9223372036854775807) :
  Ret Try.prog 105 [.int .i64 n] w fun v w' => ∃ s, v = .agg #[.bool (ng n), s] ∧ OwnI w' w.heap.size w'.heap.size s intT (dg (n).natAbs) ∧ Chg 0 0 w w' := by
 refine sx_enter Try.func105 rfl Try.ntmps105 (Nat.le_of_ble_eq_true rfl) ?_
 refine sx_seq fun K1 k1 => sx_region ?_
 refine sx_alloc [.bool false, (.slice none 0 0)] rfl Try.zeroValue28 rfl (fun b2 w3 eb2 sb2 fb2 cb2 => ?_)
 have zw3 := cb2.size
 refine wl_nil (q_n (k1 _ _ ?_))
 refine sx_seq fun K4 k4 => ?_
 refine sx_seq fun K5 k5 => sx_region ?_
 refine sm rfl rfl rfl rfl ?_
 refine sx_pure rfl rfl rfl (px_lt rfl rfl) ?_
 refine wl_nil (q_n (k5 _ _ ?_))
 refine sx_condP rfl (fun h23 => ?_) (fun h23 => ?_)
 ·
  refine sx_seq fun K6 k6 => sx_region ?_
  refine sm rfl rfl rfl rfl ?_
  refine sx_pure rfl rfl rfl (px_convUn Try.underlying3 Try.underlying102 rfl (by omega)) ?_
  refine sx_pure rfl rfl rfl (px_negU rfl (by omega)) ?_
  refine sx_call rfl rfl Try.call111 (c_natOf (by omega)) (fun v7 w7 p7 => ?_)
  obtain ⟨s7, rfl, os_7, c7⟩ := p7
  have zw7 := c7.size
  refine sx_pure rfl rfl rfl (px_build rfl (xbld28x0x1 rfl os_7.one _)) ?_
  have f9 := fb2.ext c7
  refine sx_store (vs := [.bool true, v7]) rfl rfl f9 rfl Try.sizeOf28 (Nat.le_of_ble_eq_true rfl) (one_cons rfl (one_cons os_7.one one_nil)) (fun w8 sw8 fw8 cw8 => ?_)
  have zw8 := cw8.size
  have gw8 : Blk w8 b2 [.bool true, v7] 28 := fw8
  refine wl_nil (q_n (k6 _ _ ?_))
  refine sx_retc ?_
  refine q_r (sx_ret1 Try.results105 ⟨_, rfl, gw8.loadA (vs := [.bool true, v7]) (look_lit rfl) Try.isAgg28 Try.sizeOf28⟩ ?_)
  have e1 : (18446744073709551616 - (n + 18446744073709551616)).toNat = n.natAbs := by omega
  have e2 : ng n = true := ng_true.2 (by omega)
  rw [e2, ← e1]
  have q10 := Chg.step (l := 0) (h := 0) (Chg.zero (l := 0) (h := 0) (cb2.t c7)) cw8 (by omega)
  have f11 := os_7.chg cw8 (by omega)
  exact ⟨_, rfl, (Own.mono f11 (by omega) (by omega)), q10⟩
 ·
  refine sx_skip ?_
  refine q_n (k4 _ _ ?_)
  refine sx_seq fun K12 k12 => sx_region ?_
  refine sm rfl rfl rfl rfl ?_
  refine sx_pure rfl rfl rfl (px_convU Try.underlying3 Try.underlying102 rfl (by omega)) ?_
  refine sx_call rfl rfl Try.call111 (c_natOf (by omega)) (fun v13 w13 p13 => ?_)
  obtain ⟨s13, rfl, os_13, c13⟩ := p13
  have zw13 := c13.size
  refine sx_pure rfl rfl rfl (px_build rfl (xbld28x0x1 rfl os_13.one _)) ?_
  have f15 := fb2.ext c13
  refine sx_store (vs := [.bool false, v13]) rfl rfl f15 rfl Try.sizeOf28 (Nat.le_of_ble_eq_true rfl) (one_cons rfl (one_cons os_13.one one_nil)) (fun w14 sw14 fw14 cw14 => ?_)
  have zw14 := cw14.size
  have gw14 : Blk w14 b2 [.bool false, v13] 28 := fw14
  refine wl_nil (q_n (k12 _ _ ?_))
  refine sx_retc ?_
  refine sx_ret1 Try.results105 ⟨_, rfl, gw14.loadA (vs := [.bool false, v13]) (look_lit rfl) Try.isAgg28 Try.sizeOf28⟩ ?_
  have e1 : n.toNat = n.natAbs := by omega
  have e2 : ng n = false := ng_false.2 (by omega)
  rw [e2, ← e1]
  have q16 := Chg.step (l := 0) (h := 0) (Chg.zero (l := 0) (h := 0) (cb2.t c13)) cw14 (by omega)
  have f17 := os_13.chg cw14 (by omega)
  exact ⟨_, rfl, (Own.mono f17 (by omega) (by omega)), q16⟩

theorem c_intsOk {w : World} {n1 : Bool} {v1 : Value} {lv1 uv1 : Nat} {z1 : List Int} {n2 : Bool} {v2 : Value} {lv2 uv2 : Nat} {z2 : List Int} (hv1 : Sl w lv1 uv1 v1 (z1)) (hv2 : Sl w lv2 uv2 v2 (z2)) (h63 : z1.length ≤ 4611686018427387904 ∧ z2.length ≤ 4611686018427387904) :
  Ret Try.prog 123 [.agg #[.bool n1, v1], .agg #[.bool n2, v2]] w fun v w' => v = .bool (decide (IOk n1 z1 ∧ IOk n2 z2)) ∧ Chg 0 0 w w' := by
 have hv10 := hv1.fit
 have hv20 := hv2.fit
 refine sx_enter Try.func123 rfl Try.ntmps123 (Nat.le_of_ble_eq_true rfl) ?_
 refine sx_seq fun K1 k1 => sx_region ?_
 refine sx_box [.bool n1, v1] rfl rfl rfl (fun b2 w3 eb2 sb2 fb2 cb2 => ?_)
 have zw3 := cb2.size
 refine sx_box [.bool n2, v2] rfl rfl rfl (fun b4 w5 eb4 sb4 fb4 cb4 => ?_)
 have zw5 := cb4.size
 refine sa rfl rfl rfl rfl ?_
 refine wl_nil (q_n (k1 _ _ ?_))
 refine sx_seq fun K6 k6 => sx_region ?_
 have f7 := fb2.ext cb4
 refine sx_pure rfl rfl rfl (px_load rfl (f7.loadA (vs := [.bool n1, v1]) (look_lit rfl) Try.isAgg28 Try.sizeOf28)) ?_
 have f8 := hv10.ext cb2
 have f9 := f8.ext cb4
 refine sx_call rfl rfl Try.call75 (c_iIntOk f9 (by omega)) (fun v10 w10 p10 => ?_)
 obtain ⟨rfl, c10⟩ := p10
 have zw10 := c10.size
 refine sm rfl rfl rfl rfl ?_
 refine sx_tmpP (t := 7) rfl (fun h13 => ?_) (fun h13 => ?_)
 ·
  refine sx_guardT rfl rfl rfl ?_
  have f11 := fb4.ext c10
  refine sx_pure rfl rfl rfl (px_load rfl (f11.loadA (vs := [.bool n2, v2]) (look_lit rfl) Try.isAgg28 Try.sizeOf28)) ?_
  refine sx_guardT rfl rfl rfl ?_
  have f12 := hv20.ext cb2
  have f13 := f12.ext cb4
  have f14 := f13.ext c10
  refine sx_call rfl rfl Try.call75 (c_iIntOk f14 (by omega)) (fun v15 w15 p15 => ?_)
  obtain ⟨rfl, c15⟩ := p15
  have zw15 := c15.size
  refine sx_pure rfl rfl rfl (px_pick rfl rfl) ?_
  refine sa rfl rfl rfl rfl ?_
  refine wl_nil (q_n (k6 _ _ ?_))
  refine sx_retc ?_
  refine sx_ret1 Try.results123 rfl ?_
  exact ⟨(by first | exact bTrue (by grind) | exact bFalse (by grind) | exact bIff (by grind)), (((cb2.t cb4).t c10).t c15)⟩
 ·
  refine sx_guardF rfl rfl rfl rfl rfl rfl ?_
  refine sx_guardF rfl rfl rfl rfl rfl rfl ?_
  refine sx_pure rfl rfl rfl (px_pick rfl rfl) ?_
  refine sa rfl rfl rfl rfl ?_
  refine wl_nil (q_n (k6 _ _ ?_))
  refine sx_retc ?_
  refine sx_ret1 Try.results123 rfl ?_
  exact ⟨(by first | exact bTrue (by grind) | exact bFalse (by grind) | exact bIff (by grind)), ((cb2.t cb4).t c10)⟩

theorem c_reduce {w : World} {n : Bool} {va : Value} {lva uva : Nat} {m : Nat} {vb : Value} {lvb uvb : Nat} {d : Nat} (hva : Sl w lva uva va (dg m)) (hvb : Sl w lvb uvb vb (dg d)) (hbm : (dg m).length ≤ 400) (hbd : (dg d).length ≤ 400) (hd0 : 0 < d) :
  Ret Try.prog 110 [.agg #[.bool n, va], vb] w fun v w' => ∃ s t ls us lt ut, v = .tuple #[.agg #[.bool ((rR (sgI n m) d).1), s, t], .bool ((rR (sgI n m) d).2.2.2)] ∧ OwnI w' (ls) (us) s intT ((rR (sgI n m) d).2.1) ∧ OwnI w' (lt) (ut) t intT ((rR (sgI n m) d).2.2.1) ∧ (w.heap.size ≤ ls ∧ us ≤ w'.heap.size ∧ w.heap.size ≤ lt ∧ ut ≤ w'.heap.size ∧ (us ≤ lt ∨ ut ≤ ls)) ∧ ((rR (sgI n m) d).2.1.length ≤ 18 ∧ (rR (sgI n m) d).2.2.1.length ≤ 18) ∧ Chg 0 0 w w' := by
 have hva0 := hva.fit
 have hvb0 := hvb.fit
 have hgp := gcd_pos_r (m := m) hd0
 have lg := gcd_le_left (m := m) (n := d) (k := max (dg m).length (dg d).length) (by omega) (by omega)
 have lq1 := len_div m (Nat.gcd m d)
 have lq2 := len_div d (Nat.gcd m d)
 refine sx_enter Try.func110 rfl Try.ntmps110 (Nat.le_of_ble_eq_true rfl) ?_
 refine sx_seq fun K1 k1 => sx_region ?_
 refine sx_box [.bool n, va] rfl rfl rfl (fun b2 w3 eb2 sb2 fb2 cb2 => ?_)
 have zw3 := cb2.size
 refine sx_alloc [.bool false, (.slice none 0 0), (.slice none 0 0)] rfl Try.zeroValue44 rfl (fun b4 w5 eb4 sb4 fb4 cb4 => ?_)
 have zw5 := cb4.size
 refine sa rfl rfl rfl rfl ?_
 refine wl_nil (q_n (k1 _ _ ?_))
 refine sx_seq fun K6 k6 => sx_region ?_
 refine sx_pure rfl rfl rfl (px_field rfl xfld28x1) ?_
 have f7 := fb2.ext cb4
 refine sx_pure rfl rfl rfl (px_load rfl (f7.load1 rfl Try.isAgg22)) ?_
 refine sm rfl rfl rfl rfl ?_
 have f8 := hva0.ext cb2
 have f9 := f8.ext cb4
 have f10 := hvb0.ext cb2
 have f11 := f10.ext cb4
 refine sx_call rfl rfl Try.call95 (c_natGcd f9 f11 (by omega) (by omega)) (fun v12 w12 p12 => ?_)
 obtain ⟨s12, rfl, os_12, c12⟩ := p12
 have zw12 := c12.size
 refine sa rfl rfl rfl rfl ?_
 refine wl_nil (q_n (k6 _ _ ?_))
 refine sx_seq fun K13 k13 => sx_region ?_
 refine sx_pure rfl rfl rfl (px_field rfl xfld28x1) ?_
 have f14 := f7.ext c12
 refine sx_pure rfl rfl rfl (px_load rfl (f14.load1 rfl Try.isAgg22)) ?_
 refine sm rfl rfl rfl rfl ?_
 have f15 := f9.ext c12
 refine sx_call rfl rfl Try.call43 (c_natDiv f15 os_12.sv (by omega) (by omega) (hgp)) (fun v16 w16 p16 => ?_)
 obtain ⟨s16, t16, rfl, os_16, ot_16, c16⟩ := p16
 have zw16 := c16.size
 refine sm rfl rfl rfl rfl ?_
 refine sx_pure rfl rfl rfl (px_extract (vs := [s16, t16]) rfl rfl) ?_
 refine sx_pure rfl rfl rfl (px_extract (vs := [s16, t16]) rfl rfl) ?_
 refine sa rfl rfl rfl rfl ?_
 refine sa rfl rfl rfl rfl ?_
 refine wl_nil (q_n (k13 _ _ ?_))
 refine sx_sub (Sub.cons (t := 1) rfl (.cons (t := 2) rfl (.cons (t := 4) rfl (.cons (t := 5) rfl (.cons (t := 6) rfl (.cons (t := 7) rfl (.nil))))))) ?_
 refine sx_seq fun K17 k17 => sx_region ?_
 refine sm rfl rfl rfl rfl ?_
 refine sm rfl rfl rfl rfl ?_
 have f18 := f11.ext c12
 have f19 := f18.ext c16
 have f20 := os_12.ext c16
 refine sx_call rfl rfl Try.call43 (c_natDiv f19 f20.sv (by omega) (by omega) (hgp)) (fun v21 w21 p21 => ?_)
 obtain ⟨s21, t21, rfl, os_21, ot_21, c21⟩ := p21
 have zw21 := c21.size
 refine sm rfl rfl rfl rfl ?_
 refine sx_pure rfl rfl rfl (px_extract (vs := [s21, t21]) rfl rfl) ?_
 refine sx_pure rfl rfl rfl (px_extract (vs := [s21, t21]) rfl rfl) ?_
 refine sa rfl rfl rfl rfl ?_
 refine sa rfl rfl rfl rfl ?_
 refine wl_nil (q_n (k17 _ _ ?_))
 refine sx_seq fun K22 k22 => ?_
 refine sx_seq fun K23 k23 => sx_region ?_
 refine sm rfl rfl rfl rfl ?_
 have f24 := os_16.ext c21
 refine sx_pure rfl rfl rfl (px_len rfl Try.underlying22 f24.sv) ?_
 refine sx_pure rfl rfl rfl (px_gt rfl rfl) ?_
 refine sm rfl rfl rfl rfl ?_
 refine sx_tmpP (t := 31) rfl (fun h26 => ?_) (fun h26 => ?_)
 ·
  refine sx_guardF rfl rfl rfl rfl rfl rfl ?_
  refine sx_guardF rfl rfl rfl rfl rfl rfl ?_
  refine sx_guardF rfl rfl rfl rfl rfl rfl ?_
  refine sx_pure rfl rfl rfl (px_pick rfl rfl) ?_
  refine wl_nil (q_n (k23 _ _ ?_))
  refine sx_sub (Sub.cons (t := 2) rfl (.cons (t := 4) rfl (.cons (t := 5) rfl (.cons (t := 7) rfl (.cons (t := 9) rfl (.cons (t := 35) rfl (.nil))))))) ?_
  refine sx_condT rfl ?_
  refine sx_seq fun K25 k25 => sx_region ?_
  refine sx_pure rfl rfl rfl (px_build rfl (xbld44x  _)) ?_
  have f27 := fb4.ext c12
  have f28 := f27.ext c16
  have f29 := f28.ext c21
  refine sx_store (vs := [.bool false, (.slice none 0 0), (.slice none 0 0)]) rfl rfl f29 rfl Try.sizeOf44 (Nat.le_of_ble_eq_true rfl) (one_cons rfl (one_cons rfl (one_cons rfl one_nil))) (fun w26 sw26 fw26 cw26 => ?_)
  have zw26 := cw26.size
  have gw26 : Blk w26 b4 [.bool false, (.slice none 0 0), (.slice none 0 0)] 44 := fw26
  refine sa rfl rfl rfl rfl ?_
  refine wl_nil (q_n (k25 _ _ ?_))
  refine sx_retc ?_
  refine q_r (sx_ret2 Try.results110 ⟨_, rfl, gw26.loadA (vs := [.bool false, (.slice none 0 0), (.slice none 0 0)]) (look_lit rfl) Try.isAgg44 Try.sizeOf44⟩ rfl ?_)
  rw [rR_no (fun h => by omega)]
  have q30 := Chg.step (l := 0) (h := 0) (Chg.zero (l := 0) (h := 0) ((((cb2.t cb4).t c12).t c16).t c21)) cw26 (by omega)
  exact ⟨_, _, w.heap.size, w.heap.size, w.heap.size, w.heap.size, rfl, Own.nil _ _ _ _ _, Own.nil _ _ _ _ _, by omega, ⟨by simp [noR], by simp [noR]⟩, q30⟩
 ·
  refine sx_guardT rfl rfl rfl ?_
  refine sm rfl rfl rfl rfl ?_
  refine sx_guardT rfl rfl rfl ?_
  refine sx_pure rfl rfl rfl (px_len rfl Try.underlying22 os_21.sv) ?_
  refine sx_guardT rfl rfl rfl ?_
  refine sx_pure rfl rfl rfl (px_gt rfl rfl) ?_
  refine sx_pure rfl rfl rfl (px_pick rfl rfl) ?_
  refine wl_nil (q_n (k23 _ _ ?_))
  refine sx_sub (Sub.cons (t := 2) rfl (.cons (t := 4) rfl (.cons (t := 5) rfl (.cons (t := 7) rfl (.cons (t := 9) rfl (.cons (t := 35) rfl (.nil))))))) ?_
  refine sx_condP rfl (fun h26x1 => ?_) (fun h26x1 => ?_)
  ·
   refine sx_seq fun K31 k31 => sx_region ?_
   refine sx_pure rfl rfl rfl (px_build rfl (xbld44x  _)) ?_
   have f33 := fb4.ext c12
   have f34 := f33.ext c16
   have f35 := f34.ext c21
   refine sx_store (vs := [.bool false, (.slice none 0 0), (.slice none 0 0)]) rfl rfl f35 rfl Try.sizeOf44 (Nat.le_of_ble_eq_true rfl) (one_cons rfl (one_cons rfl (one_cons rfl one_nil))) (fun w32 sw32 fw32 cw32 => ?_)
   have zw32 := cw32.size
   have gw32 : Blk w32 b4 [.bool false, (.slice none 0 0), (.slice none 0 0)] 44 := fw32
   refine sa rfl rfl rfl rfl ?_
   refine wl_nil (q_n (k31 _ _ ?_))
   refine sx_retc ?_
   refine q_r (sx_ret2 Try.results110 ⟨_, rfl, gw32.loadA (vs := [.bool false, (.slice none 0 0), (.slice none 0 0)]) (look_lit rfl) Try.isAgg44 Try.sizeOf44⟩ rfl ?_)
   rw [rR_no (fun h => by omega)]
   have q36 := Chg.step (l := 0) (h := 0) (Chg.zero (l := 0) (h := 0) ((((cb2.t cb4).t c12).t c16).t c21)) cw32 (by omega)
   exact ⟨_, _, w.heap.size, w.heap.size, w.heap.size, w.heap.size, rfl, Own.nil _ _ _ _ _, Own.nil _ _ _ _ _, by omega, ⟨by simp [noR], by simp [noR]⟩, q36⟩
  ·
   refine sx_skip ?_
   refine q_n (k22 _ _ ?_)
   refine sx_seq fun K37 k37 => sx_region ?_
   refine sx_pure rfl rfl rfl (px_field rfl xfld28x0) ?_
   have f38 := f14.ext c16
   have f39 := f38.ext c21
   refine sx_pure rfl rfl rfl (px_load rfl (f39.load1 rfl Try.isAgg4)) ?_
   refine sm rfl rfl rfl rfl ?_
   refine sx_call rfl rfl Try.call45 (c_signed f24.sv (by omega)) (fun v40 w40 p40 => ?_)
   obtain ⟨rfl, c40⟩ := p40
   have zw40 := c40.size
   refine sm rfl rfl rfl rfl ?_
   have f41 := os_21.ext c40
   refine sx_pure rfl rfl rfl (px_build rfl (xbld44x0x1 f41.one _)) ?_
   have f43 := fb4.ext c12
   have f44 := f43.ext c16
   have f45 := f44.ext c21
   have f46 := f45.ext c40
   have f47 := f24.ext c40
   refine sx_store (vs := [.bool (nz n (dg (m / (Nat.gcd m d)))), s16, s21]) rfl rfl f46 rfl Try.sizeOf44 (Nat.le_of_ble_eq_true rfl) (one_cons rfl (one_cons f47.one (one_cons f41.one one_nil))) (fun w42 sw42 fw42 cw42 => ?_)
   have zw42 := cw42.size
   have gw42 : Blk w42 b4 [.bool (nz n (dg (m / (Nat.gcd m d)))), s16, s21] 44 := fw42
   refine sa rfl rfl rfl rfl ?_
   refine wl_nil (q_n (k37 _ _ ?_))
   refine sx_retc ?_
   refine sx_ret2 Try.results110 ⟨_, rfl, gw42.loadA (vs := [.bool (nz n (dg (m / (Nat.gcd m d)))), s16, s21]) (look_lit rfl) Try.isAgg44 Try.sizeOf44⟩ rfl ?_
   have hrl := rR_len (x := sgI n m) (d := d)
   rw [rR_ok hd0 (by omega) (by omega)] at hrl ⊢
   have q48 := Chg.step (l := 0) (h := 0) (Chg.zero (l := 0) (h := 0) (((((cb2.t cb4).t c12).t c16).t c21).t c40)) cw42 (by omega)
   have f49 := f47.chg cw42 (by omega)
   have f50 := f41.chg cw42 (by omega)
   exact ⟨_, _, _, _, _, _, rfl, f49, f50, by omega, hrl, q48⟩

theorem c_iRatMake {w : World} {n1 : Bool} {v1 : Value} {lv1 uv1 : Nat} {z1 : List Int} {n2 : Bool} {v2 : Value} {lv2 uv2 : Nat} {z2 : List Int} (hv1 : Sl w lv1 uv1 v1 (z1)) (hv2 : Sl w lv2 uv2 v2 (z2)) (h63 : z1.length ≤ 4611686018427387904 ∧ z2.length ≤ 4611686018427387904) :
  Ret Try.prog 104 [.agg #[.bool n1, v1], .agg #[.bool n2, v2]] w fun v w' => ∃ s t ls us lt ut, v = .tuple #[.agg #[.bool ((rMake n1 z1 n2 z2).1), s, t], .bool ((rMake n1 z1 n2 z2).2.2.2)] ∧ OwnI w' (ls) (us) s intT ((rMake n1 z1 n2 z2).2.1) ∧ OwnI w' (lt) (ut) t intT ((rMake n1 z1 n2 z2).2.2.1) ∧ (w.heap.size ≤ ls ∧ us ≤ w'.heap.size ∧ w.heap.size ≤ lt ∧ ut ≤ w'.heap.size ∧ (us ≤ lt ∨ ut ≤ ls)) ∧ ((rMake n1 z1 n2 z2).2.1.length ≤ 18 ∧ (rMake n1 z1 n2 z2).2.2.1.length ≤ 18) ∧ Chg 0 0 w w' := by
 have hv10 := hv1.fit
 have hv20 := hv2.fit
 refine sx_enter Try.func104 rfl Try.ntmps104 (Nat.le_of_ble_eq_true rfl) ?_
 refine sx_seq fun K1 k1 => sx_region ?_
 refine sx_box [.bool n1, v1] rfl rfl rfl (fun b2 w3 eb2 sb2 fb2 cb2 => ?_)
 have zw3 := cb2.size
 refine sx_box [.bool n2, v2] rfl rfl rfl (fun b4 w5 eb4 sb4 fb4 cb4 => ?_)
 have zw5 := cb4.size
 refine sx_alloc [.bool false, (.slice none 0 0), (.slice none 0 0)] rfl Try.zeroValue44 rfl (fun b6 w7 eb6 sb6 fb6 cb6 => ?_)
 have zw7 := cb6.size
 refine sa rfl rfl rfl rfl ?_
 refine wl_nil (q_n (k1 _ _ ?_))
 refine sx_seq fun K8 k8 => ?_
 refine sx_seq fun K9 k9 => sx_region ?_
 have f10 := fb2.ext cb4
 have f11 := f10.ext cb6
 refine sx_pure rfl rfl rfl (px_load rfl (f11.loadA (vs := [.bool n1, v1]) (look_lit rfl) Try.isAgg28 Try.sizeOf28)) ?_
 have f12 := fb4.ext cb6
 refine sx_pure rfl rfl rfl (px_load rfl (f12.loadA (vs := [.bool n2, v2]) (look_lit rfl) Try.isAgg28 Try.sizeOf28)) ?_
 have f13 := hv10.ext cb2
 have f14 := f13.ext cb4
 have f15 := f14.ext cb6
 have f16 := hv20.ext cb2
 have f17 := f16.ext cb4
 have f18 := f17.ext cb6
 refine sx_call rfl rfl Try.call123 (c_intsOk f15 f18 (by omega)) (fun v19 w19 p19 => ?_)
 obtain ⟨rfl, c19⟩ := p19
 have zw19 := c19.size
 refine sx_pure rfl rfl rfl (px_notP rfl) ?_
 refine sm rfl rfl rfl rfl ?_
 refine sx_tmpP (t := 10) rfl (fun h37 => ?_) (fun h37 => ?_)
 ·
  refine sx_guardF rfl rfl rfl rfl rfl rfl ?_
  refine sx_guardF rfl rfl rfl rfl rfl rfl ?_
  refine sx_guardF rfl rfl rfl rfl rfl rfl ?_
  refine sx_guardF rfl rfl rfl rfl rfl rfl ?_
  refine sx_pure rfl rfl rfl (px_pick rfl rfl) ?_
  refine wl_nil (q_n (k9 _ _ ?_))
  refine sx_sub (Sub.cons (t := 2) rfl (.cons (t := 3) rfl (.cons (t := 4) rfl (.cons (t := 5) rfl (.cons (t := 15) rfl (.nil)))))) ?_
  refine sx_condT rfl ?_
  refine sx_seq fun K20 k20 => sx_region ?_
  refine sx_pure rfl rfl rfl (px_build rfl (xbld44x  _)) ?_
  have f22 := fb6.ext c19
  refine sx_store (vs := [.bool false, (.slice none 0 0), (.slice none 0 0)]) rfl rfl f22 rfl Try.sizeOf44 (Nat.le_of_ble_eq_true rfl) (one_cons rfl (one_cons rfl (one_cons rfl one_nil))) (fun w21 sw21 fw21 cw21 => ?_)
  have zw21 := cw21.size
  have gw21 : Blk w21 b6 [.bool false, (.slice none 0 0), (.slice none 0 0)] 44 := fw21
  refine sa rfl rfl rfl rfl ?_
  refine wl_nil (q_n (k20 _ _ ?_))
  refine sx_retc ?_
  refine q_r (sx_ret2 Try.results104 ⟨_, rfl, gw21.loadA (vs := [.bool false, (.slice none 0 0), (.slice none 0 0)]) (look_lit rfl) Try.isAgg44 Try.sizeOf44⟩ rfl ?_)
  first | rw [rMake_no (by assumption)] | rw [rMake_ok hI.1 hI.2, rR_zero (len_zero.1 (by omega))]
  have q23 := Chg.step (l := 0) (h := 0) (Chg.zero (l := 0) (h := 0) (((cb2.t cb4).t cb6).t c19)) cw21 (by omega)
  exact ⟨_, _, w.heap.size, w.heap.size, w.heap.size, w.heap.size, rfl, Own.nil _ _ _ _ _, Own.nil _ _ _ _ _, by omega, ⟨by simp [noR], by simp [noR]⟩, q23⟩
 ·
  have hI := Decidable.not_not.1 h37
  obtain ⟨x1, rfl, rfl, hx1⟩ := hI.1.int
  obtain ⟨x2, rfl, rfl, hx2⟩ := hI.2.int
  refine sx_guardT rfl rfl rfl ?_
  refine sx_pure rfl rfl rfl (px_field rfl xfld28x1) ?_
  refine sx_guardT rfl rfl rfl ?_
  have f24 := f12.ext c19
  refine sx_pure rfl rfl rfl (px_load rfl (f24.load1 rfl Try.isAgg22)) ?_
  refine sx_guardT rfl rfl rfl ?_
  have f25 := f18.ext c19
  refine sx_pure rfl rfl rfl (px_len rfl Try.underlying22 f25) ?_
  refine sx_guardT rfl rfl rfl ?_
  refine sx_pure rfl rfl rfl (px_eq rfl rfl) ?_
  refine sx_pure rfl rfl rfl (px_pick rfl rfl) ?_
  refine wl_nil (q_n (k9 _ _ ?_))
  refine sx_sub (Sub.cons (t := 2) rfl (.cons (t := 3) rfl (.cons (t := 4) rfl (.cons (t := 5) rfl (.cons (t := 15) rfl (.nil)))))) ?_
  refine sx_condP rfl (fun h37x1 => ?_) (fun h37x1 => ?_)
  ·
   refine sx_seq fun K26 k26 => sx_region ?_
   refine sx_pure rfl rfl rfl (px_build rfl (xbld44x  _)) ?_
   have f28 := fb6.ext c19
   refine sx_store (vs := [.bool false, (.slice none 0 0), (.slice none 0 0)]) rfl rfl f28 rfl Try.sizeOf44 (Nat.le_of_ble_eq_true rfl) (one_cons rfl (one_cons rfl (one_cons rfl one_nil))) (fun w27 sw27 fw27 cw27 => ?_)
   have zw27 := cw27.size
   have gw27 : Blk w27 b6 [.bool false, (.slice none 0 0), (.slice none 0 0)] 44 := fw27
   refine sa rfl rfl rfl rfl ?_
   refine wl_nil (q_n (k26 _ _ ?_))
   refine sx_retc ?_
   refine q_r (sx_ret2 Try.results104 ⟨_, rfl, gw27.loadA (vs := [.bool false, (.slice none 0 0), (.slice none 0 0)]) (look_lit rfl) Try.isAgg44 Try.sizeOf44⟩ rfl ?_)
   first | rw [rMake_no (by assumption)] | rw [rMake_ok hI.1 hI.2, rR_zero (len_zero.1 (by omega))]
   have q29 := Chg.step (l := 0) (h := 0) (Chg.zero (l := 0) (h := 0) (((cb2.t cb4).t cb6).t c19)) cw27 (by omega)
   exact ⟨_, _, w.heap.size, w.heap.size, w.heap.size, w.heap.size, rfl, Own.nil _ _ _ _ _, Own.nil _ _ _ _ _, by omega, ⟨by simp [noR], by simp [noR]⟩, q29⟩
  ·
   refine sx_skip ?_
   refine q_n (k8 _ _ ?_)
   refine sx_seq fun K30 k30 => ?_
   have f31 := f11.ext c19
   have f32 := f15.ext c19
   refine dx_region (fun w' => Chg b6 (b6 + 1) w19 w') (by kernel_rfl) (Chg.zero (Chg.drew _)) ?_
   have d33 := Chg.drew w19
   have s33 : Chg b6 (b6 + 1) w19 (World.drew w19) := Chg.zero (Chg.drew _)
   have y33 : (World.drew w19).heap.size = w19.heap.size := rfl
   generalize World.drew w19 = w33 at *
   have zw33 := d33.size
   refine dx_take 0 rfl rfl rfl rfl (by kernel_rfl) (by kernel_rfl) (by kernel_rfl) s33 (fun _ hS => px_field rfl xfld28x0) ?_
   refine dx_take 1 rfl rfl rfl rfl (by kernel_rfl) (by kernel_rfl) (by kernel_rfl) s33 (fun _ hS => px_load rfl ((f31.chg hS (by omega)).load1 rfl Try.isAgg4)) ?_
   refine dx_take 2 rfl rfl rfl rfl (by kernel_rfl) (by kernel_rfl) (by kernel_rfl) s33 (fun _ hS => px_field rfl xfld28x0) ?_
   refine dx_take 3 rfl rfl rfl rfl (by kernel_rfl) (by kernel_rfl) (by kernel_rfl) s33 (fun _ hS => px_load rfl ((f24.chg hS (by omega)).load1 rfl Try.isAgg4)) ?_
   refine dx_take 4 rfl rfl rfl rfl (by kernel_rfl) (by kernel_rfl) (by kernel_rfl) s33 (fun _ hS => px_neB Try.underlying4 rfl rfl) ?_
   refine dx_take 5 rfl rfl rfl rfl (by kernel_rfl) (by kernel_rfl) (by kernel_rfl) s33 (fun _ hS => px_field rfl xfld28x1) ?_
   refine dx_take 6 rfl rfl rfl rfl (by kernel_rfl) (by kernel_rfl) (by kernel_rfl) s33 (fun _ hS => px_load rfl ((f31.chg hS (by omega)).load1 rfl Try.isAgg22)) ?_
   refine dx_take 8 rfl rfl rfl rfl (by kernel_rfl) (by kernel_rfl) (by kernel_rfl) s33 (fun _ hS => px_field rfl xfld28x1) ?_
   refine dx_take 9 rfl rfl rfl rfl (by kernel_rfl) (by kernel_rfl) (by kernel_rfl) s33 (fun _ hS => px_load rfl ((f24.chg hS (by omega)).load1 rfl Try.isAgg22)) ?_
   refine dx_eff 7 rfl (by kernel_rfl) ?_
   have f34 := f32.ext d33
   refine sx_call rfl rfl Try.call45 (c_signed f34 (by omega)) (fun v35 w35 p35 => ?_)
   obtain ⟨rfl, c35⟩ := p35
   have zw35 := c35.size
   have s36 : Chg b6 (b6 + 1) w19 w35 := (Chg.zero (l := b6) (h := (b6 + 1)) (d33.t c35))
   refine wl_nil ?_
   refine dx_next s36 ?_
   refine dx_eff 10 rfl (by kernel_rfl) ?_
   have f37 := f34.ext c35
   have f38 := f25.ext d33
   have f39 := f38.ext c35
   refine sx_call rfl rfl Try.call110 (c_reduce f37 f39 (by omega) (by omega) (len_pos.1 (by omega))) (fun v40 w40 p40 => ?_)
   obtain ⟨s40, t40, ls40, us40, lt40, ut40, rfl, os_40, ot_40, hd40, hl40, c40⟩ := p40
   have zw40 := c40.size
   have s41 : Chg b6 (b6 + 1) w19 w40 := (Chg.zero (l := b6) (h := (b6 + 1)) ((d33.t c35).t c40))
   refine wl_nil ?_
   refine dx_next s41 ?_
   refine dx_take 11 rfl rfl rfl rfl (by kernel_rfl) (by kernel_rfl) (by kernel_rfl) s41 (fun _ hS => px_extract (vs := [.agg #[.bool ((rR (sgI (nz ((ng x1) != (ng x2)) (dg x1.natAbs)) x1.natAbs) x2.natAbs).1), s40, t40], .bool ((rR (sgI (nz ((ng x1) != (ng x2)) (dg x1.natAbs)) x1.natAbs) x2.natAbs).2.2.2)]) rfl rfl) ?_
   refine dx_take 12 rfl rfl rfl rfl (by kernel_rfl) (by kernel_rfl) (by kernel_rfl) s41 (fun _ hS => px_extract (vs := [.agg #[.bool ((rR (sgI (nz ((ng x1) != (ng x2)) (dg x1.natAbs)) x1.natAbs) x2.natAbs).1), s40, t40], .bool ((rR (sgI (nz ((ng x1) != (ng x2)) (dg x1.natAbs)) x1.natAbs) x2.natAbs).2.2.2)]) rfl rfl) ?_
   refine dx_eff 13 rfl (by kernel_rfl) ?_
   have f43 := fb6.ext c19
   have f44 := f43.ext d33
   have f45 := f44.ext c35
   have f46 := f45.ext c40
   refine sx_store (vs := [.bool ((rR (sgI (nz ((ng x1) != (ng x2)) (dg x1.natAbs)) x1.natAbs) x2.natAbs).1), s40, t40]) rfl rfl f46 rfl Try.sizeOf44 (Nat.le_of_ble_eq_true rfl) (one_cons rfl (one_cons os_40.one (one_cons ot_40.one one_nil))) (fun w42 sw42 fw42 cw42 => ?_)
   have zw42 := cw42.size
   have gw42 : Blk w42 b6 [.bool ((rR (sgI (nz ((ng x1) != (ng x2)) (dg x1.natAbs)) x1.natAbs) x2.natAbs).1), s40, t40] 44 := fw42
   have q48 := Chg.step (l := b6) (h := (b6 + 1)) (Chg.zero (l := b6) (h := (b6 + 1)) ((d33.t c35).t c40)) cw42 (by omega)
   have s47 : Chg b6 (b6 + 1) w19 w42 := q48
   refine wl_nil ?_
   refine dx_next s47 ?_
   refine dx_take 14 rfl rfl rfl rfl (by kernel_rfl) (by kernel_rfl) (by kernel_rfl) s47 (fun _ hS => px_assign rfl) ?_
   refine dx_done (by kernel_rfl) ?_
   refine q_n (k30 _ _ ?_)
   refine sx_sub (Sub.cons (t := 4) rfl (.cons (t := 5) rfl (.nil))) ?_
   refine sx_retc ?_
   refine sx_ret2 Try.results104 ⟨_, rfl, gw42.loadA (vs := [.bool ((rR (sgI (nz ((ng x1) != (ng x2)) (dg x1.natAbs)) x1.natAbs) x2.natAbs).1), s40, t40]) (look_lit rfl) Try.isAgg44 Try.sizeOf44⟩ rfl ?_
   have hrl := rMake_len (n1 := ng x1) (z1 := dg x1.natAbs) (n2 := ng x2) (z2 := dg x2.natAbs)
   have hre : rMake (ng x1) (dg x1.natAbs) (ng x2) (dg x2.natAbs) = rR (sgI (nz (ng x1 != ng x2) (dg x1.natAbs)) x1.natAbs) x2.natAbs := by rw [rMake_ok hI.1 hI.2, sgI_nz]
   rw [hre] at hrl ⊢
   have q49 := Chg.step (l := 0) (h := 0) (Chg.zero (l := 0) (h := 0) ((((((cb2.t cb4).t cb6).t c19).t d33).t c35).t c40)) cw42 (by omega)
   have f50 := os_40.chg cw42 (by omega)
   have f51 := ot_40.chg cw42 (by omega)
   exact ⟨_, _, _, _, _, _, rfl, f50, f51, by omega, hrl, q49⟩

theorem c_iRatInt {w : World} {n1 : Bool} {v1 : Value} {lv1 uv1 : Nat} {z1 : List Int} (hv1 : Sl w lv1 uv1 v1 (z1)) (h63 : z1.length ≤ 4611686018427387904) :
  Ret Try.prog 66 [.agg #[.bool n1, v1]] w fun v w' => ∃ s t ls us lt ut, v = .tuple #[.agg #[.bool ((rInt n1 z1).1), s, t], .bool ((rInt n1 z1).2.2.2)] ∧ OwnI w' (ls) (us) s intT ((rInt n1 z1).2.1) ∧ OwnI w' (lt) (ut) t intT ((rInt n1 z1).2.2.1) ∧ (w.heap.size ≤ ls ∧ us ≤ w'.heap.size ∧ w.heap.size ≤ lt ∧ ut ≤ w'.heap.size ∧ (us ≤ lt ∨ ut ≤ ls)) ∧ ((rInt n1 z1).2.1.length ≤ 18 ∧ (rInt n1 z1).2.2.1.length ≤ 18) ∧ Chg 0 0 w w' := by
 have hv10 := hv1.fit
 refine sx_enter Try.func66 rfl Try.ntmps66 (Nat.le_of_ble_eq_true rfl) ?_
 refine sx_seq fun K1 k1 => sx_region ?_
 refine sx_box [.bool n1, v1] rfl rfl rfl (fun b2 w3 eb2 sb2 fb2 cb2 => ?_)
 have zw3 := cb2.size
 refine sx_alloc [.bool false, (.slice none 0 0), (.slice none 0 0)] rfl Try.zeroValue44 rfl (fun b4 w5 eb4 sb4 fb4 cb4 => ?_)
 have zw5 := cb4.size
 refine sa rfl rfl rfl rfl ?_
 refine wl_nil (q_n (k1 _ _ ?_))
 refine sx_seq fun K6 k6 => ?_
 have f7 := fb2.ext cb4
 have f8 := hv10.ext cb2
 have f9 := f8.ext cb4
 refine dx_region (fun w' => Chg b4 (b4 + 1) w5 w') (by kernel_rfl) (Chg.zero (Chg.drew _)) ?_
 have d10 := Chg.drew w5
 have s10 : Chg b4 (b4 + 1) w5 (World.drew w5) := Chg.zero (Chg.drew _)
 have y10 : (World.drew w5).heap.size = w5.heap.size := rfl
 generalize World.drew w5 = w10 at *
 have zw10 := d10.size
 refine dx_take 0 rfl rfl rfl rfl (by kernel_rfl) (by kernel_rfl) (by kernel_rfl) s10 (fun _ hS => px_load rfl ((f7.chg hS (by omega)).loadA (vs := [.bool n1, v1]) (look_lit rfl) Try.isAgg28 Try.sizeOf28)) ?_
 refine dx_eff 1 rfl (by kernel_rfl) ?_
 refine sx_call rfl rfl Try.call105 (c_iIntOf (by omega)) (fun v11 w11 p11 => ?_)
 obtain ⟨s11, rfl, os_11, c11⟩ := p11
 have zw11 := c11.size
 have s12 : Chg b4 (b4 + 1) w5 w11 := (Chg.zero (l := b4) (h := (b4 + 1)) (d10.t c11))
 refine wl_nil ?_
 refine dx_next s12 ?_
 refine dx_eff 2 rfl (by kernel_rfl) ?_
 have f13 := f9.ext d10
 have f14 := f13.ext c11
 refine sx_call rfl rfl Try.call104 (c_iRatMake f14 os_11.sv (by have h9 := len_i64 (n := 1) (by omega); omega)) (fun v15 w15 p15 => ?_)
 obtain ⟨s15, t15, ls15, us15, lt15, ut15, rfl, os_15, ot_15, hd15, hl15, c15⟩ := p15
 have zw15 := c15.size
 have s16 : Chg b4 (b4 + 1) w5 w15 := (Chg.zero (l := b4) (h := (b4 + 1)) ((d10.t c11).t c15))
 refine wl_nil ?_
 refine dx_next s16 ?_
 refine dx_take 3 rfl rfl rfl rfl (by kernel_rfl) (by kernel_rfl) (by kernel_rfl) s16 (fun _ hS => px_extract (vs := [.agg #[.bool ((rMake n1 z1 (ng (1 : Int)) (dg ((1 : Int)).natAbs)).1), s15, t15], .bool ((rMake n1 z1 (ng (1 : Int)) (dg ((1 : Int)).natAbs)).2.2.2)]) rfl rfl) ?_
 refine dx_take 4 rfl rfl rfl rfl (by kernel_rfl) (by kernel_rfl) (by kernel_rfl) s16 (fun _ hS => px_extract (vs := [.agg #[.bool ((rMake n1 z1 (ng (1 : Int)) (dg ((1 : Int)).natAbs)).1), s15, t15], .bool ((rMake n1 z1 (ng (1 : Int)) (dg ((1 : Int)).natAbs)).2.2.2)]) rfl rfl) ?_
 refine dx_eff 5 rfl (by kernel_rfl) ?_
 have f18 := fb4.ext d10
 have f19 := f18.ext c11
 have f20 := f19.ext c15
 refine sx_store (vs := [.bool ((rMake n1 z1 (ng (1 : Int)) (dg ((1 : Int)).natAbs)).1), s15, t15]) rfl rfl f20 rfl Try.sizeOf44 (Nat.le_of_ble_eq_true rfl) (one_cons rfl (one_cons os_15.one (one_cons ot_15.one one_nil))) (fun w17 sw17 fw17 cw17 => ?_)
 have zw17 := cw17.size
 have gw17 : Blk w17 b4 [.bool ((rMake n1 z1 (ng (1 : Int)) (dg ((1 : Int)).natAbs)).1), s15, t15] 44 := fw17
 have q22 := Chg.step (l := b4) (h := (b4 + 1)) (Chg.zero (l := b4) (h := (b4 + 1)) ((d10.t c11).t c15)) cw17 (by omega)
 have s21 : Chg b4 (b4 + 1) w5 w17 := q22
 refine wl_nil ?_
 refine dx_next s21 ?_
 refine dx_take 6 rfl rfl rfl rfl (by kernel_rfl) (by kernel_rfl) (by kernel_rfl) s21 (fun _ hS => px_assign rfl) ?_
 refine dx_done (by kernel_rfl) ?_
 refine q_n (k6 _ _ ?_)
 refine sx_retc ?_
 refine sx_ret2 Try.results66 ⟨_, rfl, gw17.loadA (vs := [.bool ((rMake n1 z1 (ng (1 : Int)) (dg ((1 : Int)).natAbs)).1), s15, t15]) (look_lit rfl) Try.isAgg44 Try.sizeOf44⟩ rfl ?_
 have hrl := rInt_len (n := n1) (z := z1)
 unfold rInt at hrl ⊢
 have q23 := Chg.step (l := 0) (h := 0) (Chg.zero (l := 0) (h := 0) ((((cb2.t cb4).t d10).t c11).t c15)) cw17 (by omega)
 have f24 := os_15.chg cw17 (by omega)
 have f25 := ot_15.chg cw17 (by omega)
 exact ⟨_, _, _, _, _, _, rfl, f24, f25, by omega, hrl, q23⟩

theorem c_ratsOk {w : World} {n1 : Bool} {v1 : Value} {lv1 uv1 : Nat} {z1 : List Int} {d1 : Value} {ld1 ud1 : Nat} {y1 : List Int} {n2 : Bool} {v2 : Value} {lv2 uv2 : Nat} {z2 : List Int} {d2 : Value} {ld2 ud2 : Nat} {y2 : List Int} (hv1 : Sl w lv1 uv1 v1 (z1)) (hd1 : Sl w ld1 ud1 d1 (y1)) (hv2 : Sl w lv2 uv2 v2 (z2)) (hd2 : Sl w ld2 ud2 d2 (y2)) (h63 : z1.length ≤ 4611686018427387904 ∧ y1.length ≤ 4611686018427387904 ∧ z2.length ≤ 4611686018427387904 ∧ y2.length ≤ 4611686018427387904) :
  Ret Try.prog 106 [.agg #[.bool n1, v1, d1], .agg #[.bool n2, v2, d2]] w fun v w' => v = .bool (decide (ROk n1 z1 y1 ∧ ROk n2 z2 y2)) ∧ Chg 0 0 w w' := by
 have hv10 := hv1.fit
 have hd10 := hd1.fit
 have hv20 := hv2.fit
 have hd20 := hd2.fit
 refine sx_enter Try.func106 rfl Try.ntmps106 (Nat.le_of_ble_eq_true rfl) ?_
 refine sx_seq fun K1 k1 => sx_region ?_
 refine sx_box [.bool n1, v1, d1] rfl rfl rfl (fun b2 w3 eb2 sb2 fb2 cb2 => ?_)
 have zw3 := cb2.size
 refine sx_box [.bool n2, v2, d2] rfl rfl rfl (fun b4 w5 eb4 sb4 fb4 cb4 => ?_)
 have zw5 := cb4.size
 refine sa rfl rfl rfl rfl ?_
 refine wl_nil (q_n (k1 _ _ ?_))
 refine sx_seq fun K6 k6 => sx_region ?_
 have f7 := fb2.ext cb4
 refine sx_pure rfl rfl rfl (px_load rfl (f7.loadA (vs := [.bool n1, v1, d1]) (look_lit rfl) Try.isAgg44 Try.sizeOf44)) ?_
 have f8 := hv10.ext cb2
 have f9 := f8.ext cb4
 have f10 := hd10.ext cb2
 have f11 := f10.ext cb4
 refine sx_call rfl rfl Try.call56 (c_iRatOk f9 f11 (by omega)) (fun v12 w12 p12 => ?_)
 obtain ⟨rfl, c12⟩ := p12
 have zw12 := c12.size
 refine sm rfl rfl rfl rfl ?_
 refine sx_tmpP (t := 7) rfl (fun h33 => ?_) (fun h33 => ?_)
 ·
  refine sx_guardT rfl rfl rfl ?_
  have f13 := fb4.ext c12
  refine sx_pure rfl rfl rfl (px_load rfl (f13.loadA (vs := [.bool n2, v2, d2]) (look_lit rfl) Try.isAgg44 Try.sizeOf44)) ?_
  refine sx_guardT rfl rfl rfl ?_
  have f14 := hv20.ext cb2
  have f15 := f14.ext cb4
  have f16 := f15.ext c12
  have f17 := hd20.ext cb2
  have f18 := f17.ext cb4
  have f19 := f18.ext c12
  refine sx_call rfl rfl Try.call56 (c_iRatOk f16 f19 (by omega)) (fun v20 w20 p20 => ?_)
  obtain ⟨rfl, c20⟩ := p20
  have zw20 := c20.size
  refine sx_pure rfl rfl rfl (px_pick rfl rfl) ?_
  refine sa rfl rfl rfl rfl ?_
  refine wl_nil (q_n (k6 _ _ ?_))
  refine sx_retc ?_
  refine sx_ret1 Try.results106 rfl ?_
  exact ⟨(by first | exact bTrue (by grind) | exact bFalse (by grind) | exact bIff (by grind)), (((cb2.t cb4).t c12).t c20)⟩
 ·
  refine sx_guardF rfl rfl rfl rfl rfl rfl ?_
  refine sx_guardF rfl rfl rfl rfl rfl rfl ?_
  refine sx_pure rfl rfl rfl (px_pick rfl rfl) ?_
  refine sa rfl rfl rfl rfl ?_
  refine wl_nil (q_n (k6 _ _ ?_))
  refine sx_retc ?_
  refine sx_ret1 Try.results106 rfl ?_
  exact ⟨(by first | exact bTrue (by grind) | exact bFalse (by grind) | exact bIff (by grind)), ((cb2.t cb4).t c12)⟩

theorem c_intNeg {w : World} {va : Value} {lva uva : Nat} {x : Int} (hva : Sl w lva uva va (dg x.natAbs)) (hbx : (dg x.natAbs).length ≤ 1000) :
  Ret Try.prog 125 [.agg #[.bool (ng x), va]] w fun v w' => ∃ s, v = .agg #[.bool (ng (-x)), s] ∧ OwnI w' w.heap.size w'.heap.size s intT (dg (-x).natAbs) ∧ Chg 0 0 w w' := by
 have hva0 := hva.fit
 refine sx_enter Try.func125 rfl Try.ntmps125 (Nat.le_of_ble_eq_true rfl) ?_
 refine sx_seq fun K1 k1 => sx_region ?_
 refine sx_box [.bool (ng x), va] rfl rfl rfl (fun b2 w3 eb2 sb2 fb2 cb2 => ?_)
 have zw3 := cb2.size
 refine sx_alloc [.bool false, (.slice none 0 0)] rfl Try.zeroValue28 rfl (fun b4 w5 eb4 sb4 fb4 cb4 => ?_)
 have zw5 := cb4.size
 refine wl_nil (q_n (k1 _ _ ?_))
 refine sx_seq fun K6 k6 => ?_
 have f7 := fb2.ext cb4
 have f8 := hva0.ext cb2
 have f9 := f8.ext cb4
 refine dx_region (fun w' => Chg b4 (b4 + 1) w5 w') (by kernel_rfl) (Chg.zero (Chg.drew _)) ?_
 have d10 := Chg.drew w5
 have s10 : Chg b4 (b4 + 1) w5 (World.drew w5) := Chg.zero (Chg.drew _)
 have y10 : (World.drew w5).heap.size = w5.heap.size := rfl
 generalize World.drew w5 = w10 at *
 have zw10 := d10.size
 refine dx_take 0 rfl rfl rfl rfl (by kernel_rfl) (by kernel_rfl) (by kernel_rfl) s10 (fun _ hS => px_field rfl xfld28x0) ?_
 refine dx_take 1 rfl rfl rfl rfl (by kernel_rfl) (by kernel_rfl) (by kernel_rfl) s10 (fun _ hS => px_load rfl ((f7.chg hS (by omega)).load1 rfl Try.isAgg4)) ?_
 refine dx_take 2 rfl rfl rfl rfl (by kernel_rfl) (by kernel_rfl) (by kernel_rfl) s10 (fun _ hS => px_not rfl) ?_
 refine dx_take 3 rfl rfl rfl rfl (by kernel_rfl) (by kernel_rfl) (by kernel_rfl) s10 (fun _ hS => px_field rfl xfld28x1) ?_
 refine dx_take 4 rfl rfl rfl rfl (by kernel_rfl) (by kernel_rfl) (by kernel_rfl) s10 (fun _ hS => px_load rfl ((f7.chg hS (by omega)).load1 rfl Try.isAgg22)) ?_
 refine dx_eff 5 rfl (by kernel_rfl) ?_
 have f11 := f9.ext d10
 refine sx_call rfl rfl Try.call79 (c_natCopy f11 (by omega)) (fun v12 w12 p12 => ?_)
 obtain ⟨s12, rfl, os_12, c12⟩ := p12
 have zw12 := c12.size
 have s13 : Chg b4 (b4 + 1) w5 w12 := (Chg.zero (l := b4) (h := (b4 + 1)) (d10.t c12))
 refine wl_nil ?_
 refine dx_next s13 ?_
 refine dx_eff 6 rfl (by kernel_rfl) ?_
 refine sx_call rfl rfl Try.call45 (c_signed os_12.sv (by omega)) (fun v14 w14 p14 => ?_)
 obtain ⟨rfl, c14⟩ := p14
 have zw14 := c14.size
 have s15 : Chg b4 (b4 + 1) w5 w14 := (Chg.zero (l := b4) (h := (b4 + 1)) ((d10.t c12).t c14))
 refine wl_nil ?_
 refine dx_next s15 ?_
 refine dx_eff 7 rfl (by kernel_rfl) ?_
 have f17 := fb4.ext d10
 have f18 := f17.ext c12
 have f19 := f18.ext c14
 have f20 := os_12.ext c14
 refine sx_store (vs := [.bool (nz (!(ng x)) (dg x.natAbs)), v12]) rfl rfl f19 rfl Try.sizeOf28 (Nat.le_of_ble_eq_true rfl) (one_cons rfl (one_cons f20.one one_nil)) (fun w16 sw16 fw16 cw16 => ?_)
 have zw16 := cw16.size
 have gw16 : Blk w16 b4 [.bool (nz (!(ng x)) (dg x.natAbs)), v12] 28 := fw16
 have q22 := Chg.step (l := b4) (h := (b4 + 1)) (Chg.zero (l := b4) (h := (b4 + 1)) ((d10.t c12).t c14)) cw16 (by omega)
 have s21 : Chg b4 (b4 + 1) w5 w16 := q22
 refine wl_nil ?_
 refine dx_next s21 ?_
 refine dx_done (by kernel_rfl) ?_
 refine q_n (k6 _ _ ?_)
 refine sx_retc ?_
 refine sx_ret1 Try.results125 ⟨_, rfl, gw16.loadA (vs := [.bool (nz (!(ng x)) (dg x.natAbs)), v12]) (look_lit rfl) Try.isAgg28 Try.sizeOf28⟩ ?_
 have hh := neg_sg x
 rw [← hh.1, ← hh.2]
 have q23 := Chg.step (l := 0) (h := 0) (Chg.zero (l := 0) (h := 0) ((((cb2.t cb4).t d10).t c12).t c14)) cw16 (by omega)
 have f24 := f20.chg cw16 (by omega)
 exact ⟨_, rfl, (Own.mono f24 (by omega) (by omega)), q23⟩

theorem c_ratNeg {w : World} {va : Value} {lva uva : Nat} {x : Int} {vd : Value} {lvd uvd : Nat} {yy : List Int} (hva : Sl w lva uva va (dg x.natAbs)) (hvd : Sl w lvd uvd vd (yy)) (hbx : (dg x.natAbs).length ≤ 1000) (h63 : yy.length ≤ 1048576) :
  Ret Try.prog 108 [.agg #[.bool (ng x), va, vd]] w fun v w' => ∃ s t ls us lt ut, v = .agg #[.bool (ng (-x)), s, t] ∧ OwnI w' (ls) (us) s intT (dg (-x).natAbs) ∧ OwnI w' (lt) (ut) t intT (yy) ∧ (w.heap.size ≤ ls ∧ us ≤ w'.heap.size ∧ w.heap.size ≤ lt ∧ ut ≤ w'.heap.size ∧ (us ≤ lt ∨ ut ≤ ls)) ∧ Chg 0 0 w w' := by
 have hva0 := hva.fit
 have hvd0 := hvd.fit
 refine sx_enter Try.func108 rfl Try.ntmps108 (Nat.le_of_ble_eq_true rfl) ?_
 refine sx_seq fun K1 k1 => sx_region ?_
 refine sx_box [.bool (ng x), va, vd] rfl rfl rfl (fun b2 w3 eb2 sb2 fb2 cb2 => ?_)
 have zw3 := cb2.size
 refine sx_alloc [.bool false, (.slice none 0 0), (.slice none 0 0)] rfl Try.zeroValue44 rfl (fun b4 w5 eb4 sb4 fb4 cb4 => ?_)
 have zw5 := cb4.size
 refine wl_nil (q_n (k1 _ _ ?_))
 refine sx_seq fun K6 k6 => ?_
 have f7 := fb2.ext cb4
 have f8 := hva0.ext cb2
 have f9 := f8.ext cb4
 have f10 := hvd0.ext cb2
 have f11 := f10.ext cb4
 refine dx_region (fun w' => Chg b4 (b4 + 1) w5 w') (by kernel_rfl) (Chg.zero (Chg.drew _)) ?_
 have d12 := Chg.drew w5
 have s12 : Chg b4 (b4 + 1) w5 (World.drew w5) := Chg.zero (Chg.drew _)
 have y12 : (World.drew w5).heap.size = w5.heap.size := rfl
 generalize World.drew w5 = w12 at *
 have zw12 := d12.size
 refine dx_take 0 rfl rfl rfl rfl (by kernel_rfl) (by kernel_rfl) (by kernel_rfl) s12 (fun _ hS => px_field rfl xfld44x0) ?_
 refine dx_take 1 rfl rfl rfl rfl (by kernel_rfl) (by kernel_rfl) (by kernel_rfl) s12 (fun _ hS => px_load rfl ((f7.chg hS (by omega)).loadA (vs := [.bool (ng x), va]) (look_lit rfl) Try.isAgg28 Try.sizeOf28)) ?_
 refine dx_take 3 rfl rfl rfl rfl (by kernel_rfl) (by kernel_rfl) (by kernel_rfl) s12 (fun _ hS => px_field rfl xfld44x1) ?_
 refine dx_take 4 rfl rfl rfl rfl (by kernel_rfl) (by kernel_rfl) (by kernel_rfl) s12 (fun _ hS => px_load rfl ((f7.chg hS (by omega)).load1 rfl Try.isAgg22)) ?_
 refine dx_eff 2 rfl (by kernel_rfl) ?_
 have f13 := f9.ext d12
 refine sx_call rfl rfl Try.call125 (c_intNeg f13 (by omega)) (fun v14 w14 p14 => ?_)
 obtain ⟨s14, rfl, os_14, c14⟩ := p14
 have zw14 := c14.size
 have s15 : Chg b4 (b4 + 1) w5 w14 := (Chg.zero (l := b4) (h := (b4 + 1)) (d12.t c14))
 refine wl_nil ?_
 refine dx_next s15 ?_
 refine dx_eff 5 rfl (by kernel_rfl) ?_
 have f16 := f11.ext d12
 have f17 := f16.ext c14
 refine sx_call rfl rfl Try.call79 (c_natCopy f17 (by omega)) (fun v18 w18 p18 => ?_)
 obtain ⟨s18, rfl, os_18, c18⟩ := p18
 have zw18 := c18.size
 have s19 : Chg b4 (b4 + 1) w5 w18 := (Chg.zero (l := b4) (h := (b4 + 1)) ((d12.t c14).t c18))
 refine wl_nil ?_
 refine dx_next s19 ?_
 refine dx_take 6 rfl rfl rfl rfl (by kernel_rfl) (by kernel_rfl) (by kernel_rfl) s19 (fun _ hS => px_build rfl (xbld44x0x1 os_18.one _)) ?_
 refine dx_eff 7 rfl (by kernel_rfl) ?_
 have f21 := fb4.ext d12
 have f22 := f21.ext c14
 have f23 := f22.ext c18
 have f24 := os_14.ext c18
 refine sx_store (vs := [.bool (ng (-x)), s14, v18]) rfl rfl f23 rfl Try.sizeOf44 (Nat.le_of_ble_eq_true rfl) (one_cons rfl (one_cons f24.one (one_cons os_18.one one_nil))) (fun w20 sw20 fw20 cw20 => ?_)
 have zw20 := cw20.size
 have gw20 : Blk w20 b4 [.bool (ng (-x)), s14, v18] 44 := fw20
 have q26 := Chg.step (l := b4) (h := (b4 + 1)) (Chg.zero (l := b4) (h := (b4 + 1)) ((d12.t c14).t c18)) cw20 (by omega)
 have s25 : Chg b4 (b4 + 1) w5 w20 := q26
 refine wl_nil ?_
 refine dx_next s25 ?_
 refine dx_done (by kernel_rfl) ?_
 refine q_n (k6 _ _ ?_)
 refine sx_retc ?_
 refine sx_ret1 Try.results108 ⟨_, rfl, gw20.loadA (vs := [.bool (ng (-x)), s14, v18]) (look_lit rfl) Try.isAgg44 Try.sizeOf44⟩ ?_
 have q27 := Chg.step (l := 0) (h := 0) (Chg.zero (l := 0) (h := 0) ((((cb2.t cb4).t d12).t c14).t c18)) cw20 (by omega)
 have f28 := f24.chg cw20 (by omega)
 have f29 := os_18.chg cw20 (by omega)
 exact ⟨_, _, _, _, _, _, rfl, f28, f29, by omega, q27⟩

end Go.Proofs.Ytfoceofnldnbgaa
