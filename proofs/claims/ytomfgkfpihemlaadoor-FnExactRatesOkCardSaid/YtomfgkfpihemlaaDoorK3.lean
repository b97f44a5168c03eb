/- Contracts of functions of the program: what each call returns, and that it changes nothing that was. Conditions: as each says. -/
import Derived.Test.YtomfgkfpihemlaaDoorTy
import Derived.Test.YtomfgkfpihemlaaDoorNatJ
import Derived.Test.YtomfgkfpihemlaaDoorPair
import Derived.Test.YtomfgkfpihemlaaDoorK0
import Derived.Test.YtomfgkfpihemlaaDoorK1
import Derived.Test.YtomfgkfpihemlaaDoorK2
set_option linter.unusedVariables false
set_option linter.unusedSimpArgs false
namespace Go.Proofs.YtomfgkfpihemlaaDoor
open Go Go.RowKit
set_option maxRecDepth 100000
theorem c_sCurPlaces {w : World} {s : ByteArray} :
  Ret Tryd.prog 65 [.string s] w fun v w' => v = .int .i64 ((curOf s).places) ∧ Chg 0 0 w w' := by
 refine sx_enter Tryd.func65 rfl Tryd.ntmps65 (Nat.le_of_ble_eq_true rfl) ?_
 refine sx_seq fun K1 k1 => sx_region ?_
 refine sa rfl rfl rfl rfl ?_
 refine wl_nil (q_n (k1 _ _ ?_))
 refine sx_seq fun K2 k2 => sx_region ?_
 refine sm rfl rfl rfl rfl ?_
 refine sx_call rfl rfl Tryd.call103 (c_l08Find) (fun v3 w3 p3 => ?_)
 obtain ⟨rfl, c3⟩ := p3
 have zw3 := c3.size
 refine sx_pure rfl rfl rfl (px_fieldv rfl (xfv119x2 _)) ?_
 refine sa rfl rfl rfl rfl ?_
 refine wl_nil (q_n (k2 _ _ ?_))
 refine sx_retc ?_
 refine sx_ret1 Tryd.results65 rfl ?_
 exact ⟨rfl, c3⟩

theorem c_sNatTen {w : World} {k : Int} (hk : 0 ≤ k ∧ k ≤ 449) :
  Ret Tryd.prog 107 [.int .i64 k] w fun v w' => ∃ s, v = s ∧ OwnI w' w.heap.size w'.heap.size s intT (dg (10 ^ (k).toNat)) ∧ Chg 0 0 w w' := by
 refine sx_enter Tryd.func107 rfl Tryd.ntmps107 (Nat.le_of_ble_eq_true rfl) ?_
 refine sx_seq fun K1 k1 => sx_region ?_
 refine sa rfl rfl rfl rfl ?_
 refine wl_nil (q_n (k1 _ _ ?_))
 refine sx_seq fun K2 k2 => ?_
 refine sx_seq fun K3 k3 => sx_region ?_
 refine sm rfl rfl rfl rfl ?_
 refine sx_call rfl rfl Tryd.call111 (c_l01In) (fun v4 w4 p4 => ?_)
 obtain ⟨rfl, c4⟩ := p4
 have zw4 := c4.size
 refine sx_pure rfl rfl rfl (px_notP rfl) ?_
 refine wl_nil (q_n (k3 _ _ ?_))
 have h76 : ¬ (¬ ((0 : Int) ≤ k ∧ k ≤ (449 : Int))) := by omega
 refine sx_condPF rfl h76 ?_
 refine sx_skip ?_
 refine q_n (k2 _ _ ?_)
 refine sx_seq fun K5 k5 => sx_region ?_
 refine sm rfl rfl rfl rfl ?_
 refine sx_pure rfl rfl rfl (px_quo rfl rfl (by omega) (by omega) (by omega)) ?_
 refine sx_make (c := (k / 9).toNat) rfl xelt22 (look_int rfl (by omega)) (look_int rfl (by omega)) (by omega) (by unfold maxLen; omega) (fun s6 ws6 fs6 cs6 ls6 => ?_)
 have ns6 := fs6.made
 have zws6 := cs6.size
 refine sa rfl rfl rfl rfl ?_
 refine wl_nil (q_n (k5 _ _ ?_))
 refine sx_seq fun K7 k7 => sx_region ?_
 refine sa rfl rfl rfl rfl ?_
 refine wl_nil (q_n (k7 _ _ ?_))
 refine sx_seq fun K8 k8 => ?_
 refine sx_seq fun K9 k9 => sx_region ?_
 refine sa rfl rfl rfl rfl ?_
 refine wl_nil (q_n (k9 _ _ ?_))
 refine sx_block ?_
 refine sx_loop (fun mm aa w' => ∃ (j : Nat) (c : Nat), Agr 24 [(0, .int .i64 k), (3, s6), (4, .int .i64 ((c : Nat) : Int)), (5, .int .i64 ↑j)] aa ∧ Chg 0 0 ws6 w' ∧ Own w' w4.heap.size ws6.heap.size s6 3 ((List.replicate ((k / 9).toNat) 0).length) 1 ((List.replicate ((k / 9).toNat) 0).map (Value.int .i64)) ∧ (mm = (k % 9).toNat - j) ∧ ((j : Int) ≤ k % 9) ∧ (c = 10 ^ j)) (_) (fun a ha => ⟨0, 1, ha.sub (Sub.cons (t := 0) rfl (.cons (t := 3) rfl (.cons (t := 4) (look_int (t := 4) rfl (by first | omega | simp)) (.cons (t := 5) (look_int (t := 5) rfl (by first | omega | simp)) (.nil))))), Chg.refl _ _ _, (ns6.mono (by omega) (by omega)), rfl, by omega, rfl⟩) ?_
 rintro mm aa wl10 ⟨j, c, hAwl10, cwl10, hs_s6, hm, hj, hc⟩
 refine (show cw Tryd.prog 24 _ _ _ wl10 from ?_) aa hAwl10
 clear hAwl10
 have zwl10 := cwl10.size
 have hb9 := ten_le (j := j) (by omega)
 refine sx_seq fun K11 k11 => ?_
 refine sx_seq fun K12 k12 => sx_region ?_
 refine sm rfl rfl rfl rfl ?_
 refine sm rfl rfl rfl rfl ?_
 refine sx_pure rfl rfl rfl (px_rem rfl rfl (by omega) (by omega)) ?_
 refine sx_pure rfl rfl rfl (px_lt rfl rfl) ?_
 refine wl_nil (q_n (k12 _ _ ?_))
 refine sx_condP rfl (fun h81 => ?_) (fun h81 => ?_)
 ·
  refine sx_skip ?_
  refine q_n (k11 _ _ ?_)
  refine sx_seq fun K13 k13 => ?_
  refine sx_block ?_
  refine sx_region ?_
  refine sm rfl rfl rfl rfl ?_
  refine sx_pure rfl rfl rfl (px_mul rfl rfl (by omega)) ?_
  refine sa rfl rfl rfl rfl ?_
  refine wl_nil ?_
  refine q_bn (q_n (k13 _ _ ?_))
  refine sx_region ?_
  refine sm rfl rfl rfl rfl ?_
  refine sx_pure rfl rfl rfl (px_add rfl rfl (by omega)) ?_
  refine sa rfl rfl rfl rfl ?_
  refine wl_nil ?_
  exact fun a ha => ⟨_, by omega, (j + 1), (c * 10), ha.sub (Sub.cons (t := 0) rfl (.cons (t := 3) rfl (.cons (t := 4) (look_int (t := 4) rfl (by first | omega | simp)) (.cons (t := 5) (look_int (t := 5) rfl (by first | omega | simp)) (.nil))))), cwl10, (hs_s6.mono (by omega) (by omega)), rfl, by omega, by rw [hc, Nat.pow_succ]⟩
 ·
  refine sx_exit ?_
  refine q_e (q_e (q_bx (q_n (k8 _ _ ?_))))
  refine sx_seq fun K14 k14 => sx_region ?_
  refine sm rfl rfl rfl rfl ?_
  refine sm rfl rfl rfl rfl ?_
  refine sx_lit1 rfl xelt22 rfl rfl (fun s15 ws15 ss15 fs15 cs15 => ?_)
  have ns15 := Own.norm (f := (Value.int .i64)) (zs := [((c : Nat) : Int)]) fs15
  have zws15 := cs15.size
  have f17 := hs_s6.ext cs15
  refine sx_append rfl xelt22 rfl rfl f17 ns15.sv one_int (by omega) (by simp only [List.length_replicate, List.length_cons, List.length_nil]; omega) (by unfold maxLen; simp only [List.length_replicate, List.length_cons, List.length_nil]; omega) (fun a16 w16 fw16 cw16 => ?_)
  have nw16 := Own.app (f := (Value.int .i64)) (a := List.replicate ((k / 9).toNat) 0) (b := [((c : Nat) : Int)]) fw16
  have zw16 := cw16.size
  refine sa rfl rfl rfl rfl ?_
  refine wl_nil (q_n (k14 _ _ ?_))
  refine sx_retc ?_
  refine sx_ret1 Tryd.results107 rfl ?_
  have hd := ten_dg hk.1 (j := j) (by omega) hc
  rw [← hd]
  have q18 := Chg.step (l := 0) (h := 0) (Chg.zero (l := 0) (h := 0) (((c4.t cs6).t cwl10).t cs15)) cw16 (by omega)
  exact ⟨_, rfl, (Own.mono nw16 (by omega) (by omega)), q18⟩

theorem c_l07Ten {w : World} {k : Int} (hk : 0 ≤ k ∧ k ≤ 449) :
  Ret Tryd.prog 64 [.int .i64 k] w fun v w' => ∃ s, v = .agg #[.bool (ng (tenI k)), s] ∧ OwnI w' w.heap.size w'.heap.size s intT (dg (tenI k).natAbs) ∧ Chg 0 0 w w' := by
 refine sx_enter Tryd.func64 rfl Tryd.ntmps64 (Nat.le_of_ble_eq_true rfl) ?_
 refine sx_seq fun K1 k1 => sx_region ?_
 refine sx_alloc [.bool false, (.slice none 0 0)] rfl Tryd.zeroValue29 rfl (fun b2 w3 eb2 sb2 fb2 cb2 => ?_)
 have zw3 := cb2.size
 refine wl_nil (q_n (k1 _ _ ?_))
 refine sx_seq fun K4 k4 => sx_region ?_
 refine sm rfl rfl rfl rfl ?_
 refine sx_call rfl rfl Tryd.call107 (c_sNatTen (by omega)) (fun v5 w5 p5 => ?_)
 obtain ⟨s5, rfl, os_5, c5⟩ := p5
 have zw5 := c5.size
 refine sx_pure rfl rfl rfl (px_build rfl (xbld29x1 os_5.one _)) ?_
 have f7 := fb2.ext c5
 refine sx_store (vs := [.bool false, v5]) rfl rfl f7 rfl Tryd.sizeOf29 (Nat.le_of_ble_eq_true rfl) (one_cons rfl (one_cons os_5.one one_nil)) (fun w6 sw6 fw6 cw6 => ?_)
 have zw6 := cw6.size
 have gw6 : Blk w6 b2 [.bool false, v5] 29 := fw6
 refine wl_nil (q_n (k4 _ _ ?_))
 refine sx_retc ?_
 refine sx_ret1 Tryd.results64 ⟨_, rfl, gw6.loadA (vs := [.bool false, v5]) (look_lit rfl) Tryd.isAgg29 Tryd.sizeOf29⟩ ?_
 rw [← ten_ng, tenI_abs]
 have q8 := Chg.step (l := 0) (h := 0) (Chg.zero (l := 0) (h := 0) (cb2.t c5)) cw6 (by omega)
 have f9 := os_5.chg cw6 (by omega)
 exact ⟨_, rfl, (Own.mono f9 (by omega) (by omega)), q8⟩

theorem c_sCurUnit {w : World} {cc : ByteArray} :
  Ret Tryd.prog 20 [.string cc] w fun v w' => ∃ s t ls us lt ut, v = .agg #[.bool ((cUnit cc).1), s, t] ∧ OwnI w' (ls) (us) s intT ((cUnit cc).2.1) ∧ OwnI w' (lt) (ut) t intT ((cUnit cc).2.2.1) ∧ (w.heap.size ≤ ls ∧ us ≤ w'.heap.size ∧ w.heap.size ≤ lt ∧ ut ≤ w'.heap.size ∧ (us ≤ lt ∨ ut ≤ ls)) ∧ ((cUnit cc).2.1.length ≤ 18 ∧ (cUnit cc).2.2.1.length ≤ 18) ∧ Chg 0 0 w w' := by
 have hcp := cur_places cc
 refine sx_enter Tryd.func20 rfl Tryd.ntmps20 (Nat.le_of_ble_eq_true rfl) ?_
 refine sx_seq fun K1 k1 => sx_region ?_
 refine sx_alloc [.bool false, (.slice none 0 0), (.slice none 0 0)] rfl Tryd.zeroValue36 rfl (fun b2 w3 eb2 sb2 fb2 cb2 => ?_)
 have zw3 := cb2.size
 refine wl_nil (q_n (k1 _ _ ?_))
 refine sx_seq fun K4 k4 => ?_
 refine sx_seq fun K5 k5 => sx_region ?_
 refine sm rfl rfl rfl rfl ?_
 refine sx_call rfl rfl Tryd.call58 (c_sCurKnown) (fun v6 w6 p6 => ?_)
 obtain ⟨rfl, c6⟩ := p6
 have zw6 := c6.size
 refine sx_pure rfl rfl rfl (px_notP rfl) ?_
 refine wl_nil (q_n (k5 _ _ ?_))
 refine sx_condP rfl (fun h65 => ?_) (fun h65 => ?_)
 ·
  refine sx_seq fun K7 k7 => sx_region ?_
  refine sx_pure rfl rfl rfl (px_build rfl (xbld36x  _)) ?_
  have f9 := fb2.ext c6
  refine sx_store (vs := [.bool false, (.slice none 0 0), (.slice none 0 0)]) rfl rfl f9 rfl Tryd.sizeOf36 (Nat.le_of_ble_eq_true rfl) (one_cons rfl (one_cons rfl (one_cons rfl one_nil))) (fun w8 sw8 fw8 cw8 => ?_)
  have zw8 := cw8.size
  have gw8 : Blk w8 b2 [.bool false, (.slice none 0 0), (.slice none 0 0)] 36 := fw8
  refine wl_nil (q_n (k7 _ _ ?_))
  refine sx_retc ?_
  refine q_r (sx_ret1 Tryd.results20 ⟨_, rfl, gw8.loadA (vs := [.bool false, (.slice none 0 0), (.slice none 0 0)]) (look_lit rfl) Tryd.isAgg36 Tryd.sizeOf36⟩ ?_)
  rw [cUnit_no (by assumption)]
  have q10 := Chg.step (l := 0) (h := 0) (Chg.zero (l := 0) (h := 0) (cb2.t c6)) cw8 (by omega)
  exact ⟨_, _, w.heap.size, w.heap.size, w.heap.size, w.heap.size, rfl, Own.nil _ _ _ _ _, Own.nil _ _ _ _ _, by omega, ⟨by simp [noR], by simp [noR]⟩, q10⟩
 ·
  refine sx_skip ?_
  refine q_n (k4 _ _ ?_)
  refine sx_seq fun K11 k11 => sx_region ?_
  refine sm rfl rfl rfl rfl ?_
  refine sx_call rfl rfl Tryd.call65 (c_sCurPlaces) (fun v12 w12 p12 => ?_)
  obtain ⟨rfl, c12⟩ := p12
  have zw12 := c12.size
  refine sx_call rfl rfl Tryd.call64 (c_l07Ten (by omega)) (fun v13 w13 p13 => ?_)
  obtain ⟨s13, rfl, os_13, c13⟩ := p13
  have zw13 := c13.size
  refine sx_lit1 rfl xelt22 rfl rfl (fun s14 ws14 ss14 fs14 cs14 => ?_)
  have ns14 := Own.norm (f := (Value.int .i64)) (zs := [1]) fs14
  have zws14 := cs14.size
  refine sx_pure rfl rfl rfl (px_build rfl (xbld36x0x1 ns14.one _)) ?_
  have f16 := fb2.ext c6
  have f17 := f16.ext c12
  have f18 := f17.ext c13
  have f19 := f18.ext cs14
  have f20 := os_13.ext cs14
  refine sx_store (vs := [.bool (ng (tenI ((curOf cc).places))), s13, s14]) rfl rfl f19 rfl Tryd.sizeOf36 (Nat.le_of_ble_eq_true rfl) (one_cons rfl (one_cons f20.one (one_cons ns14.one one_nil))) (fun w15 sw15 fw15 cw15 => ?_)
  have zw15 := cw15.size
  have gw15 : Blk w15 b2 [.bool (ng (tenI ((curOf cc).places))), s13, s14] 36 := fw15
  refine wl_nil (q_n (k11 _ _ ?_))
  refine sx_retc ?_
  refine sx_ret1 Tryd.results20 ⟨_, rfl, gw15.loadA (vs := [.bool (ng (tenI ((curOf cc).places))), s13, s14]) (look_lit rfl) Tryd.isAgg36 Tryd.sizeOf36⟩ ?_
  have hrl := cUnit_len (s := cc)
  have f21 := f20.chg cw15 (by omega)
  have hr1 := f21
  rw [tenI_abs] at hr1
  rw [cUnit_ok (by first | assumption | exact Decidable.not_not.1 (by assumption))] at hrl ⊢
  have q22 := Chg.step (l := 0) (h := 0) (Chg.zero (l := 0) (h := 0) ((((cb2.t c6).t c12).t c13).t cs14)) cw15 (by omega)
  have f23 := ns14.chg cw15 (by omega)
  exact ⟨_, _, _, _, _, _, by rw [← ten_ng], hr1, f23, by omega, hrl, q22⟩

theorem c_natTen {w : World} {k : Int} (hk : 0 ≤ k ∧ k ≤ 449) :
  Ret Tryd.prog 67 [.int .i64 k] w fun v w' => ∃ s, v = s ∧ OwnI w' w.heap.size w'.heap.size s intT (dg (10 ^ (k).toNat)) ∧ Chg 0 0 w w' := by
 refine sx_enter Tryd.func67 rfl Tryd.ntmps67 (Nat.le_of_ble_eq_true rfl) ?_
 refine sx_seq fun K1 k1 => sx_region ?_
 refine sa rfl rfl rfl rfl ?_
 refine wl_nil (q_n (k1 _ _ ?_))
 refine sx_seq fun K2 k2 => sx_region ?_
 refine sm rfl rfl rfl rfl ?_
 refine sx_pure rfl rfl rfl (px_quo rfl rfl (by omega) (by omega) (by omega)) ?_
 refine sm rfl rfl rfl rfl ?_
 refine sx_pure rfl rfl rfl (px_quo rfl rfl (by omega) (by omega) (by omega)) ?_
 refine sx_pure rfl rfl rfl (px_add rfl rfl (by omega)) ?_
 refine sx_makeC (l := (k / 9).toNat) (c := (k / 9).toNat + 1) rfl xelt22 (look_int rfl (by omega)) (look_int rfl (by omega)) (by omega) (by omega) (by unfold maxLen; omega) (fun s3 ws3 fs3 cs3 ls3 => ?_)
 have ns3 := fs3.madeC (by omega)
 have zws3 := cs3.size
 refine sa rfl rfl rfl rfl ?_
 refine wl_nil (q_n (k2 _ _ ?_))
 refine sx_seq fun K4 k4 => sx_region ?_
 refine sa rfl rfl rfl rfl ?_
 refine wl_nil (q_n (k4 _ _ ?_))
 refine sx_seq fun K5 k5 => ?_
 refine sx_seq fun K6 k6 => sx_region ?_
 refine sm rfl rfl rfl rfl ?_
 refine sx_pure rfl rfl rfl (px_rem rfl rfl (by omega) (by omega)) ?_
 refine sm rfl rfl rfl rfl ?_
 refine wl_nil (q_n (k6 _ _ ?_))
 refine sx_block ?_
 refine sx_loop (fun mm aa w' => ∃ (j : Nat) (c : Nat), Agr 22 [(3, s3), (4, .int .i64 ((c : Nat) : Int)), (12, .int .i64 (k % 9)), (13, .int .i64 ↑j)] aa ∧ Chg 0 0 ws3 w' ∧ Own w' w.heap.size ws3.heap.size s3 3 ((List.replicate ((k / 9).toNat) 0).length) 1 ((List.replicate ((k / 9).toNat) 0).map (Value.int .i64)) ∧ (mm = (k % 9).toNat - j) ∧ ((j : Int) ≤ k % 9) ∧ (c = 10 ^ j)) (_) (fun a ha => ⟨0, 1, ha.sub (Sub.cons (t := 3) rfl (.cons (t := 4) (look_int (t := 4) rfl (by first | omega | simp)) (.cons (t := 12) rfl (.cons (t := 13) (look_int (t := 13) rfl (by first | omega | simp)) (.nil))))), Chg.refl _ _ _, (ns3.mono (by omega) (by omega)), rfl, by omega, rfl⟩) ?_
 rintro mm aa wl7 ⟨j, c, hAwl7, cwl7, hs_s3, hm, hj, hc⟩
 refine (show cw Tryd.prog 22 _ _ _ wl7 from ?_) aa hAwl7
 clear hAwl7
 have zwl7 := cwl7.size
 have hb9 := ten_le (j := j) (by omega)
 refine sx_seq fun K8 k8 => sx_region ?_
 refine sx_pure rfl rfl rfl (px_lt rfl rfl) ?_
 refine wl_nil (q_n (k8 _ _ ?_))
 refine sx_seq fun K9 k9 => ?_
 refine sx_condP rfl (fun h110 => ?_) (fun h110 => ?_)
 ·
  refine sx_skip ?_
  refine q_n (k9 _ _ ?_)
  refine sx_seq fun K10 k10 => ?_
  refine sx_block ?_
  refine sx_region ?_
  refine sm rfl rfl rfl rfl ?_
  refine sx_pure rfl rfl rfl (px_mul rfl rfl (by omega)) ?_
  refine sa rfl rfl rfl rfl ?_
  refine wl_nil ?_
  refine q_bn (q_n (k10 _ _ ?_))
  refine sx_region ?_
  refine sx_pure rfl rfl rfl (px_add rfl rfl (by omega)) ?_
  refine sm rfl rfl rfl rfl ?_
  refine wl_nil ?_
  exact fun a ha => ⟨_, by omega, (j + 1), (c * 10), ha.sub (Sub.cons (t := 3) rfl (.cons (t := 4) (look_int (t := 4) rfl (by first | omega | simp)) (.cons (t := 12) rfl (.cons (t := 13) (look_int (t := 13) rfl (by first | omega | simp)) (.nil))))), cwl7, (hs_s3.mono (by omega) (by omega)), rfl, by omega, by rw [hc, Nat.pow_succ]⟩
 ·
  refine sx_exit ?_
  refine q_e (q_e (q_bx (q_n (k5 _ _ ?_))))
  refine sx_seq fun K11 k11 => sx_region ?_
  refine sm rfl rfl rfl rfl ?_
  refine sm rfl rfl rfl rfl ?_
  refine sx_lit1 rfl xelt22 rfl rfl (fun s12 ws12 ss12 fs12 cs12 => ?_)
  have ns12 := Own.norm (f := (Value.int .i64)) (zs := [((c : Nat) : Int)]) fs12
  have zws12 := cs12.size
  have f14 := hs_s3.ext cs12
  refine sx_append rfl xelt22 rfl rfl f14 ns12.sv one_int (by omega) (by simp only [List.length_replicate, List.length_cons, List.length_nil]; omega) (by unfold maxLen; simp only [List.length_replicate, List.length_cons, List.length_nil]; omega) (fun a13 w13 fw13 cw13 => ?_)
  have nw13 := Own.app (f := (Value.int .i64)) (a := List.replicate ((k / 9).toNat) 0) (b := [((c : Nat) : Int)]) fw13
  have zw13 := cw13.size
  refine sa rfl rfl rfl rfl ?_
  refine wl_nil (q_n (k11 _ _ ?_))
  refine sx_retc ?_
  refine sx_ret1 Tryd.results67 rfl ?_
  have hd := ten_dg hk.1 (j := j) (by omega) hc
  rw [← hd]
  have q15 := Chg.step (l := 0) (h := 0) (Chg.zero (l := 0) (h := 0) ((cs3.t cwl7).t cs12)) cw13 (by omega)
  exact ⟨_, rfl, (Own.mono nw13 (by omega) (by omega)), q15⟩

theorem c_iCurUnit {w : World} {cc : ByteArray} (hG0 : Glob w) :
  Ret Tryd.prog 21 [.string cc] w fun v w' => ∃ s t ls us lt ut, v = .agg #[.bool ((cUnit cc).1), s, t] ∧ OwnI w' (ls) (us) s intT ((cUnit cc).2.1) ∧ OwnI w' (lt) (ut) t intT ((cUnit cc).2.2.1) ∧ (w.heap.size ≤ ls ∧ us ≤ w'.heap.size ∧ w.heap.size ≤ lt ∧ ut ≤ w'.heap.size ∧ (us ≤ lt ∨ ut ≤ ls)) ∧ ((cUnit cc).2.1.length ≤ 18 ∧ (cUnit cc).2.2.1.length ≤ 18) ∧ Chg 0 0 w w' := by
 have hcp := cur_places cc
 refine sx_enter Tryd.func21 rfl Tryd.ntmps21 (Nat.le_of_ble_eq_true rfl) ?_
 refine sx_seq fun K1 k1 => sx_region ?_
 refine sx_alloc [.bool false, (.slice none 0 0), (.slice none 0 0)] rfl Tryd.zeroValue36 rfl (fun b2 w3 eb2 sb2 fb2 cb2 => ?_)
 have zw3 := cb2.size
 refine wl_nil (q_n (k1 _ _ ?_))
 refine sx_seq fun K4 k4 => sx_region ?_
 refine sm rfl rfl rfl rfl ?_
 have f5 := hG0.ext cb2
 refine sx_call rfl rfl Tryd.call66 (c_currencyOf f5) (fun v6 w6 p6 => ?_)
 obtain ⟨rfl, c6⟩ := p6
 have zw6 := c6.size
 refine sm rfl rfl rfl rfl ?_
 refine sx_pure rfl rfl rfl (px_extract (vs := [.agg #[.string ((curOf cc).code), .string ((curOf cc).number), .int .i64 ((curOf cc).places), .int .i64 ((curOf cc).cash)], .bool (decide (Known cc))]) rfl rfl) ?_
 refine sx_pure rfl rfl rfl (px_extract (vs := [.agg #[.string ((curOf cc).code), .string ((curOf cc).number), .int .i64 ((curOf cc).places), .int .i64 ((curOf cc).cash)], .bool (decide (Known cc))]) rfl rfl) ?_
 refine sx_alloc [.string (⟨#[]⟩), .string (⟨#[]⟩), .int .i64 0, .int .i64 0] rfl Tryd.zeroValue93 rfl (fun b7 w8 eb7 sb7 fb7 cb7 => ?_)
 have zw8 := cb7.size
 refine sx_store (vs := [.string ((curOf cc).code), .string ((curOf cc).number), .int .i64 ((curOf cc).places), .int .i64 ((curOf cc).cash)]) rfl rfl fb7 rfl Tryd.sizeOf93 (Nat.le_of_ble_eq_true rfl) (one_cons rfl (one_cons rfl (one_cons rfl (one_cons rfl one_nil)))) (fun w9 sw9 fw9 cw9 => ?_)
 have zw9 := cw9.size
 have gw9 : Blk w9 b7 [.string ((curOf cc).code), .string ((curOf cc).number), .int .i64 ((curOf cc).places), .int .i64 ((curOf cc).cash)] 93 := fw9
 refine sa rfl rfl rfl rfl ?_
 refine wl_nil (q_n (k4 _ _ ?_))
 refine sx_seq fun K10 k10 => ?_
 refine sx_seq fun K11 k11 => sx_region ?_
 refine sm rfl rfl rfl rfl ?_
 refine sx_pure rfl rfl rfl (px_notP rfl) ?_
 refine wl_nil (q_n (k11 _ _ ?_))
 refine sx_condP rfl (fun h94 => ?_) (fun h94 => ?_)
 ·
  refine sx_seq fun K12 k12 => sx_region ?_
  refine sx_pure rfl rfl rfl (px_build rfl (xbld36x  _)) ?_
  have f14 := fb2.ext c6
  have f15 := f14.ext cb7
  have f16 := f15.chg cw9 (by omega)
  refine sx_store (vs := [.bool false, (.slice none 0 0), (.slice none 0 0)]) rfl rfl f16 rfl Tryd.sizeOf36 (Nat.le_of_ble_eq_true rfl) (one_cons rfl (one_cons rfl (one_cons rfl one_nil))) (fun w13 sw13 fw13 cw13 => ?_)
  have zw13 := cw13.size
  have gw13 : Blk w13 b2 [.bool false, (.slice none 0 0), (.slice none 0 0)] 36 := fw13
  refine wl_nil (q_n (k12 _ _ ?_))
  refine sx_retc ?_
  refine q_r (sx_ret1 Tryd.results21 ⟨_, rfl, gw13.loadA (vs := [.bool false, (.slice none 0 0), (.slice none 0 0)]) (look_lit rfl) Tryd.isAgg36 Tryd.sizeOf36⟩ ?_)
  rw [cUnit_no (by assumption)]
  have q17 := Chg.step (l := 0) (h := 0) (Chg.zero (l := 0) (h := 0) ((cb2.t c6).t cb7)) cw9 (by omega)
  have q18 := Chg.step (l := 0) (h := 0) q17 cw13 (by omega)
  exact ⟨_, _, w.heap.size, w.heap.size, w.heap.size, w.heap.size, rfl, Own.nil _ _ _ _ _, Own.nil _ _ _ _ _, by omega, ⟨by simp [noR], by simp [noR]⟩, q18⟩
 ·
  refine sx_skip ?_
  refine q_n (k10 _ _ ?_)
  refine sx_seq fun K19 k19 => sx_region ?_
  refine sx_pure rfl rfl rfl (px_field rfl xfld93x2) ?_
  refine sx_pure rfl rfl rfl (px_load rfl (gw9.load1 rfl Tryd.isAgg3)) ?_
  refine sx_call rfl rfl Tryd.call67 (c_natTen (by omega)) (fun v20 w20 p20 => ?_)
  obtain ⟨s20, rfl, os_20, c20⟩ := p20
  have zw20 := c20.size
  refine sx_pure rfl rfl rfl (px_build rfl (xbld29x0x1 rfl os_20.one _)) ?_
  refine sx_lit1 rfl xelt22 rfl rfl (fun s21 ws21 ss21 fs21 cs21 => ?_)
  have ns21 := Own.norm (f := (Value.int .i64)) (zs := [1]) fs21
  have zws21 := cs21.size
  refine sx_pure rfl rfl rfl (px_build rfl (xbld36x0x1 ns21.one _)) ?_
  have f23 := fb2.ext c6
  have f24 := f23.ext cb7
  have f25 := f24.chg cw9 (by omega)
  have f26 := f25.ext c20
  have f27 := f26.ext cs21
  have f28 := os_20.ext cs21
  refine sx_store (vs := [.bool false, v20, s21]) rfl rfl f27 rfl Tryd.sizeOf36 (Nat.le_of_ble_eq_true rfl) (one_cons rfl (one_cons f28.one (one_cons ns21.one one_nil))) (fun w22 sw22 fw22 cw22 => ?_)
  have zw22 := cw22.size
  have gw22 : Blk w22 b2 [.bool false, v20, s21] 36 := fw22
  refine wl_nil (q_n (k19 _ _ ?_))
  refine sx_sub (Sub.cons (t := 2) rfl (.nil)) ?_
  refine sx_retc ?_
  refine sx_ret1 Tryd.results21 ⟨_, rfl, gw22.loadA (vs := [.bool false, v20, s21]) (look_lit rfl) Tryd.isAgg36 Tryd.sizeOf36⟩ ?_
  have hrl := cUnit_len (s := cc)
  rw [cUnit_ok (by first | assumption | exact Decidable.not_not.1 (by assumption))] at hrl ⊢
  have q29 := Chg.step (l := 0) (h := 0) (Chg.zero (l := 0) (h := 0) ((cb2.t c6).t cb7)) cw9 (by omega)
  have q30 := Chg.step (l := 0) (h := 0) q29 (c20.t cs21) (by omega)
  have q31 := Chg.step (l := 0) (h := 0) q30 cw22 (by omega)
  have f32 := f28.chg cw22 (by omega)
  have f33 := ns21.chg cw22 (by omega)
  exact ⟨_, _, _, _, _, _, rfl, f32, f33, by omega, hrl, q31⟩

theorem c_eqRat {w : World} {n1 : Bool} {v1 : Value} {lv1 uv1 : Nat} {z1 : List Int} {d1 : Value} {ld1 ud1 : Nat} {y1 : List Int} {n2 : Bool} {v2 : Value} {lv2 uv2 : Nat} {z2 : List Int} {d2 : Value} {ld2 ud2 : Nat} {y2 : List Int} (hv1 : Sl w lv1 uv1 v1 (z1)) (hd1 : Sl w ld1 ud1 d1 (y1)) (hv2 : Sl w lv2 uv2 v2 (z2)) (hd2 : Sl w ld2 ud2 d2 (y2)) (h63 : z1.length ≤ 4611686018427387904 ∧ y1.length ≤ 4611686018427387904 ∧ z2.length ≤ 4611686018427387904 ∧ y2.length ≤ 4611686018427387904) :
  Ret Tryd.prog 22 [.agg #[.bool n1, v1, d1], .agg #[.bool n2, v2, d2]] w fun v w' => v = .bool (decide (n1 = n2 ∧ z1 = z2 ∧ y1 = y2)) ∧ Chg 0 0 w w' := by
 have hv10 := hv1.fit
 have hd10 := hd1.fit
 have hv20 := hv2.fit
 have hd20 := hd2.fit
 refine sx_enter Tryd.func22 rfl Tryd.ntmps22 (Nat.le_of_ble_eq_true rfl) ?_
 refine sx_seq fun K1 k1 => sx_region ?_
 refine sx_box [.bool n1, v1, d1] rfl rfl rfl (fun b2 w3 eb2 sb2 fb2 cb2 => ?_)
 have zw3 := cb2.size
 refine sx_box [.bool n2, v2, d2] rfl rfl rfl (fun b4 w5 eb4 sb4 fb4 cb4 => ?_)
 have zw5 := cb4.size
 refine sa rfl rfl rfl rfl ?_
 refine wl_nil (q_n (k1 _ _ ?_))
 refine sx_seq fun K6 k6 => ?_
 refine sx_seq fun K7 k7 => sx_region ?_
 refine sx_pure rfl rfl rfl (px_field rfl xfld36x0) ?_
 have f8 := fb2.ext cb4
 refine sx_pure rfl rfl rfl (px_load rfl (f8.loadA (vs := [.bool n1, v1]) (look_lit rfl) Tryd.isAgg29 Tryd.sizeOf29)) ?_
 refine sx_pure rfl rfl rfl (px_field rfl xfld36x0) ?_
 refine sx_pure rfl rfl rfl (px_load rfl (fb4.loadA (vs := [.bool n2, v2]) (look_lit rfl) Tryd.isAgg29 Tryd.sizeOf29)) ?_
 have f9 := hv10.ext cb2
 have f10 := f9.ext cb4
 have f11 := hv20.ext cb2
 have f12 := f11.ext cb4
 refine sx_call rfl rfl Tryd.call63 (c_eqSigned f10 f12 (by omega)) (fun v13 w13 p13 => ?_)
 obtain ⟨rfl, c13⟩ := p13
 have zw13 := c13.size
 refine sx_pure rfl rfl rfl (px_notP rfl) ?_
 refine wl_nil (q_n (k7 _ _ ?_))
 refine sx_condP rfl (fun h362 => ?_) (fun h362 => ?_)
 ·
  refine sx_seq fun K14 k14 => sx_region ?_
  refine sa rfl rfl rfl rfl ?_
  refine wl_nil (q_n (k14 _ _ ?_))
  refine sx_retc ?_
  refine q_r (sx_ret1 Tryd.results22 rfl ?_)
  exact ⟨(by first | exact bTrue (by grind) | exact bFalse (by grind) | exact bIff (by grind)), ((cb2.t cb4).t c13)⟩
 ·
  refine sx_skip ?_
  refine q_n (k6 _ _ ?_)
  refine sx_seq fun K15 k15 => ?_
  refine sx_seq fun K16 k16 => sx_region ?_
  refine sx_pure rfl rfl rfl (px_field rfl xfld36x1) ?_
  have f17 := f8.ext c13
  refine sx_pure rfl rfl rfl (px_load rfl (f17.load1 rfl Tryd.isAgg22)) ?_
  refine sx_pure rfl rfl rfl (px_field rfl xfld36x1) ?_
  have f18 := fb4.ext c13
  refine sx_pure rfl rfl rfl (px_load rfl (f18.load1 rfl Tryd.isAgg22)) ?_
  have f19 := hd10.ext cb2
  have f20 := f19.ext cb4
  have f21 := f20.ext c13
  have f22 := hd20.ext cb2
  have f23 := f22.ext cb4
  have f24 := f23.ext c13
  refine sx_call rfl rfl Tryd.call68 (c_eqIntS f21 f24 (by omega)) (fun v25 w25 p25 => ?_)
  obtain ⟨rfl, c25⟩ := p25
  have zw25 := c25.size
  refine sx_pure rfl rfl rfl (px_notP rfl) ?_
  refine wl_nil (q_n (k16 _ _ ?_))
  refine sx_sub (Sub.cons (t := 4) rfl (.cons (t := 16) rfl (.nil))) ?_
  refine sx_condP rfl (fun h365 => ?_) (fun h365 => ?_)
  ·
   refine sx_seq fun K26 k26 => sx_region ?_
   refine sa rfl rfl rfl rfl ?_
   refine wl_nil (q_n (k26 _ _ ?_))
   refine sx_retc ?_
   refine q_r (sx_ret1 Tryd.results22 rfl ?_)
   exact ⟨(by first | exact bTrue (by grind) | exact bFalse (by grind) | exact bIff (by grind)), (((cb2.t cb4).t c13).t c25)⟩
  ·
   refine sx_skip ?_
   refine q_n (k15 _ _ ?_)
   refine sx_seq fun K27 k27 => sx_region ?_
   refine sa rfl rfl rfl rfl ?_
   refine wl_nil (q_n (k27 _ _ ?_))
   refine sx_retc ?_
   refine sx_ret1 Tryd.results22 rfl ?_
   exact ⟨(by first | exact bTrue (by grind) | exact bFalse (by grind) | exact bIff (by grind)), (((cb2.t cb4).t c13).t c25)⟩

theorem c_markRat {w : World} {n1 : Bool} {v1 : Value} {lv1 uv1 : Nat} {z1 : List Int} {d1 : Value} {ld1 ud1 : Nat} {y1 : List Int} {n : Int} (hv1 : OwnI w lv1 uv1 v1 intT (z1)) (hd1 : OwnI w ld1 ud1 d1 intT (y1)) (h63 : z1.length ≤ 1048576 ∧ y1.length ≤ 1048576) (hn : 0 ≤ n ∧ n ≤ 4000000000000000000) (hdd : (uv1 ≤ ld1 ∨ ud1 ≤ lv1) ∧ uv1 ≤ w.heap.size ∧ ud1 ≤ w.heap.size) :
  Ret Tryd.prog 23 [.agg #[.bool n1, v1, d1], .int .i64 n] w fun v w' => v = .int .i64 (n + ↑(z1).length + ↑(y1).length) ∧ OwnI w' (lv1) (uv1) v1 intT (mk n (z1).length) ∧ OwnI w' (ld1) (ud1) d1 intT (mk (n + ↑(z1).length) (y1).length) ∧ Chg (min lv1 ld1) (max uv1 ud1) w w' := by
 refine sx_enter Tryd.func23 rfl Tryd.ntmps23 (Nat.le_of_ble_eq_true rfl) ?_
 refine sx_seq fun K1 k1 => sx_region ?_
 refine sx_box [.bool n1, v1, d1] rfl rfl rfl (fun b2 w3 eb2 sb2 fb2 cb2 => ?_)
 have zw3 := cb2.size
 refine sa rfl rfl rfl rfl ?_
 refine wl_nil (q_n (k1 _ _ ?_))
 refine sx_seq fun K4 k4 => sx_region ?_
 refine sx_pure rfl rfl rfl (px_field rfl xfld36x0) ?_
 refine sx_pure rfl rfl rfl (px_load rfl (fb2.loadA (vs := [.bool n1, v1]) (look_lit rfl) Tryd.isAgg29 Tryd.sizeOf29)) ?_
 refine sm rfl rfl rfl rfl ?_
 have f5 := hv1.ext cb2
 refine sx_call rfl rfl Tryd.call69 (c_markSigned f5 (by omega) (by omega)) (fun v6 w6 p6 => ?_)
 obtain ⟨rfl, ov1_6, c6⟩ := p6
 have zw6 := c6.size
 refine sa rfl rfl rfl rfl ?_
 refine wl_nil (q_n (k4 _ _ ?_))
 refine sx_seq fun K7 k7 => sx_region ?_
 refine sx_pure rfl rfl rfl (px_field rfl xfld36x1) ?_
 have f8 := fb2.chg c6 (by omega)
 refine sx_pure rfl rfl rfl (px_load rfl (f8.load1 rfl Tryd.isAgg22)) ?_
 refine sm rfl rfl rfl rfl ?_
 have f9 := hd1.ext cb2
 have f10 := f9.chg c6 (by omega)
 refine sx_call rfl rfl Tryd.call70 (c_markIntS f10 (by omega) (by omega)) (fun v11 w11 p11 => ?_)
 obtain ⟨rfl, ova_11, c11⟩ := p11
 have zw11 := c11.size
 refine sa rfl rfl rfl rfl ?_
 refine wl_nil (q_n (k7 _ _ ?_))
 refine sx_seq fun K12 k12 => sx_region ?_
 refine sm rfl rfl rfl rfl ?_
 refine sa rfl rfl rfl rfl ?_
 refine wl_nil (q_n (k12 _ _ ?_))
 refine sx_retc ?_
 refine sx_ret1 Tryd.results23 rfl ?_
 have f13 := ov1_6.chg c11 (by omega)
 have q14 := Chg.step (l := (min lv1 ld1)) (h := (max uv1 ud1)) (Chg.zero (l := (min lv1 ld1)) (h := (max uv1 ud1)) cb2) c6 (by omega)
 have q15 := Chg.step (l := (min lv1 ld1)) (h := (max uv1 ud1)) q14 c11 (by omega)
 exact ⟨rfl, f13, ova_11, q15⟩

theorem c_heldRat {w : World} {n1 : Bool} {v1 : Value} {lv1 uv1 : Nat} {z1 : List Int} {d1 : Value} {ld1 ud1 : Nat} {y1 : List Int} {n : Int} (hv1 : Sl w lv1 uv1 v1 (z1)) (hd1 : Sl w ld1 ud1 d1 (y1)) (h63 : z1.length ≤ 1048576 ∧ y1.length ≤ 1048576) (hn : 0 ≤ n ∧ n ≤ 4000000000000000000) (hz : z1 = mk n z1.length ∧ y1 = mk (n + ↑z1.length) y1.length) :
  Ret Tryd.prog 24 [.agg #[.bool n1, v1, d1], .int .i64 n] w fun v w' => v = .int .i64 (n + ↑(z1).length + ↑(y1).length) ∧ Chg 0 0 w w' := by
 have hv10 := hv1.fit
 have hd10 := hd1.fit
 have hz1 := hz.1
 have hz2 := hz.2
 refine sx_enter Tryd.func24 rfl Tryd.ntmps24 (Nat.le_of_ble_eq_true rfl) ?_
 refine sx_seq fun K1 k1 => sx_region ?_
 refine sx_box [.bool n1, v1, d1] rfl rfl rfl (fun b2 w3 eb2 sb2 fb2 cb2 => ?_)
 have zw3 := cb2.size
 refine sa rfl rfl rfl rfl ?_
 refine wl_nil (q_n (k1 _ _ ?_))
 refine sx_seq fun K4 k4 => sx_region ?_
 refine sx_pure rfl rfl rfl (px_field rfl xfld36x0) ?_
 refine sx_pure rfl rfl rfl (px_load rfl (fb2.loadA (vs := [.bool n1, v1]) (look_lit rfl) Tryd.isAgg29 Tryd.sizeOf29)) ?_
 refine sm rfl rfl rfl rfl ?_
 have f5 := hv10.ext cb2
 refine sx_call rfl rfl Tryd.call71 (c_heldSigned f5 (by first | omega | (simp only [mk_length]; omega)) (by omega) (by first | assumption | simp [mk_length])) (fun v6 w6 p6 => ?_)
 obtain ⟨rfl, c6⟩ := p6
 have zw6 := c6.size
 refine sa rfl rfl rfl rfl ?_
 refine wl_nil (q_n (k4 _ _ ?_))
 refine sx_seq fun K7 k7 => ?_
 refine sx_seq fun K8 k8 => sx_region ?_
 refine sm rfl rfl rfl rfl ?_
 refine sx_pure rfl rfl rfl (px_lt rfl rfl) ?_
 refine wl_nil (q_n (k8 _ _ ?_))
 have h379 : ¬ ((n + ↑(z1).length : Int) < 0) := by omega
 refine sx_condPF rfl h379 ?_
 refine sx_skip ?_
 refine q_n (k7 _ _ ?_)
 refine sx_seq fun K9 k9 => sx_region ?_
 refine sx_pure rfl rfl rfl (px_field rfl xfld36x1) ?_
 have f10 := fb2.ext c6
 refine sx_pure rfl rfl rfl (px_load rfl (f10.load1 rfl Tryd.isAgg22)) ?_
 refine sm rfl rfl rfl rfl ?_
 have f11 := hd10.ext cb2
 have f12 := f11.ext c6
 refine sx_call rfl rfl Tryd.call72 (c_heldIntS f12 (by omega) (by omega) (by first | assumption | simp [mk_length])) (fun v13 w13 p13 => ?_)
 obtain ⟨rfl, c13⟩ := p13
 have zw13 := c13.size
 refine sa rfl rfl rfl rfl ?_
 refine wl_nil (q_n (k9 _ _ ?_))
 refine sx_seq fun K14 k14 => ?_
 refine sx_seq fun K15 k15 => sx_region ?_
 refine sm rfl rfl rfl rfl ?_
 refine sx_pure rfl rfl rfl (px_lt rfl rfl) ?_
 refine wl_nil (q_n (k15 _ _ ?_))
 refine sx_sub (Sub.cons (t := 1) rfl (.cons (t := 4) rfl (.cons (t := 16) rfl (.nil)))) ?_
 have h383 : ¬ (((n + ↑(z1).length) + ↑(y1).length : Int) < 0) := by omega
 refine sx_condPF rfl h383 ?_
 refine sx_skip ?_
 refine q_n (k14 _ _ ?_)
 refine sx_seq fun K16 k16 => sx_region ?_
 refine sm rfl rfl rfl rfl ?_
 refine sa rfl rfl rfl rfl ?_
 refine wl_nil (q_n (k16 _ _ ?_))
 refine sx_retc ?_
 refine sx_ret1 Tryd.results24 rfl ?_
 exact ⟨rfl, ((cb2.t c6).t c13)⟩

theorem c_szDec {w : World} {n1 : Bool} {v1 : Value} {lv1 uv1 : Nat} {z1 : List Int} {p1 : Int} {n : Int} (hv1 : Sl w lv1 uv1 v1 (z1)) (bz1 : z1.length ≤ 9223372036854775807) (hn : 0 ≤ n ∧ n ≤ 1048576) :
  Ret Tryd.prog 77 [.agg #[.bool n1, v1, .int .i64 p1], .int .i64 n] w fun v w' => ∃ r, v = .int .i64 (r) ∧ (r < 0 ∨ (0 ≤ r ∧ r = n - (z1).length)) ∧ Chg 0 0 w w' := by
 have hv10 := hv1.fit
 refine sx_enter Tryd.func77 rfl Tryd.ntmps77 (Nat.le_of_ble_eq_true rfl) ?_
 refine sx_seq fun K1 k1 => sx_region ?_
 refine sx_box [.bool n1, v1, .int .i64 p1] rfl rfl rfl (fun b2 w3 eb2 sb2 fb2 cb2 => ?_)
 have zw3 := cb2.size
 refine sa rfl rfl rfl rfl ?_
 refine wl_nil (q_n (k1 _ _ ?_))
 refine sx_seq fun K4 k4 => sx_region ?_
 refine sx_pure rfl rfl rfl (px_field rfl xfld46x0) ?_
 refine sx_pure rfl rfl rfl (px_load rfl (fb2.loadA (vs := [.bool n1, v1]) (look_lit rfl) Tryd.isAgg24 Tryd.sizeOf24)) ?_
 refine sm rfl rfl rfl rfl ?_
 have f5 := hv10.ext cb2
 refine sx_call rfl rfl Tryd.call57 (c_szSigned f5 (by omega) (by omega)) (fun v6 w6 p6 => ?_)
 obtain ⟨r6, rfl, hr6, c6⟩ := p6
 have zw6 := c6.size
 refine sa rfl rfl rfl rfl ?_
 refine wl_nil (q_n (k4 _ _ ?_))
 refine sx_seq fun K7 k7 => ?_
 refine sx_seq fun K8 k8 => sx_region ?_
 refine sm rfl rfl rfl rfl ?_
 refine sx_pure rfl rfl rfl (px_lt rfl rfl) ?_
 refine wl_nil (q_n (k8 _ _ ?_))
 refine sx_condP rfl (fun h398 => ?_) (fun h398 => ?_)
 ·
  refine sx_seq fun K9 k9 => sx_region ?_
  refine sa rfl rfl rfl rfl ?_
  refine wl_nil (q_n (k9 _ _ ?_))
  refine sx_retc ?_
  refine q_r (sx_ret1 Tryd.results77 rfl ?_)
  exact ⟨_, rfl, by omega, (cb2.t c6)⟩
 ·
  refine sx_skip ?_
  refine q_n (k7 _ _ ?_)
  refine sx_seq fun K10 k10 => sx_region ?_
  refine sm rfl rfl rfl rfl ?_
  refine sa rfl rfl rfl rfl ?_
  refine wl_nil (q_n (k10 _ _ ?_))
  refine sx_retc ?_
  refine sx_ret1 Tryd.results77 rfl ?_
  exact ⟨_, rfl, by omega, (cb2.t c6)⟩

theorem c_szRate {w : World} {f1 : ByteArray} {t1 : ByteArray} {n1 : Bool} {v1 : Value} {lv1 uv1 : Nat} {z1 : List Int} {p1 : Int} {n : Int} (hv1 : Sl w lv1 uv1 v1 (z1)) (bf1 : f1.size ≤ 9223372036854775807) (bt1 : t1.size ≤ 9223372036854775807) (bz1 : z1.length ≤ 9223372036854775807) (hn : 0 ≤ n ∧ n ≤ 1048576) :
  Ret Tryd.prog 29 [.agg #[.string f1, .string t1, .bool n1, v1, .int .i64 p1], .int .i64 n] w fun v w' => ∃ r, v = .int .i64 (r) ∧ (r < 0 ∨ (0 ≤ r ∧ r ≤ n - (z1).length)) ∧ Chg 0 0 w w' := by
 have hv10 := hv1.fit
 refine sx_enter Tryd.func29 rfl Tryd.ntmps29 (Nat.le_of_ble_eq_true rfl) ?_
 refine sx_seq fun K1 k1 => sx_region ?_
 refine sx_box [.string f1, .string t1, .bool n1, v1, .int .i64 p1] rfl rfl rfl (fun b2 w3 eb2 sb2 fb2 cb2 => ?_)
 have zw3 := cb2.size
 refine sa rfl rfl rfl rfl ?_
 refine wl_nil (q_n (k1 _ _ ?_))
 refine sx_seq fun K4 k4 => sx_region ?_
 refine sm rfl rfl rfl rfl ?_
 refine sx_pure rfl rfl rfl (px_field rfl xfld48x0) ?_
 refine sx_pure rfl rfl rfl (px_load rfl (fb2.load1 rfl Tryd.isAgg9)) ?_
 refine sx_pure rfl rfl rfl (px_lenS rfl Tryd.underlying9) ?_
 refine sx_pure rfl rfl rfl (px_sub rfl rfl (by omega)) ?_
 refine sa rfl rfl rfl rfl ?_
 refine wl_nil (q_n (k4 _ _ ?_))
 refine sx_seq fun K5 k5 => ?_
 refine sx_seq fun K6 k6 => sx_region ?_
 refine sm rfl rfl rfl rfl ?_
 refine sx_pure rfl rfl rfl (px_lt rfl rfl) ?_
 refine wl_nil (q_n (k6 _ _ ?_))
 refine sx_condP rfl (fun h542 => ?_) (fun h542 => ?_)
 ·
  refine sx_seq fun K7 k7 => sx_region ?_
  refine sa rfl rfl rfl rfl ?_
  refine wl_nil (q_n (k7 _ _ ?_))
  refine sx_retc ?_
  refine q_r (sx_ret1 Tryd.results29 rfl ?_)
  exact ⟨_, rfl, by omega, cb2⟩
 ·
  refine sx_skip ?_
  refine q_n (k5 _ _ ?_)
  refine sx_seq fun K8 k8 => sx_region ?_
  refine sm rfl rfl rfl rfl ?_
  refine sx_pure rfl rfl rfl (px_field rfl xfld48x1) ?_
  refine sx_pure rfl rfl rfl (px_load rfl (fb2.load1 rfl Tryd.isAgg9)) ?_
  refine sx_pure rfl rfl rfl (px_lenS rfl Tryd.underlying9) ?_
  refine sx_pure rfl rfl rfl (px_sub rfl rfl (by omega)) ?_
  refine sa rfl rfl rfl rfl ?_
  refine wl_nil (q_n (k8 _ _ ?_))
  refine sx_sub (Sub.cons (t := 1) rfl (.cons (t := 2) rfl (.cons (t := 4) rfl (.nil)))) ?_
  refine sx_seq fun K9 k9 => ?_
  refine sx_seq fun K10 k10 => sx_region ?_
  refine sm rfl rfl rfl rfl ?_
  refine sx_pure rfl rfl rfl (px_lt rfl rfl) ?_
  refine wl_nil (q_n (k10 _ _ ?_))
  refine sx_condP rfl (fun h546 => ?_) (fun h546 => ?_)
  ·
   refine sx_seq fun K11 k11 => sx_region ?_
   refine sa rfl rfl rfl rfl ?_
   refine wl_nil (q_n (k11 _ _ ?_))
   refine sx_retc ?_
   refine q_r (sx_ret1 Tryd.results29 rfl ?_)
   exact ⟨_, rfl, by omega, cb2⟩
  ·
   refine sx_skip ?_
   refine q_n (k9 _ _ ?_)
   refine sx_seq fun K12 k12 => sx_region ?_
   refine sx_pure rfl rfl rfl (px_field rfl xfld48x2) ?_
   refine sx_pure rfl rfl rfl (px_load rfl (fb2.loadA (vs := [.bool n1, v1, .int .i64 p1]) (look_lit rfl) Tryd.isAgg46 Tryd.sizeOf46)) ?_
   refine sm rfl rfl rfl rfl ?_
   have f13 := hv10.ext cb2
   refine sx_call rfl rfl Tryd.call77 (c_szDec f13 (by omega) (by omega)) (fun v14 w14 p14 => ?_)
   obtain ⟨r14, rfl, hr14, c14⟩ := p14
   have zw14 := c14.size
   refine sa rfl rfl rfl rfl ?_
   refine wl_nil (q_n (k12 _ _ ?_))
   refine sx_seq fun K15 k15 => ?_
   refine sx_seq fun K16 k16 => sx_region ?_
   refine sm rfl rfl rfl rfl ?_
   refine sx_pure rfl rfl rfl (px_lt rfl rfl) ?_
   refine wl_nil (q_n (k16 _ _ ?_))
   refine sx_condP rfl (fun h550 => ?_) (fun h550 => ?_)
   ·
    refine sx_seq fun K17 k17 => sx_region ?_
    refine sa rfl rfl rfl rfl ?_
    refine wl_nil (q_n (k17 _ _ ?_))
    refine sx_retc ?_
    refine q_r (sx_ret1 Tryd.results29 rfl ?_)
    exact ⟨_, rfl, by omega, (cb2.t c14)⟩
   ·
    refine sx_skip ?_
    refine q_n (k15 _ _ ?_)
    refine sx_seq fun K18 k18 => sx_region ?_
    refine sm rfl rfl rfl rfl ?_
    refine sa rfl rfl rfl rfl ?_
    refine wl_nil (q_n (k18 _ _ ?_))
    refine sx_retc ?_
    refine sx_ret1 Tryd.results29 rfl ?_
    exact ⟨_, rfl, by omega, (cb2.t c14)⟩

theorem c_toDec {w : World} {n1 : Bool} {v1 : Value} {lv1 uv1 : Nat} {z1 : List Int} {p1 : Int} (hv1 : Sl w lv1 uv1 v1 (z1)) (bz1 : z1.length ≤ 1048576) :
  Ret Tryd.prog 80 [.agg #[.bool n1, v1, .int .i64 p1]] w fun v w' => ∃ s1, v = .agg #[.bool (n1), s1, .int .i64 (p1)] ∧ OwnI w' w.heap.size w'.heap.size s1 intT (z1) ∧ Chg 0 0 w w' := by
 have hv10 := hv1.fit
 refine sx_enter Tryd.func80 rfl Tryd.ntmps80 (Nat.le_of_ble_eq_true rfl) ?_
 refine sx_seq fun K1 k1 => sx_region ?_
 refine sx_box [.bool n1, v1, .int .i64 p1] rfl rfl rfl (fun b2 w3 eb2 sb2 fb2 cb2 => ?_)
 have zw3 := cb2.size
 refine sx_alloc [.bool false, (.slice none 0 0), .int .i64 0] rfl Tryd.zeroValue52 rfl (fun b4 w5 eb4 sb4 fb4 cb4 => ?_)
 have zw5 := cb4.size
 refine wl_nil (q_n (k1 _ _ ?_))
 refine sx_seq fun K6 k6 => sx_region ?_
 refine sx_alloc [.bool false, (.slice none 0 0), .int .i64 0] rfl Tryd.zeroValue52 rfl (fun b7 w8 eb7 sb7 fb7 cb7 => ?_)
 have zw8 := cb7.size
 refine wl_nil (q_n (k6 _ _ ?_))
 refine sx_seq fun K9 k9 => sx_region ?_
 refine sx_pure rfl rfl rfl (px_field rfl xfld46x0) ?_
 have f10 := fb2.ext cb4
 have f11 := f10.ext cb7
 refine sx_pure rfl rfl rfl (px_load rfl (f11.loadA (vs := [.bool n1, v1]) (look_lit rfl) Tryd.isAgg24 Tryd.sizeOf24)) ?_
 have f12 := hv10.ext cb2
 have f13 := f12.ext cb4
 have f14 := f13.ext cb7
 refine sx_call rfl rfl Tryd.call60 (c_toSigned f14 (by omega)) (fun v15 w15 p15 => ?_)
 obtain ⟨s115, rfl, os1_15, c15⟩ := p15
 have zw15 := c15.size
 refine sx_pure rfl rfl rfl (px_field rfl xfld52x0) ?_
 have f17 := fb7.ext c15
 refine sx_store (vs := [.bool n1, s115]) rfl rfl f17 rfl Tryd.sizeOf29 (Nat.le_of_ble_eq_true rfl) (one_cons rfl (one_cons os1_15.one one_nil)) (fun w16 sw16 fw16 cw16 => ?_)
 have zw16 := cw16.size
 have gw16 : Blk w16 b7 [.bool n1, s115, .int .i64 0] 52 := fw16
 refine wl_nil (q_n (k9 _ _ ?_))
 refine sx_seq fun K18 k18 => sx_region ?_
 refine sx_pure rfl rfl rfl (px_field rfl xfld46x1) ?_
 have f19 := f11.ext c15
 have f20 := f19.chg cw16 (by omega)
 refine sx_pure rfl rfl rfl (px_load rfl (f20.load1 rfl Tryd.isAgg3)) ?_
 refine sx_pure rfl rfl rfl (px_field rfl xfld52x1) ?_
 refine sx_store (vs := [.int .i64 p1]) rfl rfl gw16 rfl Tryd.sizeOf3 (Nat.le_of_ble_eq_true rfl) (one_cons rfl one_nil) (fun w21 sw21 fw21 cw21 => ?_)
 have zw21 := cw21.size
 have gw21 : Blk w21 b7 [.bool n1, s115, .int .i64 p1] 52 := fw21
 refine wl_nil (q_n (k18 _ _ ?_))
 refine sx_seq fun K22 k22 => sx_region ?_
 refine sx_pure rfl rfl rfl (px_load rfl (gw21.loadA (vs := [.bool n1, s115, .int .i64 p1]) (look_lit rfl) Tryd.isAgg52 Tryd.sizeOf52)) ?_
 have f24 := fb4.ext cb7
 have f25 := f24.ext c15
 have f26 := f25.chg cw16 (by omega)
 have f27 := f26.chg cw21 (by omega)
 have f28 := os1_15.chg cw16 (by omega)
 have f29 := f28.chg cw21 (by omega)
 refine sx_store (vs := [.bool n1, s115, .int .i64 p1]) rfl rfl f27 rfl Tryd.sizeOf52 (Nat.le_of_ble_eq_true rfl) (one_cons rfl (one_cons f29.one (one_cons rfl one_nil))) (fun w23 sw23 fw23 cw23 => ?_)
 have zw23 := cw23.size
 have gw23 : Blk w23 b4 [.bool n1, s115, .int .i64 p1] 52 := fw23
 refine wl_nil (q_n (k22 _ _ ?_))
 refine sx_retc ?_
 refine sx_ret1 Tryd.results80 ⟨_, rfl, gw23.loadA (vs := [.bool n1, s115, .int .i64 p1]) (look_lit rfl) Tryd.isAgg52 Tryd.sizeOf52⟩ ?_
 have q30 := Chg.step (l := 0) (h := 0) (Chg.zero (l := 0) (h := 0) (((cb2.t cb4).t cb7).t c15)) cw16 (by omega)
 have q31 := Chg.step (l := 0) (h := 0) q30 cw21 (by omega)
 have q32 := Chg.step (l := 0) (h := 0) q31 cw23 (by omega)
 have f33 := f29.chg cw23 (by omega)
 exact ⟨_, rfl, Own.mono f33 (by omega) (by omega), q32⟩

theorem c_toRate {w : World} {f1 : ByteArray} {t1 : ByteArray} {n1 : Bool} {v1 : Value} {lv1 uv1 : Nat} {z1 : List Int} {p1 : Int} (hv1 : Sl w lv1 uv1 v1 (z1)) (bz1 : z1.length ≤ 1048576) :
  Ret Tryd.prog 31 [.agg #[.string f1, .string t1, .bool n1, v1, .int .i64 p1]] w fun v w' => ∃ s, v = .agg #[.string (f1), .string (t1), .bool (n1), s, .int .i64 (p1)] ∧ OwnI w' w.heap.size w'.heap.size s intT (z1) ∧ Chg 0 0 w w' := by
 have hv10 := hv1.fit
 refine sx_enter Tryd.func31 rfl Tryd.ntmps31 (Nat.le_of_ble_eq_true rfl) ?_
 refine sx_seq fun K1 k1 => sx_region ?_
 refine sx_box [.string f1, .string t1, .bool n1, v1, .int .i64 p1] rfl rfl rfl (fun b2 w3 eb2 sb2 fb2 cb2 => ?_)
 have zw3 := cb2.size
 refine sx_alloc [.string (⟨#[]⟩), .string (⟨#[]⟩), .bool false, (.slice none 0 0), .int .i64 0] rfl Tryd.zeroValue54 rfl (fun b4 w5 eb4 sb4 fb4 cb4 => ?_)
 have zw5 := cb4.size
 refine wl_nil (q_n (k1 _ _ ?_))
 refine sx_seq fun K6 k6 => sx_region ?_
 refine sx_alloc [.string (⟨#[]⟩), .string (⟨#[]⟩), .bool false, (.slice none 0 0), .int .i64 0] rfl Tryd.zeroValue54 rfl (fun b7 w8 eb7 sb7 fb7 cb7 => ?_)
 have zw8 := cb7.size
 refine wl_nil (q_n (k6 _ _ ?_))
 refine sx_seq fun K9 k9 => sx_region ?_
 refine sx_pure rfl rfl rfl (px_field rfl xfld48x0) ?_
 have f10 := fb2.ext cb4
 have f11 := f10.ext cb7
 refine sx_pure rfl rfl rfl (px_load rfl (f11.load1 rfl Tryd.isAgg9)) ?_
 refine sx_pure rfl rfl rfl (px_field rfl xfld54x0) ?_
 refine sx_store (vs := [.string f1]) rfl rfl fb7 rfl Tryd.sizeOf9 (Nat.le_of_ble_eq_true rfl) (one_cons rfl one_nil) (fun w12 sw12 fw12 cw12 => ?_)
 have zw12 := cw12.size
 have gw12 : Blk w12 b7 [.string f1, .string (⟨#[]⟩), .bool false, (.slice none 0 0), .int .i64 0] 54 := fw12
 refine wl_nil (q_n (k9 _ _ ?_))
 refine sx_seq fun K13 k13 => sx_region ?_
 refine sx_pure rfl rfl rfl (px_field rfl xfld48x1) ?_
 have f14 := f11.chg cw12 (by omega)
 refine sx_pure rfl rfl rfl (px_load rfl (f14.load1 rfl Tryd.isAgg9)) ?_
 refine sx_pure rfl rfl rfl (px_field rfl xfld54x1) ?_
 refine sx_store (vs := [.string t1]) rfl rfl gw12 rfl Tryd.sizeOf9 (Nat.le_of_ble_eq_true rfl) (one_cons rfl one_nil) (fun w15 sw15 fw15 cw15 => ?_)
 have zw15 := cw15.size
 have gw15 : Blk w15 b7 [.string f1, .string t1, .bool false, (.slice none 0 0), .int .i64 0] 54 := fw15
 refine wl_nil (q_n (k13 _ _ ?_))
 refine sx_seq fun K16 k16 => sx_region ?_
 refine sx_pure rfl rfl rfl (px_field rfl xfld48x2) ?_
 have f17 := f14.chg cw15 (by omega)
 refine sx_pure rfl rfl rfl (px_load rfl (f17.loadA (vs := [.bool n1, v1, .int .i64 p1]) (look_lit rfl) Tryd.isAgg46 Tryd.sizeOf46)) ?_
 have f18 := hv10.ext cb2
 have f19 := f18.ext cb4
 have f20 := f19.ext cb7
 have f21 := f20.chg cw12 (by omega)
 have f22 := f21.chg cw15 (by omega)
 refine sx_call rfl rfl Tryd.call80 (c_toDec f22 (by omega)) (fun v23 w23 p23 => ?_)
 obtain ⟨s123, rfl, os1_23, c23⟩ := p23
 have zw23 := c23.size
 refine sx_pure rfl rfl rfl (px_field rfl xfld54x2) ?_
 have f25 := gw15.ext c23
 refine sx_store (vs := [.bool n1, s123, .int .i64 p1]) rfl rfl f25 rfl Tryd.sizeOf52 (Nat.le_of_ble_eq_true rfl) (one_cons rfl (one_cons os1_23.one (one_cons rfl one_nil))) (fun w24 sw24 fw24 cw24 => ?_)
 have zw24 := cw24.size
 have gw24 : Blk w24 b7 [.string f1, .string t1, .bool n1, s123, .int .i64 p1] 54 := fw24
 refine wl_nil (q_n (k16 _ _ ?_))
 refine sx_seq fun K26 k26 => sx_region ?_
 refine sx_pure rfl rfl rfl (px_load rfl (gw24.loadA (vs := [.string f1, .string t1, .bool n1, s123, .int .i64 p1]) (look_lit rfl) Tryd.isAgg54 Tryd.sizeOf54)) ?_
 have f28 := fb4.ext cb7
 have f29 := f28.chg cw12 (by omega)
 have f30 := f29.chg cw15 (by omega)
 have f31 := f30.ext c23
 have f32 := f31.chg cw24 (by omega)
 have f33 := os1_23.chg cw24 (by omega)
 refine sx_store (vs := [.string f1, .string t1, .bool n1, s123, .int .i64 p1]) rfl rfl f32 rfl Tryd.sizeOf54 (Nat.le_of_ble_eq_true rfl) (one_cons rfl (one_cons rfl (one_cons rfl (one_cons f33.one (one_cons rfl one_nil))))) (fun w27 sw27 fw27 cw27 => ?_)
 have zw27 := cw27.size
 have gw27 : Blk w27 b4 [.string f1, .string t1, .bool n1, s123, .int .i64 p1] 54 := fw27
 refine wl_nil (q_n (k26 _ _ ?_))
 refine sx_sub (Sub.cons (t := 2) rfl (.nil)) ?_
 refine sx_retc ?_
 refine sx_ret1 Tryd.results31 ⟨_, rfl, gw27.loadA (vs := [.string f1, .string t1, .bool n1, s123, .int .i64 p1]) (look_lit rfl) Tryd.isAgg54 Tryd.sizeOf54⟩ ?_
 have q34 := Chg.step (l := 0) (h := 0) (Chg.zero (l := 0) (h := 0) ((cb2.t cb4).t cb7)) cw12 (by omega)
 have q35 := Chg.step (l := 0) (h := 0) q34 cw15 (by omega)
 have q36 := Chg.step (l := 0) (h := 0) q35 c23 (by omega)
 have q37 := Chg.step (l := 0) (h := 0) q36 cw24 (by omega)
 have q38 := Chg.step (l := 0) (h := 0) q37 cw27 (by omega)
 have f39 := f33.chg cw27 (by omega)
 exact ⟨_, rfl, (Own.mono f39 (by omega) (by omega)), q38⟩

theorem c_sDecOk {w : World} {n1 : Bool} {v1 : Value} {lv1 uv1 : Nat} {z1 : List Int} {p1 : Int} (hv1 : Sl w lv1 uv1 v1 (z1)) (h63 : z1.length ≤ 4611686018427387904) :
  Ret Tryd.prog 78 [.agg #[.bool n1, v1, .int .i64 p1]] w fun v w' => v = .bool (decide (DOk n1 z1 p1)) ∧ Chg 0 0 w w' := by
 have hv10 := hv1.fit
 refine sx_enter Tryd.func78 rfl Tryd.ntmps78 (Nat.le_of_ble_eq_true rfl) ?_
 refine sx_seq fun K1 k1 => sx_region ?_
 refine sx_box [.bool n1, v1, .int .i64 p1] rfl rfl rfl (fun b2 w3 eb2 sb2 fb2 cb2 => ?_)
 have zw3 := cb2.size
 refine sa rfl rfl rfl rfl ?_
 refine wl_nil (q_n (k1 _ _ ?_))
 refine sx_seq fun K4 k4 => sx_region ?_
 refine sx_pure rfl rfl rfl (px_field rfl xfld52x0) ?_
 refine sx_pure rfl rfl rfl (px_load rfl (fb2.loadA (vs := [.bool n1, v1]) (look_lit rfl) Tryd.isAgg29 Tryd.sizeOf29)) ?_
 have f5 := hv10.ext cb2
 refine sx_call rfl rfl Tryd.call59 (c_sIntOk f5 (by omega)) (fun v6 w6 p6 => ?_)
 obtain ⟨rfl, c6⟩ := p6
 have zw6 := c6.size
 refine sm rfl rfl rfl rfl ?_
 refine sx_tmpP (t := 6) rfl (fun h7 => ?_) (fun h7 => ?_)
 ·
  refine sx_guardT rfl rfl rfl ?_
  refine sx_pure rfl rfl rfl (px_field rfl xfld52x0) ?_
  refine sx_guardT rfl rfl rfl ?_
  refine sx_pure rfl rfl rfl (px_field rfl xfld29x1) ?_
  refine sx_guardT rfl rfl rfl ?_
  have f7 := fb2.ext c6
  refine sx_pure rfl rfl rfl (px_load rfl (f7.load1 rfl Tryd.isAgg22)) ?_
  refine sx_guardT rfl rfl rfl ?_
  have f8 := f5.ext c6
  refine sx_pure rfl rfl rfl (px_len rfl Tryd.underlying22 f8) ?_
  refine sx_guardT rfl rfl rfl ?_
  refine sx_pure rfl rfl rfl (px_le rfl rfl) ?_
  refine sx_pure rfl rfl rfl (px_pick rfl rfl) ?_
  refine sm rfl rfl rfl rfl ?_
  refine sx_tmpP (t := 13) rfl (fun h7x1 => ?_) (fun h7x1 => ?_)
  ·
   refine sx_guardT rfl rfl rfl ?_
   refine sx_pure rfl rfl rfl (px_field rfl xfld52x1) ?_
   refine sx_guardT rfl rfl rfl ?_
   refine sx_pure rfl rfl rfl (px_load rfl (f7.load1 rfl Tryd.isAgg3)) ?_
   refine sx_guardT rfl rfl rfl ?_
   refine sx_call rfl rfl Tryd.call111 (c_l01In) (fun v9 w9 p9 => ?_)
   obtain ⟨rfl, c9⟩ := p9
   have zw9 := c9.size
   refine sx_pure rfl rfl rfl (px_pick rfl rfl) ?_
   refine sa rfl rfl rfl rfl ?_
   refine wl_nil (q_n (k4 _ _ ?_))
   refine sx_sub (Sub.cons (t := 2) rfl (.nil)) ?_
   refine sx_retc ?_
   refine sx_ret1 Tryd.results78 rfl ?_
   exact ⟨(by first | exact bTrue (by grind [DOk]) | exact bFalse (by grind [DOk]) | exact bIff (by grind [DOk])), ((cb2.t c6).t c9)⟩
  ·
   refine sx_guardF rfl rfl rfl rfl rfl rfl ?_
   refine sx_guardF rfl rfl rfl rfl rfl rfl ?_
   refine sx_guardF rfl rfl rfl rfl rfl rfl ?_
   refine sx_pure rfl rfl rfl (px_pick rfl rfl) ?_
   refine sa rfl rfl rfl rfl ?_
   refine wl_nil (q_n (k4 _ _ ?_))
   refine sx_sub (Sub.cons (t := 2) rfl (.nil)) ?_
   refine sx_retc ?_
   refine sx_ret1 Tryd.results78 rfl ?_
   exact ⟨(by first | exact bTrue (by grind [DOk]) | exact bFalse (by grind [DOk]) | exact bIff (by grind [DOk])), (cb2.t c6)⟩
 ·
  refine sx_guardF rfl rfl rfl rfl rfl rfl ?_
  refine sx_guardF rfl rfl rfl rfl rfl rfl ?_
  refine sx_guardF rfl rfl rfl rfl rfl rfl ?_
  refine sx_guardF rfl rfl rfl rfl rfl rfl ?_
  refine sx_guardF rfl rfl rfl rfl rfl rfl ?_
  refine sx_pure rfl rfl rfl (px_pick rfl rfl) ?_
  refine sm rfl rfl rfl rfl ?_
  refine sx_guardF rfl rfl rfl rfl rfl rfl ?_
  refine sx_guardF rfl rfl rfl rfl rfl rfl ?_
  refine sx_guardF rfl rfl rfl rfl rfl rfl ?_
  refine sx_pure rfl rfl rfl (px_pick rfl rfl) ?_
  refine sa rfl rfl rfl rfl ?_
  refine wl_nil (q_n (k4 _ _ ?_))
  refine sx_sub (Sub.cons (t := 2) rfl (.nil)) ?_
  refine sx_retc ?_
  refine sx_ret1 Tryd.results78 rfl ?_
  exact ⟨(by first | exact bTrue (by grind [DOk]) | exact bFalse (by grind [DOk]) | exact bIff (by grind [DOk])), (cb2.t c6)⟩

theorem c_IntCmpZ {w : World} {va : Value} {lva uva : Nat} {x : Int} {b : Bool} {vb : Value} {lvb uvb : Nat} {ys : List Int} (hva : Sl w lva uva va (dg x.natAbs)) (hvb : Sl w lvb uvb vb (ys)) (hbx : (dg x.natAbs).length ≤ 50) (hb : b = false) (hy : ys = []) :
  Ret Tryd.prog 87 [.agg #[.bool (ng x), va], .agg #[.bool b, vb]] w fun v w' => v = .int .i64 (cmpI x 0) ∧ Chg 0 0 w w' := by
 have h := c_IntCmp (y := 0) (vb := vb) hva (by rw [Int.natAbs_zero, dg_zero]; rw [hy] at hvb; exact hvb) hbx (by rw [Int.natAbs_zero, dg_zero]; simp)
 rw [hb, show false = ng 0 by simp [ng]]; exact h

theorem c_sIntSign {w : World} {va : Value} {lva uva : Nat} {x : Int} (hva : Sl w lva uva va (dg x.natAbs)) (hbx : (dg x.natAbs).length ≤ 50) :
  Ret Tryd.prog 79 [.agg #[.bool (ng x), va]] w fun v w' => v = .int .i64 (cmpI x 0) ∧ Chg 0 0 w w' := by
 have hva0 := hva.fit
 refine sx_enter Tryd.func79 rfl Tryd.ntmps79 (Nat.le_of_ble_eq_true rfl) ?_
 refine sx_seq fun K1 k1 => sx_region ?_
 refine sx_box [.bool (ng x), va] rfl rfl rfl (fun b2 w3 eb2 sb2 fb2 cb2 => ?_)
 have zw3 := cb2.size
 refine sa rfl rfl rfl rfl ?_
 refine wl_nil (q_n (k1 _ _ ?_))
 refine sx_seq fun K4 k4 => sx_region ?_
 refine sx_pure rfl rfl rfl (px_load rfl (fb2.loadA (vs := [.bool (ng x), va]) (look_lit rfl) Tryd.isAgg29 Tryd.sizeOf29)) ?_
 refine sx_pure rfl rfl rfl (px_build rfl (xbld29x  _)) ?_
 have f5 := hva0.ext cb2
 refine sx_call rfl rfl Tryd.call87 (c_IntCmpZ f5 (Sv.nil _ 0 0 1) (by omega) (rfl) (rfl)) (fun v6 w6 p6 => ?_)
 obtain ⟨rfl, c6⟩ := p6
 have zw6 := c6.size
 refine sa rfl rfl rfl rfl ?_
 refine wl_nil (q_n (k4 _ _ ?_))
 refine sx_retc ?_
 refine sx_ret1 Tryd.results79 rfl ?_
 exact ⟨rfl, (cb2.t c6)⟩

theorem c_sRateOk {w : World} {f1 : ByteArray} {t1 : ByteArray} {n1 : Bool} {v1 : Value} {lv1 uv1 : Nat} {z1 : List Int} {p1 : Int} (hv1 : Sl w lv1 uv1 v1 (z1)) (h63 : z1.length ≤ 4611686018427387904) :
  Ret Tryd.prog 30 [.agg #[.string f1, .string t1, .bool n1, v1, .int .i64 p1]] w fun v w' => v = .bool (decide (RateP f1 t1 n1 z1 p1)) ∧ Chg 0 0 w w' := by
 have hv10 := hv1.fit
 refine sx_enter Tryd.func30 rfl Tryd.ntmps30 (Nat.le_of_ble_eq_true rfl) ?_
 refine sx_seq fun K1 k1 => sx_region ?_
 refine sx_box [.string f1, .string t1, .bool n1, v1, .int .i64 p1] rfl rfl rfl (fun b2 w3 eb2 sb2 fb2 cb2 => ?_)
 have zw3 := cb2.size
 refine sa rfl rfl rfl rfl ?_
 refine wl_nil (q_n (k1 _ _ ?_))
 refine sx_seq fun K4 k4 => sx_region ?_
 refine sx_pure rfl rfl rfl (px_field rfl xfld54x0) ?_
 refine sx_pure rfl rfl rfl (px_load rfl (fb2.load1 rfl Tryd.isAgg9)) ?_
 refine sx_call rfl rfl Tryd.call58 (c_sCurKnown) (fun v5 w5 p5 => ?_)
 obtain ⟨rfl, c5⟩ := p5
 have zw5 := c5.size
 refine sm rfl rfl rfl rfl ?_
 refine sx_tmpP (t := 6) rfl (fun h7 => ?_) (fun h7 => ?_)
 ·
  refine sx_guardT rfl rfl rfl ?_
  refine sx_pure rfl rfl rfl (px_field rfl xfld54x1) ?_
  refine sx_guardT rfl rfl rfl ?_
  have f6 := fb2.ext c5
  refine sx_pure rfl rfl rfl (px_load rfl (f6.load1 rfl Tryd.isAgg9)) ?_
  refine sx_guardT rfl rfl rfl ?_
  refine sx_call rfl rfl Tryd.call58 (c_sCurKnown) (fun v7 w7 p7 => ?_)
  obtain ⟨rfl, c7⟩ := p7
  have zw7 := c7.size
  refine sx_pure rfl rfl rfl (px_pick rfl rfl) ?_
  refine sm rfl rfl rfl rfl ?_
  refine sx_tmpP (t := 11) rfl (fun h7x1 => ?_) (fun h7x1 => ?_)
  ·
   refine sx_guardT rfl rfl rfl ?_
   refine sx_pure rfl rfl rfl (px_field rfl xfld54x0) ?_
   refine sx_guardT rfl rfl rfl ?_
   have f8 := f6.ext c7
   refine sx_pure rfl rfl rfl (px_load rfl (f8.load1 rfl Tryd.isAgg9)) ?_
   refine sx_guardT rfl rfl rfl ?_
   refine sx_pure rfl rfl rfl (px_field rfl xfld54x1) ?_
   refine sx_guardT rfl rfl rfl ?_
   refine sx_pure rfl rfl rfl (px_load rfl (f8.load1 rfl Tryd.isAgg9)) ?_
   refine sx_guardT rfl rfl rfl ?_
   refine sx_pure rfl rfl rfl (px_neS rfl rfl) ?_
   refine sx_pure rfl rfl rfl (px_pick rfl rfl) ?_
   refine sm rfl rfl rfl rfl ?_
   refine sx_tmpP (t := 18) rfl (fun h7x2 => ?_) (fun h7x2 => ?_)
   ·
    refine sx_guardT rfl rfl rfl ?_
    refine sx_pure rfl rfl rfl (px_field rfl xfld54x2) ?_
    refine sx_guardT rfl rfl rfl ?_
    refine sx_pure rfl rfl rfl (px_load rfl (f8.loadA (vs := [.bool n1, v1, .int .i64 p1]) (look_lit rfl) Tryd.isAgg52 Tryd.sizeOf52)) ?_
    refine sx_guardT rfl rfl rfl ?_
    have f9 := hv10.ext cb2
    have f10 := f9.ext c5
    have f11 := f10.ext c7
    refine sx_call rfl rfl Tryd.call78 (c_sDecOk f11 (by omega)) (fun v12 w12 p12 => ?_)
    obtain ⟨rfl, c12⟩ := p12
    have zw12 := c12.size
    refine sx_pure rfl rfl rfl (px_pick rfl rfl) ?_
    refine sm rfl rfl rfl rfl ?_
    refine sx_tmpP (t := 23) rfl (fun h7x3 => ?_) (fun h7x3 => ?_)
    ·
     have hD := h7x3
     obtain ⟨x1, rfl, rfl, hx1⟩ := hD.int
     have hvx := vI_ng x1
     have hsx := sign_gt (x := x1)
     have hcx := cmpI_gt0 (x := x1)
     refine sx_guardT rfl rfl rfl ?_
     refine sx_pure rfl rfl rfl (px_field rfl xfld54x2) ?_
     refine sx_guardT rfl rfl rfl ?_
     refine sx_pure rfl rfl rfl (px_field rfl xfld52x0) ?_
     refine sx_guardT rfl rfl rfl ?_
     have f13 := f8.ext c12
     refine sx_pure rfl rfl rfl (px_load rfl (f13.loadA (vs := [.bool (ng x1), v1]) (look_lit rfl) Tryd.isAgg29 Tryd.sizeOf29)) ?_
     refine sx_guardT rfl rfl rfl ?_
     have f14 := f11.ext c12
     refine sx_call rfl rfl Tryd.call79 (c_sIntSign f14 (by omega)) (fun v15 w15 p15 => ?_)
     obtain ⟨rfl, c15⟩ := p15
     have zw15 := c15.size
     refine sx_guardT rfl rfl rfl ?_
     refine sx_pure rfl rfl rfl (px_gt rfl rfl) ?_
     refine sx_pure rfl rfl rfl (px_pick rfl rfl) ?_
     refine sm rfl rfl rfl rfl ?_
     refine sx_tmpP (t := 30) rfl (fun h7x4 => ?_) (fun h7x4 => ?_)
     ·
      refine sx_guardT rfl rfl rfl ?_
      refine sx_pure rfl rfl rfl (px_field rfl xfld54x2) ?_
      refine sx_guardT rfl rfl rfl ?_
      refine sx_pure rfl rfl rfl (px_field rfl xfld52x0) ?_
      refine sx_guardT rfl rfl rfl ?_
      refine sx_pure rfl rfl rfl (px_field rfl xfld29x1) ?_
      refine sx_guardT rfl rfl rfl ?_
      have f16 := f13.ext c15
      refine sx_pure rfl rfl rfl (px_load rfl (f16.load1 rfl Tryd.isAgg22)) ?_
      refine sx_guardT rfl rfl rfl ?_
      have f17 := f14.ext c15
      refine sx_pure rfl rfl rfl (px_len rfl Tryd.underlying22 f17) ?_
      refine sx_guardT rfl rfl rfl ?_
      refine sx_pure rfl rfl rfl (px_le rfl rfl) ?_
      refine sx_pure rfl rfl rfl (px_pick rfl rfl) ?_
      refine sa rfl rfl rfl rfl ?_
      refine wl_nil (q_n (k4 _ _ ?_))
      refine sx_sub (Sub.cons (t := 2) rfl (.nil)) ?_
      refine sx_retc ?_
      refine sx_ret1 Tryd.results30 rfl ?_
      exact ⟨(by first | exact bTrue (by grind [RateP]) | exact bFalse (by grind [RateP]) | exact bIff (by grind [RateP])), ((((cb2.t c5).t c7).t c12).t c15)⟩
     ·
      refine sx_guardF rfl rfl rfl rfl rfl rfl ?_
      refine sx_guardF rfl rfl rfl rfl rfl rfl ?_
      refine sx_guardF rfl rfl rfl rfl rfl rfl ?_
      refine sx_guardF rfl rfl rfl rfl rfl rfl ?_
      refine sx_guardF rfl rfl rfl rfl rfl rfl ?_
      refine sx_guardF rfl rfl rfl rfl rfl rfl ?_
      refine sx_pure rfl rfl rfl (px_pick rfl rfl) ?_
      refine sa rfl rfl rfl rfl ?_
      refine wl_nil (q_n (k4 _ _ ?_))
      refine sx_sub (Sub.cons (t := 2) rfl (.nil)) ?_
      refine sx_retc ?_
      refine sx_ret1 Tryd.results30 rfl ?_
      exact ⟨(by first | exact bTrue (by grind [RateP]) | exact bFalse (by grind [RateP]) | exact bIff (by grind [RateP])), ((((cb2.t c5).t c7).t c12).t c15)⟩
    ·
     refine sx_guardF rfl rfl rfl rfl rfl rfl ?_
     refine sx_guardF rfl rfl rfl rfl rfl rfl ?_
     refine sx_guardF rfl rfl rfl rfl rfl rfl ?_
     refine sx_guardF rfl rfl rfl rfl rfl rfl ?_
     refine sx_guardF rfl rfl rfl rfl rfl rfl ?_
     refine sx_pure rfl rfl rfl (px_pick rfl rfl) ?_
     refine sm rfl rfl rfl rfl ?_
     refine sx_guardF rfl rfl rfl rfl rfl rfl ?_
     refine sx_guardF rfl rfl rfl rfl rfl rfl ?_
     refine sx_guardF rfl rfl rfl rfl rfl rfl ?_
     refine sx_guardF rfl rfl rfl rfl rfl rfl ?_
     refine sx_guardF rfl rfl rfl rfl rfl rfl ?_
     refine sx_guardF rfl rfl rfl rfl rfl rfl ?_
     refine sx_pure rfl rfl rfl (px_pick rfl rfl) ?_
     refine sa rfl rfl rfl rfl ?_
     refine wl_nil (q_n (k4 _ _ ?_))
     refine sx_sub (Sub.cons (t := 2) rfl (.nil)) ?_
     refine sx_retc ?_
     refine sx_ret1 Tryd.results30 rfl ?_
     exact ⟨(by first | exact bTrue (by grind [RateP]) | exact bFalse (by grind [RateP]) | exact bIff (by grind [RateP])), (((cb2.t c5).t c7).t c12)⟩
   ·
    refine sx_guardF rfl rfl rfl rfl rfl rfl ?_
    refine sx_guardF rfl rfl rfl rfl rfl rfl ?_
    refine sx_guardF rfl rfl rfl rfl rfl rfl ?_
    refine sx_pure rfl rfl rfl (px_pick rfl rfl) ?_
    refine sm rfl rfl rfl rfl ?_
    refine sx_guardF rfl rfl rfl rfl rfl rfl ?_
    refine sx_guardF rfl rfl rfl rfl rfl rfl ?_
    refine sx_guardF rfl rfl rfl rfl rfl rfl ?_
    refine sx_guardF rfl rfl rfl rfl rfl rfl ?_
    refine sx_guardF rfl rfl rfl rfl rfl rfl ?_
    refine sx_pure rfl rfl rfl (px_pick rfl rfl) ?_
    refine sm rfl rfl rfl rfl ?_
    refine sx_guardF rfl rfl rfl rfl rfl rfl ?_
    refine sx_guardF rfl rfl rfl rfl rfl rfl ?_
    refine sx_guardF rfl rfl rfl rfl rfl rfl ?_
    refine sx_guardF rfl rfl rfl rfl rfl rfl ?_
    refine sx_guardF rfl rfl rfl rfl rfl rfl ?_
    refine sx_guardF rfl rfl rfl rfl rfl rfl ?_
    refine sx_pure rfl rfl rfl (px_pick rfl rfl) ?_
    refine sa rfl rfl rfl rfl ?_
    refine wl_nil (q_n (k4 _ _ ?_))
    refine sx_sub (Sub.cons (t := 2) rfl (.nil)) ?_
    refine sx_retc ?_
    refine sx_ret1 Tryd.results30 rfl ?_
    exact ⟨(by first | exact bTrue (by grind [RateP]) | exact bFalse (by grind [RateP]) | exact bIff (by grind [RateP])), ((cb2.t c5).t c7)⟩
  ·
   refine sx_guardF rfl rfl rfl rfl rfl rfl ?_
   refine sx_guardF rfl rfl rfl rfl rfl rfl ?_
   refine sx_guardF rfl rfl rfl rfl rfl rfl ?_
   refine sx_guardF rfl rfl rfl rfl rfl rfl ?_
   refine sx_guardF rfl rfl rfl rfl rfl rfl ?_
   refine sx_pure rfl rfl rfl (px_pick rfl rfl) ?_
   refine sm rfl rfl rfl rfl ?_
   refine sx_guardF rfl rfl rfl rfl rfl rfl ?_
   refine sx_guardF rfl rfl rfl rfl rfl rfl ?_
   refine sx_guardF rfl rfl rfl rfl rfl rfl ?_
   refine sx_pure rfl rfl rfl (px_pick rfl rfl) ?_
   refine sm rfl rfl rfl rfl ?_
   refine sx_guardF rfl rfl rfl rfl rfl rfl ?_
   refine sx_guardF rfl rfl rfl rfl rfl rfl ?_
   refine sx_guardF rfl rfl rfl rfl rfl rfl ?_
   refine sx_guardF rfl rfl rfl rfl rfl rfl ?_
   refine sx_guardF rfl rfl rfl rfl rfl rfl ?_
   refine sx_pure rfl rfl rfl (px_pick rfl rfl) ?_
   refine sm rfl rfl rfl rfl ?_
   refine sx_guardF rfl rfl rfl rfl rfl rfl ?_
   refine sx_guardF rfl rfl rfl rfl rfl rfl ?_
   refine sx_guardF rfl rfl rfl rfl rfl rfl ?_
   refine sx_guardF rfl rfl rfl rfl rfl rfl ?_
   refine sx_guardF rfl rfl rfl rfl rfl rfl ?_
   refine sx_guardF rfl rfl rfl rfl rfl rfl ?_
   refine sx_pure rfl rfl rfl (px_pick rfl rfl) ?_
   refine sa rfl rfl rfl rfl ?_
   refine wl_nil (q_n (k4 _ _ ?_))
   refine sx_sub (Sub.cons (t := 2) rfl (.nil)) ?_
   refine sx_retc ?_
   refine sx_ret1 Tryd.results30 rfl ?_
   exact ⟨(by first | exact bTrue (by grind [RateP]) | exact bFalse (by grind [RateP]) | exact bIff (by grind [RateP])), ((cb2.t c5).t c7)⟩
 ·
  refine sx_guardF rfl rfl rfl rfl rfl rfl ?_
  refine sx_guardF rfl rfl rfl rfl rfl rfl ?_
  refine sx_guardF rfl rfl rfl rfl rfl rfl ?_
  refine sx_pure rfl rfl rfl (px_pick rfl rfl) ?_
  refine sm rfl rfl rfl rfl ?_
  refine sx_guardF rfl rfl rfl rfl rfl rfl ?_
  refine sx_guardF rfl rfl rfl rfl rfl rfl ?_
  refine sx_guardF rfl rfl rfl rfl rfl rfl ?_
  refine sx_guardF rfl rfl rfl rfl rfl rfl ?_
  refine sx_guardF rfl rfl rfl rfl rfl rfl ?_
  refine sx_pure rfl rfl rfl (px_pick rfl rfl) ?_
  refine sm rfl rfl rfl rfl ?_
  refine sx_guardF rfl rfl rfl rfl rfl rfl ?_
  refine sx_guardF rfl rfl rfl rfl rfl rfl ?_
  refine sx_guardF rfl rfl rfl rfl rfl rfl ?_
  refine sx_pure rfl rfl rfl (px_pick rfl rfl) ?_
  refine sm rfl rfl rfl rfl ?_
  refine sx_guardF rfl rfl rfl rfl rfl rfl ?_
  refine sx_guardF rfl rfl rfl rfl rfl rfl ?_
  refine sx_guardF rfl rfl rfl rfl rfl rfl ?_
  refine sx_guardF rfl rfl rfl rfl rfl rfl ?_
  refine sx_guardF rfl rfl rfl rfl rfl rfl ?_
  refine sx_pure rfl rfl rfl (px_pick rfl rfl) ?_
  refine sm rfl rfl rfl rfl ?_
  refine sx_guardF rfl rfl rfl rfl rfl rfl ?_
  refine sx_guardF rfl rfl rfl rfl rfl rfl ?_
  refine sx_guardF rfl rfl rfl rfl rfl rfl ?_
  refine sx_guardF rfl rfl rfl rfl rfl rfl ?_
  refine sx_guardF rfl rfl rfl rfl rfl rfl ?_
  refine sx_guardF rfl rfl rfl rfl rfl rfl ?_
  refine sx_pure rfl rfl rfl (px_pick rfl rfl) ?_
  refine sa rfl rfl rfl rfl ?_
  refine wl_nil (q_n (k4 _ _ ?_))
  refine sx_sub (Sub.cons (t := 2) rfl (.nil)) ?_
  refine sx_retc ?_
  refine sx_ret1 Tryd.results30 rfl ?_
  exact ⟨(by first | exact bTrue (by grind [RateP]) | exact bFalse (by grind [RateP]) | exact bIff (by grind [RateP])), (cb2.t c5)⟩

theorem c_isScale {w : World} {p : Int} :
  Ret Tryd.prog 112 [.int .i64 p] w fun v w' => v = .bool (decide (0 ≤ p ∧ p ≤ 30)) ∧ Chg 0 0 w w' := by
 refine sx_enter Tryd.func112 rfl Tryd.ntmps112 (Nat.le_of_ble_eq_true rfl) ?_
 refine sx_seq fun K1 k1 => sx_region ?_
 refine sa rfl rfl rfl rfl ?_
 refine wl_nil (q_n (k1 _ _ ?_))
 refine sx_seq fun K2 k2 => sx_region ?_
 refine sm rfl rfl rfl rfl ?_
 refine sx_pure rfl rfl rfl (px_ge rfl rfl) ?_
 refine sm rfl rfl rfl rfl ?_
 refine sx_tmpP (t := 5) rfl (fun h15 => ?_) (fun h15 => ?_)
 ·
  refine sx_guardT rfl rfl rfl ?_
  refine sm rfl rfl rfl rfl ?_
  refine sx_guardT rfl rfl rfl ?_
  refine sx_pure rfl rfl rfl (px_le rfl rfl) ?_
  refine sx_pure rfl rfl rfl (px_pick rfl rfl) ?_
  refine sa rfl rfl rfl rfl ?_
  refine wl_nil (q_n (k2 _ _ ?_))
  refine sx_retc ?_
  refine sx_ret1 Tryd.results112 rfl ?_
  exact ⟨(by first | exact bTrue (by grind) | exact bFalse (by grind) | exact bIff (by grind)), (Chg.refl 0 0 _)⟩
 ·
  refine sx_guardF rfl rfl rfl rfl rfl rfl ?_
  refine sx_guardF rfl rfl rfl rfl rfl rfl ?_
  refine sx_pure rfl rfl rfl (px_pick rfl rfl) ?_
  refine sa rfl rfl rfl rfl ?_
  refine wl_nil (q_n (k2 _ _ ?_))
  refine sx_retc ?_
  refine sx_ret1 Tryd.results112 rfl ?_
  exact ⟨(by first | exact bTrue (by grind) | exact bFalse (by grind) | exact bIff (by grind)), (Chg.refl 0 0 _)⟩

theorem c_iDecOk {w : World} {n1 : Bool} {v1 : Value} {lv1 uv1 : Nat} {z1 : List Int} {p1 : Int} (hv1 : Sl w lv1 uv1 v1 (z1)) (h63 : z1.length ≤ 4611686018427387904) :
  Ret Tryd.prog 81 [.agg #[.bool n1, v1, .int .i64 p1]] w fun v w' => v = .bool (decide (DOk n1 z1 p1)) ∧ Chg 0 0 w w' := by
 have hv10 := hv1.fit
 refine sx_enter Tryd.func81 rfl Tryd.ntmps81 (Nat.le_of_ble_eq_true rfl) ?_
 refine sx_seq fun K1 k1 => sx_region ?_
 refine sx_box [.bool n1, v1, .int .i64 p1] rfl rfl rfl (fun b2 w3 eb2 sb2 fb2 cb2 => ?_)
 have zw3 := cb2.size
 refine sa rfl rfl rfl rfl ?_
 refine wl_nil (q_n (k1 _ _ ?_))
 refine sx_seq fun K4 k4 => sx_region ?_
 refine sx_pure rfl rfl rfl (px_field rfl xfld52x0) ?_
 refine sx_pure rfl rfl rfl (px_load rfl (fb2.loadA (vs := [.bool n1, v1]) (look_lit rfl) Tryd.isAgg29 Tryd.sizeOf29)) ?_
 have f5 := hv10.ext cb2
 refine sx_call rfl rfl Tryd.call62 (c_iIntOk f5 (by omega)) (fun v6 w6 p6 => ?_)
 obtain ⟨rfl, c6⟩ := p6
 have zw6 := c6.size
 refine sm rfl rfl rfl rfl ?_
 refine sx_tmpP (t := 6) rfl (fun h18 => ?_) (fun h18 => ?_)
 ·
  refine sx_guardT rfl rfl rfl ?_
  refine sx_pure rfl rfl rfl (px_field rfl xfld52x0) ?_
  refine sx_guardT rfl rfl rfl ?_
  refine sx_pure rfl rfl rfl (px_field rfl xfld29x1) ?_
  refine sx_guardT rfl rfl rfl ?_
  have f7 := fb2.ext c6
  refine sx_pure rfl rfl rfl (px_load rfl (f7.load1 rfl Tryd.isAgg22)) ?_
  refine sx_guardT rfl rfl rfl ?_
  have f8 := f5.ext c6
  refine sx_pure rfl rfl rfl (px_len rfl Tryd.underlying22 f8) ?_
  refine sx_guardT rfl rfl rfl ?_
  refine sx_pure rfl rfl rfl (px_le rfl rfl) ?_
  refine sx_pure rfl rfl rfl (px_pick rfl rfl) ?_
  refine sm rfl rfl rfl rfl ?_
  refine sx_tmpP (t := 13) rfl (fun h18x1 => ?_) (fun h18x1 => ?_)
  ·
   refine sx_guardT rfl rfl rfl ?_
   refine sx_pure rfl rfl rfl (px_field rfl xfld52x1) ?_
   refine sx_guardT rfl rfl rfl ?_
   refine sx_pure rfl rfl rfl (px_load rfl (f7.load1 rfl Tryd.isAgg3)) ?_
   refine sx_guardT rfl rfl rfl ?_
   refine sx_call rfl rfl Tryd.call112 (c_isScale) (fun v9 w9 p9 => ?_)
   obtain ⟨rfl, c9⟩ := p9
   have zw9 := c9.size
   refine sx_pure rfl rfl rfl (px_pick rfl rfl) ?_
   refine sa rfl rfl rfl rfl ?_
   refine wl_nil (q_n (k4 _ _ ?_))
   refine sx_sub (Sub.cons (t := 2) rfl (.nil)) ?_
   refine sx_retc ?_
   refine sx_ret1 Tryd.results81 rfl ?_
   exact ⟨(by first | exact bTrue (by grind [DOk]) | exact bFalse (by grind [DOk]) | exact bIff (by grind [DOk])), ((cb2.t c6).t c9)⟩
  ·
   refine sx_guardF rfl rfl rfl rfl rfl rfl ?_
   refine sx_guardF rfl rfl rfl rfl rfl rfl ?_
   refine sx_guardF rfl rfl rfl rfl rfl rfl ?_
   refine sx_pure rfl rfl rfl (px_pick rfl rfl) ?_
   refine sa rfl rfl rfl rfl ?_
   refine wl_nil (q_n (k4 _ _ ?_))
   refine sx_sub (Sub.cons (t := 2) rfl (.nil)) ?_
   refine sx_retc ?_
   refine sx_ret1 Tryd.results81 rfl ?_
   exact ⟨(by first | exact bTrue (by grind [DOk]) | exact bFalse (by grind [DOk]) | exact bIff (by grind [DOk])), (cb2.t c6)⟩
 ·
  refine sx_guardF rfl rfl rfl rfl rfl rfl ?_
  refine sx_guardF rfl rfl rfl rfl rfl rfl ?_
  refine sx_guardF rfl rfl rfl rfl rfl rfl ?_
  refine sx_guardF rfl rfl rfl rfl rfl rfl ?_
  refine sx_guardF rfl rfl rfl rfl rfl rfl ?_
  refine sx_pure rfl rfl rfl (px_pick rfl rfl) ?_
  refine sm rfl rfl rfl rfl ?_
  refine sx_guardF rfl rfl rfl rfl rfl rfl ?_
  refine sx_guardF rfl rfl rfl rfl rfl rfl ?_
  refine sx_guardF rfl rfl rfl rfl rfl rfl ?_
  refine sx_pure rfl rfl rfl (px_pick rfl rfl) ?_
  refine sa rfl rfl rfl rfl ?_
  refine wl_nil (q_n (k4 _ _ ?_))
  refine sx_sub (Sub.cons (t := 2) rfl (.nil)) ?_
  refine sx_retc ?_
  refine sx_ret1 Tryd.results81 rfl ?_
  exact ⟨(by first | exact bTrue (by grind [DOk]) | exact bFalse (by grind [DOk]) | exact bIff (by grind [DOk])), (cb2.t c6)⟩

theorem c_iRateOk {w : World} {f1 : ByteArray} {t1 : ByteArray} {n1 : Bool} {v1 : Value} {lv1 uv1 : Nat} {z1 : List Int} {p1 : Int} (hG0 : Glob w) (hv1 : Sl w lv1 uv1 v1 (z1)) (h63 : z1.length ≤ 4611686018427387904) :
  Ret Tryd.prog 32 [.agg #[.string f1, .string t1, .bool n1, v1, .int .i64 p1]] w fun v w' => v = .bool (decide (RateP f1 t1 n1 z1 p1)) ∧ Chg 0 0 w w' := by
 have hv10 := hv1.fit
 refine sx_enter Tryd.func32 rfl Tryd.ntmps32 (Nat.le_of_ble_eq_true rfl) ?_
 refine sx_seq fun K1 k1 => sx_region ?_
 refine sx_box [.string f1, .string t1, .bool n1, v1, .int .i64 p1] rfl rfl rfl (fun b2 w3 eb2 sb2 fb2 cb2 => ?_)
 have zw3 := cb2.size
 refine sa rfl rfl rfl rfl ?_
 refine wl_nil (q_n (k1 _ _ ?_))
 refine sx_seq fun K4 k4 => sx_region ?_
 refine sx_pure rfl rfl rfl (px_field rfl xfld54x0) ?_
 refine sx_pure rfl rfl rfl (px_load rfl (fb2.load1 rfl Tryd.isAgg9)) ?_
 have f5 := hG0.ext cb2
 refine sx_call rfl rfl Tryd.call61 (c_iCurKnown f5) (fun v6 w6 p6 => ?_)
 obtain ⟨rfl, c6⟩ := p6
 have zw6 := c6.size
 refine sm rfl rfl rfl rfl ?_
 refine sx_tmpP (t := 6) rfl (fun h36 => ?_) (fun h36 => ?_)
 ·
  refine sx_guardT rfl rfl rfl ?_
  refine sx_pure rfl rfl rfl (px_field rfl xfld54x1) ?_
  refine sx_guardT rfl rfl rfl ?_
  have f7 := fb2.ext c6
  refine sx_pure rfl rfl rfl (px_load rfl (f7.load1 rfl Tryd.isAgg9)) ?_
  refine sx_guardT rfl rfl rfl ?_
  have f8 := f5.ext c6
  refine sx_call rfl rfl Tryd.call61 (c_iCurKnown f8) (fun v9 w9 p9 => ?_)
  obtain ⟨rfl, c9⟩ := p9
  have zw9 := c9.size
  refine sx_pure rfl rfl rfl (px_pick rfl rfl) ?_
  refine sm rfl rfl rfl rfl ?_
  refine sx_tmpP (t := 11) rfl (fun h36x1 => ?_) (fun h36x1 => ?_)
  ·
   refine sx_guardT rfl rfl rfl ?_
   refine sx_pure rfl rfl rfl (px_field rfl xfld54x0) ?_
   refine sx_guardT rfl rfl rfl ?_
   have f10 := f7.ext c9
   refine sx_pure rfl rfl rfl (px_load rfl (f10.load1 rfl Tryd.isAgg9)) ?_
   refine sx_guardT rfl rfl rfl ?_
   refine sx_pure rfl rfl rfl (px_field rfl xfld54x1) ?_
   refine sx_guardT rfl rfl rfl ?_
   refine sx_pure rfl rfl rfl (px_load rfl (f10.load1 rfl Tryd.isAgg9)) ?_
   refine sx_guardT rfl rfl rfl ?_
   refine sx_pure rfl rfl rfl (px_neS rfl rfl) ?_
   refine sx_pure rfl rfl rfl (px_pick rfl rfl) ?_
   refine sm rfl rfl rfl rfl ?_
   refine sx_tmpP (t := 18) rfl (fun h36x2 => ?_) (fun h36x2 => ?_)
   ·
    refine sx_guardT rfl rfl rfl ?_
    refine sx_pure rfl rfl rfl (px_field rfl xfld54x2) ?_
    refine sx_guardT rfl rfl rfl ?_
    refine sx_pure rfl rfl rfl (px_load rfl (f10.loadA (vs := [.bool n1, v1, .int .i64 p1]) (look_lit rfl) Tryd.isAgg52 Tryd.sizeOf52)) ?_
    refine sx_guardT rfl rfl rfl ?_
    have f11 := hv10.ext cb2
    have f12 := f11.ext c6
    have f13 := f12.ext c9
    refine sx_call rfl rfl Tryd.call81 (c_iDecOk f13 (by omega)) (fun v14 w14 p14 => ?_)
    obtain ⟨rfl, c14⟩ := p14
    have zw14 := c14.size
    refine sx_pure rfl rfl rfl (px_pick rfl rfl) ?_
    refine sm rfl rfl rfl rfl ?_
    refine sx_tmpP (t := 23) rfl (fun h36x3 => ?_) (fun h36x3 => ?_)
    ·
     have hD := h36x3
     obtain ⟨x1, rfl, rfl, hx1⟩ := hD.int
     have hvx := vI_ng x1
     have hsx := sign_gt (x := x1)
     have hcx := cmpI_gt0 (x := x1)
     refine sx_guardT rfl rfl rfl ?_
     refine sx_pure rfl rfl rfl (px_field rfl xfld54x2) ?_
     refine sx_guardT rfl rfl rfl ?_
     refine sx_pure rfl rfl rfl (px_field rfl xfld52x0) ?_
     refine sx_guardT rfl rfl rfl ?_
     have f15 := f10.ext c14
     refine sx_pure rfl rfl rfl (px_load rfl (f15.loadA (vs := [.bool (ng x1), v1]) (look_lit rfl) Tryd.isAgg29 Tryd.sizeOf29)) ?_
     refine sx_guardT rfl rfl rfl ?_
     have f16 := f13.ext c14
     refine sx_call rfl rfl Tryd.call82 (c_intSign f16 (by omega)) (fun v17 w17 p17 => ?_)
     obtain ⟨rfl, c17⟩ := p17
     have zw17 := c17.size
     refine sx_guardT rfl rfl rfl ?_
     refine sx_pure rfl rfl rfl (px_gt rfl rfl) ?_
     refine sx_pure rfl rfl rfl (px_pick rfl rfl) ?_
     refine sm rfl rfl rfl rfl ?_
     refine sx_tmpP (t := 30) rfl (fun h36x4 => ?_) (fun h36x4 => ?_)
     ·
      refine sx_guardT rfl rfl rfl ?_
      refine sx_pure rfl rfl rfl (px_field rfl xfld54x2) ?_
      refine sx_guardT rfl rfl rfl ?_
      refine sx_pure rfl rfl rfl (px_field rfl xfld52x0) ?_
      refine sx_guardT rfl rfl rfl ?_
      refine sx_pure rfl rfl rfl (px_field rfl xfld29x1) ?_
      refine sx_guardT rfl rfl rfl ?_
      have f18 := f15.ext c17
      refine sx_pure rfl rfl rfl (px_load rfl (f18.load1 rfl Tryd.isAgg22)) ?_
      refine sx_guardT rfl rfl rfl ?_
      have f19 := f16.ext c17
      refine sx_pure rfl rfl rfl (px_len rfl Tryd.underlying22 f19) ?_
      refine sx_guardT rfl rfl rfl ?_
      refine sx_pure rfl rfl rfl (px_le rfl rfl) ?_
      refine sx_pure rfl rfl rfl (px_pick rfl rfl) ?_
      refine sa rfl rfl rfl rfl ?_
      refine wl_nil (q_n (k4 _ _ ?_))
      refine sx_sub (Sub.cons (t := 2) rfl (.nil)) ?_
      refine sx_retc ?_
      refine sx_ret1 Tryd.results32 rfl ?_
      exact ⟨(by first | exact bTrue (by grind [RateP]) | exact bFalse (by grind [RateP]) | exact bIff (by grind [RateP])), ((((cb2.t c6).t c9).t c14).t c17)⟩
     ·
      refine sx_guardF rfl rfl rfl rfl rfl rfl ?_
      refine sx_guardF rfl rfl rfl rfl rfl rfl ?_
      refine sx_guardF rfl rfl rfl rfl rfl rfl ?_
      refine sx_guardF rfl rfl rfl rfl rfl rfl ?_
      refine sx_guardF rfl rfl rfl rfl rfl rfl ?_
      refine sx_guardF rfl rfl rfl rfl rfl rfl ?_
      refine sx_pure rfl rfl rfl (px_pick rfl rfl) ?_
      refine sa rfl rfl rfl rfl ?_
      refine wl_nil (q_n (k4 _ _ ?_))
      refine sx_sub (Sub.cons (t := 2) rfl (.nil)) ?_
      refine sx_retc ?_
      refine sx_ret1 Tryd.results32 rfl ?_
      exact ⟨(by first | exact bTrue (by grind [RateP]) | exact bFalse (by grind [RateP]) | exact bIff (by grind [RateP])), ((((cb2.t c6).t c9).t c14).t c17)⟩
    ·
     refine sx_guardF rfl rfl rfl rfl rfl rfl ?_
     refine sx_guardF rfl rfl rfl rfl rfl rfl ?_
     refine sx_guardF rfl rfl rfl rfl rfl rfl ?_
     refine sx_guardF rfl rfl rfl rfl rfl rfl ?_
     refine sx_guardF rfl rfl rfl rfl rfl rfl ?_
     refine sx_pure rfl rfl rfl (px_pick rfl rfl) ?_
     refine sm rfl rfl rfl rfl ?_
     refine sx_guardF rfl rfl rfl rfl rfl rfl ?_
     refine sx_guardF rfl rfl rfl rfl rfl rfl ?_
     refine sx_guardF rfl rfl rfl rfl rfl rfl ?_
     refine sx_guardF rfl rfl rfl rfl rfl rfl ?_
     refine sx_guardF rfl rfl rfl rfl rfl rfl ?_
     refine sx_guardF rfl rfl rfl rfl rfl rfl ?_
     refine sx_pure rfl rfl rfl (px_pick rfl rfl) ?_
     refine sa rfl rfl rfl rfl ?_
     refine wl_nil (q_n (k4 _ _ ?_))
     refine sx_sub (Sub.cons (t := 2) rfl (.nil)) ?_
     refine sx_retc ?_
     refine sx_ret1 Tryd.results32 rfl ?_
     exact ⟨(by first | exact bTrue (by grind [RateP]) | exact bFalse (by grind [RateP]) | exact bIff (by grind [RateP])), (((cb2.t c6).t c9).t c14)⟩
   ·
    refine sx_guardF rfl rfl rfl rfl rfl rfl ?_
    refine sx_guardF rfl rfl rfl rfl rfl rfl ?_
    refine sx_guardF rfl rfl rfl rfl rfl rfl ?_
    refine sx_pure rfl rfl rfl (px_pick rfl rfl) ?_
    refine sm rfl rfl rfl rfl ?_
    refine sx_guardF rfl rfl rfl rfl rfl rfl ?_
    refine sx_guardF rfl rfl rfl rfl rfl rfl ?_
    refine sx_guardF rfl rfl rfl rfl rfl rfl ?_
    refine sx_guardF rfl rfl rfl rfl rfl rfl ?_
    refine sx_guardF rfl rfl rfl rfl rfl rfl ?_
    refine sx_pure rfl rfl rfl (px_pick rfl rfl) ?_
    refine sm rfl rfl rfl rfl ?_
    refine sx_guardF rfl rfl rfl rfl rfl rfl ?_
    refine sx_guardF rfl rfl rfl rfl rfl rfl ?_
    refine sx_guardF rfl rfl rfl rfl rfl rfl ?_
    refine sx_guardF rfl rfl rfl rfl rfl rfl ?_
    refine sx_guardF rfl rfl rfl rfl rfl rfl ?_
    refine sx_guardF rfl rfl rfl rfl rfl rfl ?_
    refine sx_pure rfl rfl rfl (px_pick rfl rfl) ?_
    refine sa rfl rfl rfl rfl ?_
    refine wl_nil (q_n (k4 _ _ ?_))
    refine sx_sub (Sub.cons (t := 2) rfl (.nil)) ?_
    refine sx_retc ?_
    refine sx_ret1 Tryd.results32 rfl ?_
    exact ⟨(by first | exact bTrue (by grind [RateP]) | exact bFalse (by grind [RateP]) | exact bIff (by grind [RateP])), ((cb2.t c6).t c9)⟩
  ·
   refine sx_guardF rfl rfl rfl rfl rfl rfl ?_
   refine sx_guardF rfl rfl rfl rfl rfl rfl ?_
   refine sx_guardF rfl rfl rfl rfl rfl rfl ?_
   refine sx_guardF rfl rfl rfl rfl rfl rfl ?_
   refine sx_guardF rfl rfl rfl rfl rfl rfl ?_
   refine sx_pure rfl rfl rfl (px_pick rfl rfl) ?_
   refine sm rfl rfl rfl rfl ?_
   refine sx_guardF rfl rfl rfl rfl rfl rfl ?_
   refine sx_guardF rfl rfl rfl rfl rfl rfl ?_
   refine sx_guardF rfl rfl rfl rfl rfl rfl ?_
   refine sx_pure rfl rfl rfl (px_pick rfl rfl) ?_
   refine sm rfl rfl rfl rfl ?_
   refine sx_guardF rfl rfl rfl rfl rfl rfl ?_
   refine sx_guardF rfl rfl rfl rfl rfl rfl ?_
   refine sx_guardF rfl rfl rfl rfl rfl rfl ?_
   refine sx_guardF rfl rfl rfl rfl rfl rfl ?_
   refine sx_guardF rfl rfl rfl rfl rfl rfl ?_
   refine sx_pure rfl rfl rfl (px_pick rfl rfl) ?_
   refine sm rfl rfl rfl rfl ?_
   refine sx_guardF rfl rfl rfl rfl rfl rfl ?_
   refine sx_guardF rfl rfl rfl rfl rfl rfl ?_
   refine sx_guardF rfl rfl rfl rfl rfl rfl ?_
   refine sx_guardF rfl rfl rfl rfl rfl rfl ?_
   refine sx_guardF rfl rfl rfl rfl rfl rfl ?_
   refine sx_guardF rfl rfl rfl rfl rfl rfl ?_
   refine sx_pure rfl rfl rfl (px_pick rfl rfl) ?_
   refine sa rfl rfl rfl rfl ?_
   refine wl_nil (q_n (k4 _ _ ?_))
   refine sx_sub (Sub.cons (t := 2) rfl (.nil)) ?_
   refine sx_retc ?_
   refine sx_ret1 Tryd.results32 rfl ?_
   exact ⟨(by first | exact bTrue (by grind [RateP]) | exact bFalse (by grind [RateP]) | exact bIff (by grind [RateP])), ((cb2.t c6).t c9)⟩
 ·
  refine sx_guardF rfl rfl rfl rfl rfl rfl ?_
  refine sx_guardF rfl rfl rfl rfl rfl rfl ?_
  refine sx_guardF rfl rfl rfl rfl rfl rfl ?_
  refine sx_pure rfl rfl rfl (px_pick rfl rfl) ?_
  refine sm rfl rfl rfl rfl ?_
  refine sx_guardF rfl rfl rfl rfl rfl rfl ?_
  refine sx_guardF rfl rfl rfl rfl rfl rfl ?_
  refine sx_guardF rfl rfl rfl rfl rfl rfl ?_
  refine sx_guardF rfl rfl rfl rfl rfl rfl ?_
  refine sx_guardF rfl rfl rfl rfl rfl rfl ?_
  refine sx_pure rfl rfl rfl (px_pick rfl rfl) ?_
  refine sm rfl rfl rfl rfl ?_
  refine sx_guardF rfl rfl rfl rfl rfl rfl ?_
  refine sx_guardF rfl rfl rfl rfl rfl rfl ?_
  refine sx_guardF rfl rfl rfl rfl rfl rfl ?_
  refine sx_pure rfl rfl rfl (px_pick rfl rfl) ?_
  refine sm rfl rfl rfl rfl ?_
  refine sx_guardF rfl rfl rfl rfl rfl rfl ?_
  refine sx_guardF rfl rfl rfl rfl rfl rfl ?_
  refine sx_guardF rfl rfl rfl rfl rfl rfl ?_
  refine sx_guardF rfl rfl rfl rfl rfl rfl ?_
  refine sx_guardF rfl rfl rfl rfl rfl rfl ?_
  refine sx_pure rfl rfl rfl (px_pick rfl rfl) ?_
  refine sm rfl rfl rfl rfl ?_
  refine sx_guardF rfl rfl rfl rfl rfl rfl ?_
  refine sx_guardF rfl rfl rfl rfl rfl rfl ?_
  refine sx_guardF rfl rfl rfl rfl rfl rfl ?_
  refine sx_guardF rfl rfl rfl rfl rfl rfl ?_
  refine sx_guardF rfl rfl rfl rfl rfl rfl ?_
  refine sx_guardF rfl rfl rfl rfl rfl rfl ?_
  refine sx_pure rfl rfl rfl (px_pick rfl rfl) ?_
  refine sa rfl rfl rfl rfl ?_
  refine wl_nil (q_n (k4 _ _ ?_))
  refine sx_sub (Sub.cons (t := 2) rfl (.nil)) ?_
  refine sx_retc ?_
  refine sx_ret1 Tryd.results32 rfl ?_
  exact ⟨(by first | exact bTrue (by grind [RateP]) | exact bFalse (by grind [RateP]) | exact bIff (by grind [RateP])), (cb2.t c6)⟩

theorem c_eqDec {w : World} {n1 : Bool} {v1 : Value} {lv1 uv1 : Nat} {z1 : List Int} {p1 : Int} {n2 : Bool} {v2 : Value} {lv2 uv2 : Nat} {z2 : List Int} {p2 : Int} (hv1 : Sl w lv1 uv1 v1 (z1)) (hv2 : Sl w lv2 uv2 v2 (z2)) (h63 : z1.length ≤ 4611686018427387904 ∧ z2.length ≤ 4611686018427387904) :
  Ret Tryd.prog 83 [.agg #[.bool n1, v1, .int .i64 p1], .agg #[.bool n2, v2, .int .i64 p2]] w fun v w' => v = .bool (decide (n1 = n2 ∧ z1 = z2 ∧ p1 = p2)) ∧ Chg 0 0 w w' := by
 have hv10 := hv1.fit
 have hv20 := hv2.fit
 refine sx_enter Tryd.func83 rfl Tryd.ntmps83 (Nat.le_of_ble_eq_true rfl) ?_
 refine sx_seq fun K1 k1 => sx_region ?_
 refine sx_box [.bool n1, v1, .int .i64 p1] rfl rfl rfl (fun b2 w3 eb2 sb2 fb2 cb2 => ?_)
 have zw3 := cb2.size
 refine sx_box [.bool n2, v2, .int .i64 p2] rfl rfl rfl (fun b4 w5 eb4 sb4 fb4 cb4 => ?_)
 have zw5 := cb4.size
 refine sa rfl rfl rfl rfl ?_
 refine wl_nil (q_n (k1 _ _ ?_))
 refine sx_seq fun K6 k6 => ?_
 refine sx_seq fun K7 k7 => sx_region ?_
 refine sx_pure rfl rfl rfl (px_field rfl xfld52x0) ?_
 have f8 := fb2.ext cb4
 refine sx_pure rfl rfl rfl (px_load rfl (f8.loadA (vs := [.bool n1, v1]) (look_lit rfl) Tryd.isAgg29 Tryd.sizeOf29)) ?_
 refine sx_pure rfl rfl rfl (px_field rfl xfld52x0) ?_
 refine sx_pure rfl rfl rfl (px_load rfl (fb4.loadA (vs := [.bool n2, v2]) (look_lit rfl) Tryd.isAgg29 Tryd.sizeOf29)) ?_
 have f9 := hv10.ext cb2
 have f10 := f9.ext cb4
 have f11 := hv20.ext cb2
 have f12 := f11.ext cb4
 refine sx_call rfl rfl Tryd.call63 (c_eqSigned f10 f12 (by omega)) (fun v13 w13 p13 => ?_)
 obtain ⟨rfl, c13⟩ := p13
 have zw13 := c13.size
 refine sx_pure rfl rfl rfl (px_notP rfl) ?_
 refine wl_nil (q_n (k7 _ _ ?_))
 refine sx_condP rfl (fun h405 => ?_) (fun h405 => ?_)
 ·
  refine sx_seq fun K14 k14 => sx_region ?_
  refine sa rfl rfl rfl rfl ?_
  refine wl_nil (q_n (k14 _ _ ?_))
  refine sx_retc ?_
  refine q_r (sx_ret1 Tryd.results83 rfl ?_)
  exact ⟨(by first | exact bTrue (by grind) | exact bFalse (by grind) | exact bIff (by grind)), ((cb2.t cb4).t c13)⟩
 ·
  refine sx_skip ?_
  refine q_n (k6 _ _ ?_)
  refine sx_seq fun K15 k15 => ?_
  refine sx_seq fun K16 k16 => sx_region ?_
  refine sx_pure rfl rfl rfl (px_field rfl xfld52x1) ?_
  have f17 := f8.ext c13
  refine sx_pure rfl rfl rfl (px_load rfl (f17.load1 rfl Tryd.isAgg3)) ?_
  refine sx_pure rfl rfl rfl (px_field rfl xfld52x1) ?_
  have f18 := fb4.ext c13
  refine sx_pure rfl rfl rfl (px_load rfl (f18.load1 rfl Tryd.isAgg3)) ?_
  refine sx_pure rfl rfl rfl (px_ne rfl rfl) ?_
  refine wl_nil (q_n (k16 _ _ ?_))
  refine sx_sub (Sub.cons (t := 4) rfl (.cons (t := 15) rfl (.nil))) ?_
  refine sx_condP rfl (fun h408 => ?_) (fun h408 => ?_)
  ·
   refine sx_seq fun K19 k19 => sx_region ?_
   refine sa rfl rfl rfl rfl ?_
   refine wl_nil (q_n (k19 _ _ ?_))
   refine sx_retc ?_
   refine q_r (sx_ret1 Tryd.results83 rfl ?_)
   exact ⟨(by first | exact bTrue (by grind) | exact bFalse (by grind) | exact bIff (by grind)), ((cb2.t cb4).t c13)⟩
  ·
   refine sx_skip ?_
   refine q_n (k15 _ _ ?_)
   refine sx_seq fun K20 k20 => sx_region ?_
   refine sa rfl rfl rfl rfl ?_
   refine wl_nil (q_n (k20 _ _ ?_))
   refine sx_retc ?_
   refine sx_ret1 Tryd.results83 rfl ?_
   exact ⟨(by first | exact bTrue (by grind) | exact bFalse (by grind) | exact bIff (by grind)), ((cb2.t cb4).t c13)⟩

theorem c_eqRate {w : World} {f1 : ByteArray} {t1 : ByteArray} {n1 : Bool} {v1 : Value} {lv1 uv1 : Nat} {z1 : List Int} {p1 : Int} {f2 : ByteArray} {t2 : ByteArray} {n2 : Bool} {v2 : Value} {lv2 uv2 : Nat} {z2 : List Int} {p2 : Int} (hv1 : Sl w lv1 uv1 v1 (z1)) (hv2 : Sl w lv2 uv2 v2 (z2)) (h63 : z1.length ≤ 4611686018427387904 ∧ z2.length ≤ 4611686018427387904) :
  Ret Tryd.prog 33 [.agg #[.string f1, .string t1, .bool n1, v1, .int .i64 p1], .agg #[.string f2, .string t2, .bool n2, v2, .int .i64 p2]] w fun v w' => v = .bool (decide (f1 = f2 ∧ t1 = t2 ∧ n1 = n2 ∧ z1 = z2 ∧ p1 = p2)) ∧ Chg 0 0 w w' := by
 have hv10 := hv1.fit
 have hv20 := hv2.fit
 refine sx_enter Tryd.func33 rfl Tryd.ntmps33 (Nat.le_of_ble_eq_true rfl) ?_
 refine sx_seq fun K1 k1 => sx_region ?_
 refine sx_box [.string f1, .string t1, .bool n1, v1, .int .i64 p1] rfl rfl rfl (fun b2 w3 eb2 sb2 fb2 cb2 => ?_)
 have zw3 := cb2.size
 refine sx_box [.string f2, .string t2, .bool n2, v2, .int .i64 p2] rfl rfl rfl (fun b4 w5 eb4 sb4 fb4 cb4 => ?_)
 have zw5 := cb4.size
 refine sa rfl rfl rfl rfl ?_
 refine wl_nil (q_n (k1 _ _ ?_))
 refine sx_seq fun K6 k6 => ?_
 refine sx_seq fun K7 k7 => sx_region ?_
 refine sx_pure rfl rfl rfl (px_field rfl xfld54x0) ?_
 have f8 := fb2.ext cb4
 refine sx_pure rfl rfl rfl (px_load rfl (f8.load1 rfl Tryd.isAgg9)) ?_
 refine sx_pure rfl rfl rfl (px_field rfl xfld54x0) ?_
 refine sx_pure rfl rfl rfl (px_load rfl (fb4.load1 rfl Tryd.isAgg9)) ?_
 refine sx_pure rfl rfl rfl (px_neS rfl rfl) ?_
 refine wl_nil (q_n (k7 _ _ ?_))
 refine sx_condP rfl (fun h557 => ?_) (fun h557 => ?_)
 ·
  refine sx_seq fun K9 k9 => sx_region ?_
  refine sa rfl rfl rfl rfl ?_
  refine wl_nil (q_n (k9 _ _ ?_))
  refine sx_retc ?_
  refine q_r (sx_ret1 Tryd.results33 rfl ?_)
  exact ⟨(by first | exact bTrue (by grind) | exact bFalse (by grind) | exact bIff (by grind)), (cb2.t cb4)⟩
 ·
  refine sx_skip ?_
  refine q_n (k6 _ _ ?_)
  refine sx_seq fun K10 k10 => ?_
  refine sx_seq fun K11 k11 => sx_region ?_
  refine sx_pure rfl rfl rfl (px_field rfl xfld54x1) ?_
  refine sx_pure rfl rfl rfl (px_load rfl (f8.load1 rfl Tryd.isAgg9)) ?_
  refine sx_pure rfl rfl rfl (px_field rfl xfld54x1) ?_
  refine sx_pure rfl rfl rfl (px_load rfl (fb4.load1 rfl Tryd.isAgg9)) ?_
  refine sx_pure rfl rfl rfl (px_neS rfl rfl) ?_
  refine wl_nil (q_n (k11 _ _ ?_))
  refine sx_sub (Sub.cons (t := 2) rfl (.cons (t := 3) rfl (.cons (t := 4) rfl (.cons (t := 14) rfl (.nil))))) ?_
  refine sx_condP rfl (fun h560 => ?_) (fun h560 => ?_)
  ·
   refine sx_seq fun K12 k12 => sx_region ?_
   refine sa rfl rfl rfl rfl ?_
   refine wl_nil (q_n (k12 _ _ ?_))
   refine sx_retc ?_
   refine q_r (sx_ret1 Tryd.results33 rfl ?_)
   exact ⟨(by first | exact bTrue (by grind) | exact bFalse (by grind) | exact bIff (by grind)), (cb2.t cb4)⟩
  ·
   refine sx_skip ?_
   refine q_n (k10 _ _ ?_)
   refine sx_seq fun K13 k13 => ?_
   refine sx_seq fun K14 k14 => sx_region ?_
   refine sx_pure rfl rfl rfl (px_field rfl xfld54x2) ?_
   refine sx_pure rfl rfl rfl (px_load rfl (f8.loadA (vs := [.bool n1, v1, .int .i64 p1]) (look_lit rfl) Tryd.isAgg52 Tryd.sizeOf52)) ?_
   refine sx_pure rfl rfl rfl (px_field rfl xfld54x2) ?_
   refine sx_pure rfl rfl rfl (px_load rfl (fb4.loadA (vs := [.bool n2, v2, .int .i64 p2]) (look_lit rfl) Tryd.isAgg52 Tryd.sizeOf52)) ?_
   have f15 := hv10.ext cb2
   have f16 := f15.ext cb4
   have f17 := hv20.ext cb2
   have f18 := f17.ext cb4
   refine sx_call rfl rfl Tryd.call83 (c_eqDec f16 f18 (by omega)) (fun v19 w19 p19 => ?_)
   obtain ⟨rfl, c19⟩ := p19
   have zw19 := c19.size
   refine sx_pure rfl rfl rfl (px_notP rfl) ?_
   refine wl_nil (q_n (k14 _ _ ?_))
   refine sx_condP rfl (fun h563 => ?_) (fun h563 => ?_)
   ·
    refine sx_seq fun K20 k20 => sx_region ?_
    refine sa rfl rfl rfl rfl ?_
    refine wl_nil (q_n (k20 _ _ ?_))
    refine sx_retc ?_
    refine q_r (sx_ret1 Tryd.results33 rfl ?_)
    exact ⟨(by first | exact bTrue (by grind) | exact bFalse (by grind) | exact bIff (by grind)), ((cb2.t cb4).t c19)⟩
   ·
    refine sx_skip ?_
    refine q_n (k13 _ _ ?_)
    refine sx_seq fun K21 k21 => sx_region ?_
    refine sa rfl rfl rfl rfl ?_
    refine wl_nil (q_n (k21 _ _ ?_))
    refine sx_retc ?_
    refine sx_ret1 Tryd.results33 rfl ?_
    exact ⟨(by first | exact bTrue (by grind) | exact bFalse (by grind) | exact bIff (by grind)), ((cb2.t cb4).t c19)⟩

end Go.Proofs.YtomfgkfpihemlaaDoor
