/- Contracts of functions of the program: what each call returns, and that it changes nothing that was. Conditions: as each says. -/
import Derived.Test.YtfoceofnldnbgaaGreatDoorTy
import Derived.Test.YtfoceofnldnbgaaGreatDoorNatL
import Derived.Test.YtfoceofnldnbgaaGreatDoorRm
set_option linter.unusedVariables false
set_option linter.unusedSimpArgs false
namespace Go.Proofs.YtfoceofnldnbgaaGreatDoor
open Go Go.RowKit
set_option maxRecDepth 100000
theorem c_szIntS {w : World} {va : Value} {lva uva : Nat} {zs : List Int} {n : Int} (hva : Sl w lva uva va (zs)) (bzs : zs.length ≤ 9223372036854775807) (hn : 0 ≤ n ∧ n ≤ 1048576) :
  Ret Tryz.prog 15 [va, .int .i64 n] w fun v w' => ∃ r, v = .int .i64 (r) ∧ (r < 0 ∨ (0 ≤ r ∧ r = n - (zs).length)) ∧ Chg 0 0 w w' := by
 have hva0 := hva.fit
 refine sx_enter Tryz.func15 rfl Tryz.ntmps15 (Nat.le_of_ble_eq_true rfl) ?_
 refine sx_seq fun K1 k1 => sx_region ?_
 refine sa rfl rfl rfl rfl ?_
 refine wl_nil (q_n (k1 _ _ ?_))
 refine sx_seq fun K2 k2 => sx_region ?_
 refine sm rfl rfl rfl rfl ?_
 refine sm rfl rfl rfl rfl ?_
 refine sx_pure rfl rfl rfl (px_len rfl Tryz.underlying22 hva0) ?_
 refine sx_pure rfl rfl rfl (px_sub rfl rfl (by omega)) ?_
 refine sa rfl rfl rfl rfl ?_
 refine wl_nil (q_n (k2 _ _ ?_))
 refine sx_seq fun K3 k3 => ?_
 refine sx_seq fun K4 k4 => sx_region ?_
 refine sm rfl rfl rfl rfl ?_
 refine sx_pure rfl rfl rfl (px_lt rfl rfl) ?_
 refine wl_nil (q_n (k4 _ _ ?_))
 refine sx_condP rfl (fun h248 => ?_) (fun h248 => ?_)
 ·
  refine sx_seq fun K5 k5 => sx_region ?_
  refine sa rfl rfl rfl rfl ?_
  refine wl_nil (q_n (k5 _ _ ?_))
  refine sx_retc ?_
  refine q_r (sx_ret1 Tryz.results15 rfl ?_)
  exact ⟨_, rfl, by omega, (Chg.refl 0 0 _)⟩
 ·
  refine sx_skip ?_
  refine q_n (k3 _ _ ?_)
  refine sx_seq fun K6 k6 => sx_region ?_
  refine sm rfl rfl rfl rfl ?_
  refine sa rfl rfl rfl rfl ?_
  refine wl_nil (q_n (k6 _ _ ?_))
  refine sx_retc ?_
  refine sx_ret1 Tryz.results15 rfl ?_
  exact ⟨_, rfl, by omega, (Chg.refl 0 0 _)⟩

theorem c_szSigned {w : World} {n1 : Bool} {v1 : Value} {lv1 uv1 : Nat} {z1 : List Int} {n : Int} (hv1 : Sl w lv1 uv1 v1 (z1)) (bz1 : z1.length ≤ 9223372036854775807) (hn : 0 ≤ n ∧ n ≤ 1048576) :
  Ret Tryz.prog 14 [.agg #[.bool n1, v1], .int .i64 n] w fun v w' => ∃ r, v = .int .i64 (r) ∧ (r < 0 ∨ (0 ≤ r ∧ r = n - (z1).length)) ∧ Chg 0 0 w w' := by
 have hv10 := hv1.fit
 refine sx_enter Tryz.func14 rfl Tryz.ntmps14 (Nat.le_of_ble_eq_true rfl) ?_
 refine sx_seq fun K1 k1 => sx_region ?_
 refine sx_box [.bool n1, v1] rfl rfl rfl (fun b2 w3 eb2 sb2 fb2 cb2 => ?_)
 have zw3 := cb2.size
 refine sa rfl rfl rfl rfl ?_
 refine wl_nil (q_n (k1 _ _ ?_))
 refine sx_seq fun K4 k4 => sx_region ?_
 refine sx_pure rfl rfl rfl (px_field rfl xfld24x1) ?_
 refine sx_pure rfl rfl rfl (px_load rfl (fb2.load1 rfl Tryz.isAgg22)) ?_
 refine sm rfl rfl rfl rfl ?_
 have f5 := hv10.ext cb2
 refine sx_call rfl rfl Tryz.call15 (c_szIntS f5 (by omega) (by omega)) (fun v6 w6 p6 => ?_)
 obtain ⟨r6, rfl, hr6, c6⟩ := p6
 have zw6 := c6.size
 refine sa rfl rfl rfl rfl ?_
 refine wl_nil (q_n (k4 _ _ ?_))
 refine sx_seq fun K7 k7 => ?_
 refine sx_seq fun K8 k8 => sx_region ?_
 refine sm rfl rfl rfl rfl ?_
 refine sx_pure rfl rfl rfl (px_lt rfl rfl) ?_
 refine wl_nil (q_n (k8 _ _ ?_))
 refine sx_condP rfl (fun h256 => ?_) (fun h256 => ?_)
 ·
  refine sx_seq fun K9 k9 => sx_region ?_
  refine sa rfl rfl rfl rfl ?_
  refine wl_nil (q_n (k9 _ _ ?_))
  refine sx_retc ?_
  refine q_r (sx_ret1 Tryz.results14 rfl ?_)
  exact ⟨_, rfl, by omega, (cb2.t c6)⟩
 ·
  refine sx_skip ?_
  refine q_n (k7 _ _ ?_)
  refine sx_seq fun K10 k10 => sx_region ?_
  refine sm rfl rfl rfl rfl ?_
  refine sa rfl rfl rfl rfl ?_
  refine wl_nil (q_n (k10 _ _ ?_))
  refine sx_retc ?_
  refine sx_ret1 Tryz.results14 rfl ?_
  exact ⟨_, rfl, by omega, (cb2.t c6)⟩

theorem c_szRat {w : World} {n1 : Bool} {v1 : Value} {lv1 uv1 : Nat} {z1 : List Int} {d1 : Value} {ld1 ud1 : Nat} {y1 : List Int} {n : Int} (hv1 : Sl w lv1 uv1 v1 (z1)) (hd1 : Sl w ld1 ud1 d1 (y1)) (bz1 : z1.length ≤ 9223372036854775807) (by1 : y1.length ≤ 9223372036854775807) (hn : 0 ≤ n ∧ n ≤ 1048576) :
  Ret Tryz.prog 4 [.agg #[.bool n1, v1, d1], .int .i64 n] w fun v w' => ∃ r, v = .int .i64 (r) ∧ (r < 0 ∨ (0 ≤ r ∧ r = n - (z1).length - (y1).length)) ∧ Chg 0 0 w w' := by
 have hv10 := hv1.fit
 have hd10 := hd1.fit
 refine sx_enter Tryz.func4 rfl Tryz.ntmps4 (Nat.le_of_ble_eq_true rfl) ?_
 refine sx_seq fun K1 k1 => sx_region ?_
 refine sx_box [.bool n1, v1, d1] rfl rfl rfl (fun b2 w3 eb2 sb2 fb2 cb2 => ?_)
 have zw3 := cb2.size
 refine sa rfl rfl rfl rfl ?_
 refine wl_nil (q_n (k1 _ _ ?_))
 refine sx_seq fun K4 k4 => sx_region ?_
 refine sx_pure rfl rfl rfl (px_field rfl xfld26x0) ?_
 refine sx_pure rfl rfl rfl (px_load rfl (fb2.loadA (vs := [.bool n1, v1]) (look_lit rfl) Tryz.isAgg24 Tryz.sizeOf24)) ?_
 refine sm rfl rfl rfl rfl ?_
 have f5 := hv10.ext cb2
 refine sx_call rfl rfl Tryz.call14 (c_szSigned f5 (by omega) (by omega)) (fun v6 w6 p6 => ?_)
 obtain ⟨r6, rfl, hr6, c6⟩ := p6
 have zw6 := c6.size
 refine sa rfl rfl rfl rfl ?_
 refine wl_nil (q_n (k4 _ _ ?_))
 refine sx_seq fun K7 k7 => ?_
 refine sx_seq fun K8 k8 => sx_region ?_
 refine sm rfl rfl rfl rfl ?_
 refine sx_pure rfl rfl rfl (px_lt rfl rfl) ?_
 refine wl_nil (q_n (k8 _ _ ?_))
 refine sx_condP rfl (fun h351 => ?_) (fun h351 => ?_)
 ·
  refine sx_seq fun K9 k9 => sx_region ?_
  refine sa rfl rfl rfl rfl ?_
  refine wl_nil (q_n (k9 _ _ ?_))
  refine sx_retc ?_
  refine q_r (sx_ret1 Tryz.results4 rfl ?_)
  exact ⟨_, rfl, by omega, (cb2.t c6)⟩
 ·
  refine sx_skip ?_
  refine q_n (k7 _ _ ?_)
  refine sx_seq fun K10 k10 => sx_region ?_
  refine sx_pure rfl rfl rfl (px_field rfl xfld26x1) ?_
  have f11 := fb2.ext c6
  refine sx_pure rfl rfl rfl (px_load rfl (f11.load1 rfl Tryz.isAgg22)) ?_
  refine sm rfl rfl rfl rfl ?_
  have f12 := hd10.ext cb2
  have f13 := f12.ext c6
  refine sx_call rfl rfl Tryz.call15 (c_szIntS f13 (by omega) (by omega)) (fun v14 w14 p14 => ?_)
  obtain ⟨r14, rfl, hr14, c14⟩ := p14
  have zw14 := c14.size
  refine sa rfl rfl rfl rfl ?_
  refine wl_nil (q_n (k10 _ _ ?_))
  refine sx_seq fun K15 k15 => ?_
  refine sx_seq fun K16 k16 => sx_region ?_
  refine sm rfl rfl rfl rfl ?_
  refine sx_pure rfl rfl rfl (px_lt rfl rfl) ?_
  refine wl_nil (q_n (k16 _ _ ?_))
  refine sx_sub (Sub.cons (t := 1) rfl (.cons (t := 4) rfl (.cons (t := 16) rfl (.nil)))) ?_
  refine sx_condP rfl (fun h355 => ?_) (fun h355 => ?_)
  ·
   refine sx_seq fun K17 k17 => sx_region ?_
   refine sa rfl rfl rfl rfl ?_
   refine wl_nil (q_n (k17 _ _ ?_))
   refine sx_retc ?_
   refine q_r (sx_ret1 Tryz.results4 rfl ?_)
   exact ⟨_, rfl, by omega, ((cb2.t c6).t c14)⟩
  ·
   refine sx_skip ?_
   refine q_n (k15 _ _ ?_)
   refine sx_seq fun K18 k18 => sx_region ?_
   refine sm rfl rfl rfl rfl ?_
   refine sa rfl rfl rfl rfl ?_
   refine wl_nil (q_n (k18 _ _ ?_))
   refine sx_retc ?_
   refine sx_ret1 Tryz.results4 rfl ?_
   exact ⟨_, rfl, by omega, ((cb2.t c6).t c14)⟩

theorem c_toIntS {w : World} {va : Value} {lva uva : Nat} {zs : List Int} (hva : Sl w lva uva va (zs)) (h63 : zs.length ≤ 1048576) :
  Ret Tryz.prog 19 [va] w fun v w' => ∃ s, v = s ∧ OwnI w' w.heap.size w'.heap.size s intT (zs) ∧ Chg 0 0 w w' := by
 have hva0 := hva.fit
 refine sx_enter Tryz.func19 rfl Tryz.ntmps19 (Nat.le_of_ble_eq_true rfl) ?_
 refine sx_seq fun K1 k1 => sx_region ?_
 refine sa rfl rfl rfl rfl ?_
 refine wl_nil (q_n (k1 _ _ ?_))
 refine sx_seq fun K2 k2 => sx_region ?_
 refine sm rfl rfl rfl rfl ?_
 refine sx_pure rfl rfl rfl (px_len rfl Tryz.underlying22 hva0) ?_
 refine sx_make (c := (zs).length) rfl xelt22 (rfl) (rfl) (by omega) (by unfold maxLen; omega) (fun s3 ws3 fs3 cs3 ls3 => ?_)
 have ns3 := fs3.made
 have zws3 := cs3.size
 refine sa rfl rfl rfl rfl ?_
 refine wl_nil (q_n (k2 _ _ ?_))
 refine sx_seq fun K4 k4 => ?_
 refine sx_seq fun K5 k5 => sx_region ?_
 refine sa rfl rfl rfl rfl ?_
 refine wl_nil (q_n (k5 _ _ ?_))
 refine sx_block ?_
 refine sx_loop (fun mm aa w' => ∃ (k : Nat) (os : List Int), Agr 22 [(0, va), (3, s3), (4, .int .i64 ↑k)] aa ∧ Chg w.heap.size ws3.heap.size ws3 w' ∧ Own w' w.heap.size ws3.heap.size s3 3 os.length 1 (os.map (Value.int .i64)) ∧ (mm = zs.length - k) ∧ (k ≤ zs.length) ∧ (os.length = zs.length) ∧ (os.take k = zs.take k)) (_) (fun a ha => ⟨0, List.replicate zs.length 0, ha.sub (Sub.cons (t := 0) rfl (.cons (t := 3) rfl (.cons (t := 4) (look_int (t := 4) rfl (by first | omega | simp)) (.nil)))), Chg.refl _ _ _, (ns3.mono (by omega) (by omega)), rfl, by omega, by simp, by simp⟩) ?_
 rintro mm aa wl6 ⟨k, os, hAwl6, cwl6, hs_s3, hm, hk, ho, he⟩
 refine (show cw Tryz.prog 22 _ _ _ wl6 from ?_) aa hAwl6
 clear hAwl6
 have zwl6 := cwl6.size
 refine sx_seq fun K7 k7 => ?_
 refine sx_seq fun K8 k8 => sx_region ?_
 refine sm rfl rfl rfl rfl ?_
 refine sm rfl rfl rfl rfl ?_
 have f9 := hva0.ext cs3
 have f10 := f9.chg cwl6 (by omega)
 refine sx_pure rfl rfl rfl (px_len rfl Tryz.underlying22 f10) ?_
 refine sx_pure rfl rfl rfl (px_lt rfl rfl) ?_
 refine wl_nil (q_n (k8 _ _ ?_))
 refine sx_condP rfl (fun h203 => ?_) (fun h203 => ?_)
 ·
  refine sx_skip ?_
  refine q_n (k7 _ _ ?_)
  refine sx_seq fun K11 k11 => ?_
  refine sx_block ?_
  refine sx_region ?_
  refine sm rfl rfl rfl rfl ?_
  refine sm rfl rfl rfl rfl ?_
  refine sm rfl rfl rfl rfl ?_
  refine sm rfl rfl rfl rfl ?_
  refine sx_pure rfl rfl rfl (px_index1 (j := k) rfl rfl (by omega) Tryz.underlying22 Tryz.sizeOf3 f10 (by omega)) ?_
  refine sx_pure rfl rfl rfl (px_load rfl (f10.load1 (at_int (by omega)) Tryz.isAgg3)) ?_
  refine sx_pure rfl rfl rfl (px_index1 (j := k) rfl rfl (by omega) Tryz.underlying22 Tryz.sizeOf3 hs_s3.sv (by omega)) ?_
  refine sx_storeO rfl rfl hs_s3 (by simp only [List.length_map]; omega) Tryz.sizeOf3 rfl (fun w12 sw12 fw12 cw12 => ?_)
  have zw12 := cw12.size
  have nw12 := fw12.set
  refine wl_nil ?_
  refine q_bn (q_n (k11 _ _ ?_))
  refine sx_region ?_
  refine sm rfl rfl rfl rfl ?_
  refine sx_pure rfl rfl rfl (px_add rfl rfl (by omega)) ?_
  refine sa rfl rfl rfl rfl ?_
  refine wl_nil ?_
  have q13 := Chg.step (l := w.heap.size) (h := ws3.heap.size) cwl6 cw12 (by omega)
  exact fun a ha => ⟨_, by omega, (k + 1), (os.set k (zs.getD k 0)), ha.sub (Sub.cons (t := 0) rfl (.cons (t := 3) rfl (.cons (t := 4) (look_int (t := 4) rfl (by first | omega | simp)) (.nil)))), q13, (nw12.mono (by omega) (by omega)), rfl, by omega, by simp [ho], take_set_succ he (by omega) (by omega)⟩
 ·
  refine sx_exit ?_
  refine q_e (q_e (q_bx (q_n (k4 _ _ ?_))))
  refine sx_seq fun K14 k14 => sx_region ?_
  refine sm rfl rfl rfl rfl ?_
  refine sa rfl rfl rfl rfl ?_
  refine wl_nil (q_n (k14 _ _ ?_))
  refine sx_retc ?_
  refine sx_ret1 Tryz.results19 rfl ?_
  have e1 : k = zs.length := by omega
  rw [e1, List.take_length, List.take_of_length_le (by omega)] at he
  subst he
  have q15 := Chg.step (l := 0) (h := 0) (Chg.zero (l := 0) (h := 0) cs3) cwl6 (by omega)
  exact ⟨_, rfl, Own.mono hs_s3 (by omega) (by omega), q15⟩

theorem c_toSigned {w : World} {n1 : Bool} {v1 : Value} {lv1 uv1 : Nat} {z1 : List Int} (hv1 : Sl w lv1 uv1 v1 (z1)) (bz1 : z1.length ≤ 1048576) :
  Ret Tryz.prog 18 [.agg #[.bool n1, v1]] w fun v w' => ∃ s1, v = .agg #[.bool (n1), s1] ∧ OwnI w' w.heap.size w'.heap.size s1 intT (z1) ∧ Chg 0 0 w w' := by
 have hv10 := hv1.fit
 refine sx_enter Tryz.func18 rfl Tryz.ntmps18 (Nat.le_of_ble_eq_true rfl) ?_
 refine sx_seq fun K1 k1 => sx_region ?_
 refine sx_box [.bool n1, v1] rfl rfl rfl (fun b2 w3 eb2 sb2 fb2 cb2 => ?_)
 have zw3 := cb2.size
 refine sx_alloc [.bool false, (.slice none 0 0)] rfl Tryz.zeroValue28 rfl (fun b4 w5 eb4 sb4 fb4 cb4 => ?_)
 have zw5 := cb4.size
 refine wl_nil (q_n (k1 _ _ ?_))
 refine sx_seq fun K6 k6 => sx_region ?_
 refine sx_alloc [.bool false, (.slice none 0 0)] rfl Tryz.zeroValue28 rfl (fun b7 w8 eb7 sb7 fb7 cb7 => ?_)
 have zw8 := cb7.size
 refine wl_nil (q_n (k6 _ _ ?_))
 refine sx_seq fun K9 k9 => sx_region ?_
 refine sx_pure rfl rfl rfl (px_field rfl xfld24x0) ?_
 have f10 := fb2.ext cb4
 have f11 := f10.ext cb7
 refine sx_pure rfl rfl rfl (px_load rfl (f11.load1 rfl Tryz.isAgg4)) ?_
 refine sx_pure rfl rfl rfl (px_field rfl xfld28x0) ?_
 refine sx_store (vs := [.bool n1]) rfl rfl fb7 rfl Tryz.sizeOf4 (Nat.le_of_ble_eq_true rfl) (one_cons rfl one_nil) (fun w12 sw12 fw12 cw12 => ?_)
 have zw12 := cw12.size
 have gw12 : Blk w12 b7 [.bool n1, (.slice none 0 0)] 28 := fw12
 refine wl_nil (q_n (k9 _ _ ?_))
 refine sx_seq fun K13 k13 => sx_region ?_
 refine sx_pure rfl rfl rfl (px_field rfl xfld24x1) ?_
 have f14 := f11.chg cw12 (by omega)
 refine sx_pure rfl rfl rfl (px_load rfl (f14.load1 rfl Tryz.isAgg22)) ?_
 have f15 := hv10.ext cb2
 have f16 := f15.ext cb4
 have f17 := f16.ext cb7
 have f18 := f17.chg cw12 (by omega)
 refine sx_call rfl rfl Tryz.call19 (c_toIntS f18 (by omega)) (fun v19 w19 p19 => ?_)
 obtain ⟨s19, rfl, os_19, c19⟩ := p19
 have zw19 := c19.size
 refine sx_pure rfl rfl rfl (px_field rfl xfld28x1) ?_
 have f21 := gw12.ext c19
 refine sx_store (vs := [v19]) rfl rfl f21 (cells_one os_19.one) Tryz.sizeOf22 (Nat.le_of_ble_eq_true rfl) (one_cons os_19.one one_nil) (fun w20 sw20 fw20 cw20 => ?_)
 have zw20 := cw20.size
 have gw20 : Blk w20 b7 [.bool n1, v19] 28 := fw20
 refine wl_nil (q_n (k13 _ _ ?_))
 refine sx_seq fun K22 k22 => sx_region ?_
 refine sx_pure rfl rfl rfl (px_load rfl (gw20.loadA (vs := [.bool n1, v19]) (look_lit rfl) Tryz.isAgg28 Tryz.sizeOf28)) ?_
 have f24 := fb4.ext cb7
 have f25 := f24.chg cw12 (by omega)
 have f26 := f25.ext c19
 have f27 := f26.chg cw20 (by omega)
 have f28 := os_19.chg cw20 (by omega)
 refine sx_store (vs := [.bool n1, v19]) rfl rfl f27 rfl Tryz.sizeOf28 (Nat.le_of_ble_eq_true rfl) (one_cons rfl (one_cons f28.one one_nil)) (fun w23 sw23 fw23 cw23 => ?_)
 have zw23 := cw23.size
 have gw23 : Blk w23 b4 [.bool n1, v19] 28 := fw23
 refine wl_nil (q_n (k22 _ _ ?_))
 refine sx_retc ?_
 refine sx_ret1 Tryz.results18 ⟨_, rfl, gw23.loadA (vs := [.bool n1, v19]) (look_lit rfl) Tryz.isAgg28 Tryz.sizeOf28⟩ ?_
 have q29 := Chg.step (l := 0) (h := 0) (Chg.zero (l := 0) (h := 0) ((cb2.t cb4).t cb7)) cw12 (by omega)
 have q30 := Chg.step (l := 0) (h := 0) q29 c19 (by omega)
 have q31 := Chg.step (l := 0) (h := 0) q30 cw20 (by omega)
 have q32 := Chg.step (l := 0) (h := 0) q31 cw23 (by omega)
 have f33 := f28.chg cw23 (by omega)
 exact ⟨_, rfl, Own.mono f33 (by omega) (by omega), q32⟩

theorem c_toRat {w : World} {n1 : Bool} {v1 : Value} {lv1 uv1 : Nat} {z1 : List Int} {d1 : Value} {ld1 ud1 : Nat} {y1 : List Int} (hv1 : Sl w lv1 uv1 v1 (z1)) (hd1 : Sl w ld1 ud1 d1 (y1)) (bz1 : z1.length ≤ 1048576) (by1 : y1.length ≤ 1048576) :
  Ret Tryz.prog 6 [.agg #[.bool n1, v1, d1]] w fun v w' => ∃ s t ls us lt ut, v = .agg #[.bool (n1), s, t] ∧ OwnI w' (ls) (us) s intT (z1) ∧ OwnI w' (lt) (ut) t intT (y1) ∧ (w.heap.size ≤ ls ∧ us ≤ w'.heap.size ∧ w.heap.size ≤ lt ∧ ut ≤ w'.heap.size ∧ (us ≤ lt ∨ ut ≤ ls)) ∧ Chg 0 0 w w' := by
 have hv10 := hv1.fit
 have hd10 := hd1.fit
 refine sx_enter Tryz.func6 rfl Tryz.ntmps6 (Nat.le_of_ble_eq_true rfl) ?_
 refine sx_seq fun K1 k1 => sx_region ?_
 refine sx_box [.bool n1, v1, d1] rfl rfl rfl (fun b2 w3 eb2 sb2 fb2 cb2 => ?_)
 have zw3 := cb2.size
 refine sx_alloc [.bool false, (.slice none 0 0), (.slice none 0 0)] rfl Tryz.zeroValue32 rfl (fun b4 w5 eb4 sb4 fb4 cb4 => ?_)
 have zw5 := cb4.size
 refine wl_nil (q_n (k1 _ _ ?_))
 refine sx_seq fun K6 k6 => sx_region ?_
 refine sx_alloc [.bool false, (.slice none 0 0), (.slice none 0 0)] rfl Tryz.zeroValue32 rfl (fun b7 w8 eb7 sb7 fb7 cb7 => ?_)
 have zw8 := cb7.size
 refine wl_nil (q_n (k6 _ _ ?_))
 refine sx_seq fun K9 k9 => sx_region ?_
 refine sx_pure rfl rfl rfl (px_field rfl xfld26x0) ?_
 have f10 := fb2.ext cb4
 have f11 := f10.ext cb7
 refine sx_pure rfl rfl rfl (px_load rfl (f11.loadA (vs := [.bool n1, v1]) (look_lit rfl) Tryz.isAgg24 Tryz.sizeOf24)) ?_
 have f12 := hv10.ext cb2
 have f13 := f12.ext cb4
 have f14 := f13.ext cb7
 refine sx_call rfl rfl Tryz.call18 (c_toSigned f14 (by omega)) (fun v15 w15 p15 => ?_)
 obtain ⟨s115, rfl, os1_15, c15⟩ := p15
 have zw15 := c15.size
 refine sx_pure rfl rfl rfl (px_field rfl xfld32x0) ?_
 have f17 := fb7.ext c15
 refine sx_store (vs := [.bool n1, s115]) rfl rfl f17 rfl Tryz.sizeOf28 (Nat.le_of_ble_eq_true rfl) (one_cons rfl (one_cons os1_15.one one_nil)) (fun w16 sw16 fw16 cw16 => ?_)
 have zw16 := cw16.size
 have gw16 : Blk w16 b7 [.bool n1, s115, (.slice none 0 0)] 32 := fw16
 refine wl_nil (q_n (k9 _ _ ?_))
 refine sx_seq fun K18 k18 => sx_region ?_
 refine sx_pure rfl rfl rfl (px_field rfl xfld26x1) ?_
 have f19 := f11.ext c15
 have f20 := f19.chg cw16 (by omega)
 refine sx_pure rfl rfl rfl (px_load rfl (f20.load1 rfl Tryz.isAgg22)) ?_
 have f21 := hd10.ext cb2
 have f22 := f21.ext cb4
 have f23 := f22.ext cb7
 have f24 := f23.ext c15
 have f25 := f24.chg cw16 (by omega)
 refine sx_call rfl rfl Tryz.call19 (c_toIntS f25 (by omega)) (fun v26 w26 p26 => ?_)
 obtain ⟨s26, rfl, os_26, c26⟩ := p26
 have zw26 := c26.size
 refine sx_pure rfl rfl rfl (px_field rfl xfld32x1) ?_
 have f28 := gw16.ext c26
 refine sx_store (vs := [v26]) rfl rfl f28 (cells_one os_26.one) Tryz.sizeOf22 (Nat.le_of_ble_eq_true rfl) (one_cons os_26.one one_nil) (fun w27 sw27 fw27 cw27 => ?_)
 have zw27 := cw27.size
 have gw27 : Blk w27 b7 [.bool n1, s115, v26] 32 := fw27
 refine wl_nil (q_n (k18 _ _ ?_))
 refine sx_seq fun K29 k29 => sx_region ?_
 refine sx_pure rfl rfl rfl (px_load rfl (gw27.loadA (vs := [.bool n1, s115, v26]) (look_lit rfl) Tryz.isAgg32 Tryz.sizeOf32)) ?_
 have f31 := fb4.ext cb7
 have f32 := f31.ext c15
 have f33 := f32.chg cw16 (by omega)
 have f34 := f33.ext c26
 have f35 := f34.chg cw27 (by omega)
 have f36 := os_26.chg cw27 (by omega)
 have f37 := os1_15.chg cw16 (by omega)
 have f38 := f37.ext c26
 have f39 := f38.chg cw27 (by omega)
 refine sx_store (vs := [.bool n1, s115, v26]) rfl rfl f35 rfl Tryz.sizeOf32 (Nat.le_of_ble_eq_true rfl) (one_cons rfl (one_cons f39.one (one_cons f36.one one_nil))) (fun w30 sw30 fw30 cw30 => ?_)
 have zw30 := cw30.size
 have gw30 : Blk w30 b4 [.bool n1, s115, v26] 32 := fw30
 refine wl_nil (q_n (k29 _ _ ?_))
 refine sx_retc ?_
 refine sx_ret1 Tryz.results6 ⟨_, rfl, gw30.loadA (vs := [.bool n1, s115, v26]) (look_lit rfl) Tryz.isAgg32 Tryz.sizeOf32⟩ ?_
 have q40 := Chg.step (l := 0) (h := 0) (Chg.zero (l := 0) (h := 0) (((cb2.t cb4).t cb7).t c15)) cw16 (by omega)
 have q41 := Chg.step (l := 0) (h := 0) q40 c26 (by omega)
 have q42 := Chg.step (l := 0) (h := 0) q41 cw27 (by omega)
 have q43 := Chg.step (l := 0) (h := 0) q42 cw30 (by omega)
 have f44 := f39.chg cw30 (by omega)
 have f45 := f36.chg cw30 (by omega)
 exact ⟨_, _, _, _, _, _, rfl, f44, f45, by omega, q43⟩

theorem c_l01In {w : World} {n : Int} {lo : Int} {hi : Int} :
  Ret Tryz.prog 58 [.int .i64 n, .int .i64 lo, .int .i64 hi] w fun v w' => v = .bool (decide (lo ≤ n ∧ n ≤ hi)) ∧ Chg 0 0 w w' := by
 refine sx_enter Tryz.func58 rfl Tryz.ntmps58 (Nat.le_of_ble_eq_true rfl) ?_
 refine sx_seq fun K1 k1 => sx_region ?_
 refine sa rfl rfl rfl rfl ?_
 refine wl_nil (q_n (k1 _ _ ?_))
 refine sx_seq fun K2 k2 => sx_region ?_
 refine sm rfl rfl rfl rfl ?_
 refine sm rfl rfl rfl rfl ?_
 refine sx_pure rfl rfl rfl (px_ge rfl rfl) ?_
 refine sm rfl rfl rfl rfl ?_
 refine sx_tmpP (t := 10) rfl (fun h5 => ?_) (fun h5 => ?_)
 ·
  refine sx_guardT rfl rfl rfl ?_
  refine sm rfl rfl rfl rfl ?_
  refine sx_guardT rfl rfl rfl ?_
  refine sm rfl rfl rfl rfl ?_
  refine sx_guardT rfl rfl rfl ?_
  refine sx_pure rfl rfl rfl (px_le rfl rfl) ?_
  refine sx_pure rfl rfl rfl (px_pick rfl rfl) ?_
  refine sa rfl rfl rfl rfl ?_
  refine wl_nil (q_n (k2 _ _ ?_))
  refine sx_retc ?_
  refine sx_ret1 Tryz.results58 rfl ?_
  exact ⟨(by first | exact bIff (by omega) | exact bFalse (by omega) | exact bTrue (by omega)), (Chg.refl 0 0 _)⟩
 ·
  refine sx_guardF rfl rfl rfl rfl rfl rfl ?_
  refine sx_guardF rfl rfl rfl rfl rfl rfl ?_
  refine sx_guardF rfl rfl rfl rfl rfl rfl ?_
  refine sx_pure rfl rfl rfl (px_pick rfl rfl) ?_
  refine sa rfl rfl rfl rfl ?_
  refine wl_nil (q_n (k2 _ _ ?_))
  refine sx_retc ?_
  refine sx_ret1 Tryz.results58 rfl ?_
  exact ⟨(by first | exact bIff (by omega) | exact bFalse (by omega) | exact bTrue (by omega)), (Chg.refl 0 0 _)⟩

theorem c_sNatOk {w : World} {va : Value} {lva uva : Nat} {zs : List Int} (hva : Sl w lva uva va (zs)) (h63 : zs.length ≤ 4611686018427387904) :
  Ret Tryz.prog 55 [va] w fun v w' => v = .bool (decide (NOk zs)) ∧ Chg 0 0 w w' := by
 have hva0 := hva.fit
 refine sx_enter Tryz.func55 rfl Tryz.ntmps55 (Nat.le_of_ble_eq_true rfl) ?_
 refine sx_seq fun K1 k1 => sx_region ?_
 refine sa rfl rfl rfl rfl ?_
 refine wl_nil (q_n (k1 _ _ ?_))
 refine sx_seq fun K2 k2 => ?_
 refine sx_seq fun K3 k3 => sx_region ?_
 refine sm rfl rfl rfl rfl ?_
 refine sx_pure rfl rfl rfl (px_len rfl Tryz.underlying22 hva0) ?_
 refine sm rfl rfl rfl rfl ?_
 refine wl_nil (q_n (k3 _ _ ?_))
 refine sx_block ?_
 refine sx_loop (fun mm aa w' => ∃ (k : Nat), Agr 32 [(0, va), (5, va), (6, .int .i64 ↑zs.length), (7, .int .i64 ↑k)] aa ∧ Chg 0 0 w w' ∧ (mm = zs.length - k) ∧ (k ≤ zs.length) ∧ (∀ i, i < k → 0 ≤ zs.getD i 0 ∧ zs.getD i 0 < 1000000000)) (_) (fun a ha => ⟨0, ha.sub (Sub.cons (t := 0) rfl (.cons (t := 5) rfl (.cons (t := 6) (look_int (t := 6) rfl (by first | omega | simp)) (.cons (t := 7) (look_int (t := 7) rfl (by first | omega | simp)) (.nil))))), Chg.refl _ _ _, rfl, by omega, fun i h => by omega⟩) ?_
 rintro mm aa wl4 ⟨k, hAwl4, cwl4, hm, hk, hall⟩
 refine (show cw Tryz.prog 32 _ _ _ wl4 from ?_) aa hAwl4
 clear hAwl4
 have zwl4 := cwl4.size
 refine sx_seq fun K5 k5 => sx_region ?_
 refine sx_pure rfl rfl rfl (px_lt rfl rfl) ?_
 refine wl_nil (q_n (k5 _ _ ?_))
 refine sx_seq fun K6 k6 => ?_
 refine sx_condP rfl (fun h7 => ?_) (fun h7 => ?_)
 ·
  refine sx_skip ?_
  refine q_n (k6 _ _ ?_)
  refine sx_seq fun K7 k7 => ?_
  refine sx_block ?_
  refine sx_seq fun K8 k8 => sx_region ?_
  have f9 := hva0.ext cwl4
  refine sx_pure rfl rfl rfl (px_index1 (j := k) rfl rfl (by omega) Tryz.underlying22 Tryz.sizeOf3 f9 (by omega)) ?_
  refine sx_pure rfl rfl rfl (px_load rfl (f9.load1 (at_int (by omega)) Tryz.isAgg3)) ?_
  refine sa rfl rfl rfl rfl ?_
  refine wl_nil (q_n (k8 _ _ ?_))
  refine sx_seq fun K10 k10 => sx_region ?_
  refine sm rfl rfl rfl rfl ?_
  refine sx_call rfl rfl Tryz.call58 (c_l01In) (fun v11 w11 p11 => ?_)
  obtain ⟨rfl, c11⟩ := p11
  have zw11 := c11.size
  refine sx_pure rfl rfl rfl (px_notP rfl) ?_
  refine wl_nil (q_n (k10 _ _ ?_))
  refine sx_condP rfl (fun h8 => ?_) (fun h8 => ?_)
  ·
   refine sx_seq fun K12 k12 => sx_region ?_
   refine sa rfl rfl rfl rfl ?_
   refine wl_nil (q_n (k12 _ _ ?_))
   refine sx_retc ?_
   refine q_br (q_r (q_r (q_br (q_r (sx_ret1 Tryz.results55 rfl ?_)))))
   exact ⟨bFalse (fun h => by have h1 := h.1.getD k; omega), (cwl4.t c11)⟩
  ·
   refine sx_skip ?_
   refine q_bn (q_n (k7 _ _ ?_))
   refine sx_region ?_
   refine sx_pure rfl rfl rfl (px_add rfl rfl (by omega)) ?_
   refine sm rfl rfl rfl rfl ?_
   refine wl_nil ?_
   exact fun a ha => ⟨_, by omega, (k + 1), ha.sub (Sub.cons (t := 0) rfl (.cons (t := 5) rfl (.cons (t := 6) rfl (.cons (t := 7) (look_int (t := 7) rfl (by first | omega | simp)) (.nil))))), (cwl4.t c11), rfl, by omega, lm_succ hall (by omega)⟩
 ·
  refine sx_exit ?_
  refine q_e (q_e (q_bx (q_n (k2 _ _ ?_))))
  refine sx_seq fun K13 k13 => ?_
  have ek : k = zs.length := by omega
  have hz : Lm zs := lm_mem (by rw [← ek]; exact hall)
  refine sx_region ?_
  refine sm rfl rfl rfl rfl ?_
  have f14 := hva0.ext cwl4
  refine sx_pure rfl rfl rfl (px_len rfl Tryz.underlying22 f14) ?_
  refine sx_pure rfl rfl rfl (px_le rfl rfl) ?_
  refine sm rfl rfl rfl rfl ?_
  refine sx_tmpP (t := 18) rfl (fun h12 => ?_) (fun h12 => ?_)
  ·
   refine sx_guardT rfl rfl rfl ?_
   refine sm rfl rfl rfl rfl ?_
   refine sx_guardT rfl rfl rfl ?_
   refine sx_pure rfl rfl rfl (px_len rfl Tryz.underlying22 f14) ?_
   refine sx_guardT rfl rfl rfl ?_
   refine sx_pure rfl rfl rfl (px_eq rfl rfl) ?_
   refine sx_guardT rfl rfl rfl ?_
   refine sm rfl rfl rfl rfl ?_
   refine sx_tmpP (t := 22) rfl (fun h12x1 => ?_) (fun h12x1 => ?_)
   ·
    refine sx_guardF rfl rfl rfl rfl rfl rfl ?_
    refine sx_guardF rfl rfl rfl rfl rfl rfl ?_
    refine sx_guardF rfl rfl rfl rfl rfl rfl ?_
    refine sx_guardF rfl rfl rfl rfl rfl rfl ?_
    refine sx_guardF rfl rfl rfl rfl rfl rfl ?_
    refine sx_guardF rfl rfl rfl rfl rfl rfl ?_
    refine sx_guardF rfl rfl rfl rfl rfl rfl ?_
    refine sx_guardT rfl rfl rfl ?_
    refine sx_pure rfl rfl rfl (px_pick rfl rfl) ?_
    refine sx_pure rfl rfl rfl (px_pick rfl rfl) ?_
    refine sa rfl rfl rfl rfl ?_
    refine wl_nil (q_n (k13 _ _ ?_))
    refine sx_sub (Sub.cons (t := 2) rfl (.nil)) ?_
    refine sx_retc ?_
    refine sx_ret1 Tryz.results55 rfl ?_
    exact ⟨(by first | exact bFalse (fun h => by have h1 := h.2.1; omega) | exact bTrue (NOk_mk hz (by omega) (.inl (by omega))) | exact bIff (NOk_iff hz (by omega) (by omega))), cwl4⟩
   ·
    refine sx_guardT rfl rfl rfl ?_
    refine sm rfl rfl rfl rfl ?_
    refine sx_guardT rfl rfl rfl ?_
    refine sm rfl rfl rfl rfl ?_
    refine sx_guardT rfl rfl rfl ?_
    refine sx_pure rfl rfl rfl (px_len rfl Tryz.underlying22 f14) ?_
    refine sx_guardT rfl rfl rfl ?_
    refine sx_pure rfl rfl rfl (px_sub rfl rfl (by omega)) ?_
    refine sx_guardT rfl rfl rfl ?_
    refine sx_pure rfl rfl rfl (px_index1 (j := (zs.length - 1)) rfl rfl (by omega) Tryz.underlying22 Tryz.sizeOf3 f14 (by omega)) ?_
    refine sx_guardT rfl rfl rfl ?_
    refine sx_pure rfl rfl rfl (px_load rfl (f14.load1 (at_int (by omega)) Tryz.isAgg3)) ?_
    refine sx_guardT rfl rfl rfl ?_
    refine sx_pure rfl rfl rfl (px_ne rfl rfl) ?_
    refine sx_guardT rfl rfl rfl ?_
    refine sx_pure rfl rfl rfl (px_pick rfl rfl) ?_
    refine sx_pure rfl rfl rfl (px_pick rfl rfl) ?_
    refine sa rfl rfl rfl rfl ?_
    refine wl_nil (q_n (k13 _ _ ?_))
    refine sx_sub (Sub.cons (t := 2) rfl (.nil)) ?_
    refine sx_retc ?_
    refine sx_ret1 Tryz.results55 rfl ?_
    exact ⟨(by first | exact bFalse (fun h => by have h1 := h.2.1; omega) | exact bTrue (NOk_mk hz (by omega) (.inl (by omega))) | exact bIff (NOk_iff hz (by omega) (by omega))), cwl4⟩
  ·
   refine sx_guardF rfl rfl rfl rfl rfl rfl ?_
   refine sx_guardF rfl rfl rfl rfl rfl rfl ?_
   refine sx_guardF rfl rfl rfl rfl rfl rfl ?_
   refine sx_guardF rfl rfl rfl rfl rfl rfl ?_
   refine sx_guardFU rfl rfl rfl rfl rfl ?_
   refine sx_guardFU rfl rfl rfl rfl rfl ?_
   refine sx_guardFU rfl rfl rfl rfl rfl ?_
   refine sx_guardFU rfl rfl rfl rfl rfl ?_
   refine sx_guardFU rfl rfl rfl rfl rfl ?_
   refine sx_guardFU rfl rfl rfl rfl rfl ?_
   refine sx_guardFU rfl rfl rfl rfl rfl ?_
   refine sx_guardF rfl rfl rfl rfl rfl rfl ?_
   refine sx_pure rfl rfl rfl (px_pick rfl rfl) ?_
   refine sa rfl rfl rfl rfl ?_
   refine wl_nil (q_n (k13 _ _ ?_))
   refine sx_sub (Sub.cons (t := 2) rfl (.nil)) ?_
   refine sx_retc ?_
   refine sx_ret1 Tryz.results55 rfl ?_
   exact ⟨(by first | exact bFalse (fun h => by have h1 := h.2.1; omega) | exact bTrue (NOk_mk hz (by omega) (.inl (by omega))) | exact bIff (NOk_iff hz (by omega) (by omega))), cwl4⟩

theorem c_sIntOk {w : World} {n1 : Bool} {v1 : Value} {lv1 uv1 : Nat} {z1 : List Int} (hv1 : Sl w lv1 uv1 v1 (z1)) (h63 : z1.length ≤ 4611686018427387904) :
  Ret Tryz.prog 44 [.agg #[.bool n1, v1]] w fun v w' => v = .bool (decide (IOk n1 z1)) ∧ Chg 0 0 w w' := by
 have hv10 := hv1.fit
 refine sx_enter Tryz.func44 rfl Tryz.ntmps44 (Nat.le_of_ble_eq_true rfl) ?_
 refine sx_seq fun K1 k1 => sx_region ?_
 refine sx_box [.bool n1, v1] rfl rfl rfl (fun b2 w3 eb2 sb2 fb2 cb2 => ?_)
 have zw3 := cb2.size
 refine sa rfl rfl rfl rfl ?_
 refine wl_nil (q_n (k1 _ _ ?_))
 refine sx_seq fun K4 k4 => sx_region ?_
 refine sx_pure rfl rfl rfl (px_field rfl xfld28x1) ?_
 refine sx_pure rfl rfl rfl (px_load rfl (fb2.load1 rfl Tryz.isAgg22)) ?_
 have f5 := hv10.ext cb2
 refine sx_call rfl rfl Tryz.call55 (c_sNatOk f5 (by omega)) (fun v6 w6 p6 => ?_)
 obtain ⟨rfl, c6⟩ := p6
 have zw6 := c6.size
 refine sm rfl rfl rfl rfl ?_
 refine sx_tmpP (t := 6) rfl (fun h6 => ?_) (fun h6 => ?_)
 ·
  refine sx_guardT rfl rfl rfl ?_
  refine sx_pure rfl rfl rfl (px_field rfl xfld28x0) ?_
  refine sx_guardT rfl rfl rfl ?_
  have f7 := fb2.ext c6
  refine sx_pure rfl rfl rfl (px_load rfl (f7.load1 rfl Tryz.isAgg4)) ?_
  refine sx_guardT rfl rfl rfl ?_
  refine sx_pure rfl rfl rfl (px_not rfl) ?_
  refine sx_guardT rfl rfl rfl ?_
  refine sm rfl rfl rfl rfl ?_
  refine sx_tmpB (t := 10) rfl (fun h6x1 => ?_) (fun h6x1 => ?_)
  ·
   refine sx_guardF rfl rfl rfl rfl rfl rfl ?_
   refine sx_guardF rfl rfl rfl rfl rfl rfl ?_
   refine sx_guardF rfl rfl rfl rfl rfl rfl ?_
   refine sx_guardF rfl rfl rfl rfl rfl rfl ?_
   refine sx_guardT rfl rfl rfl ?_
   refine sx_pure rfl rfl rfl (px_pick rfl rfl) ?_
   refine sx_pure rfl rfl rfl (px_pick rfl rfl) ?_
   refine sa rfl rfl rfl rfl ?_
   refine wl_nil (q_n (k4 _ _ ?_))
   refine sx_sub (Sub.cons (t := 2) rfl (.nil)) ?_
   refine sx_retc ?_
   refine sx_ret1 Tryz.results44 rfl ?_
   exact ⟨(by first | exact bTrue (by grind [IOk]) | exact bFalse (by grind [IOk]) | exact bIff (by grind [IOk])), (cb2.t c6)⟩
  ·
   refine sx_guardT rfl rfl rfl ?_
   refine sx_pure rfl rfl rfl (px_field rfl xfld28x1) ?_
   refine sx_guardT rfl rfl rfl ?_
   refine sx_pure rfl rfl rfl (px_load rfl (f7.load1 rfl Tryz.isAgg22)) ?_
   refine sx_guardT rfl rfl rfl ?_
   have f8 := f5.ext c6
   refine sx_pure rfl rfl rfl (px_len rfl Tryz.underlying22 f8) ?_
   refine sx_guardT rfl rfl rfl ?_
   refine sx_pure rfl rfl rfl (px_gt rfl rfl) ?_
   refine sx_guardT rfl rfl rfl ?_
   refine sx_pure rfl rfl rfl (px_pick rfl rfl) ?_
   refine sx_pure rfl rfl rfl (px_pick rfl rfl) ?_
   refine sa rfl rfl rfl rfl ?_
   refine wl_nil (q_n (k4 _ _ ?_))
   refine sx_sub (Sub.cons (t := 2) rfl (.nil)) ?_
   refine sx_retc ?_
   refine sx_ret1 Tryz.results44 rfl ?_
   exact ⟨(by first | exact bTrue (by grind [IOk]) | exact bFalse (by grind [IOk]) | exact bIff (by grind [IOk])), (cb2.t c6)⟩
 ·
  refine sx_guardF rfl rfl rfl rfl rfl rfl ?_
  refine sx_guardF rfl rfl rfl rfl rfl rfl ?_
  refine sx_guardF rfl rfl rfl rfl rfl rfl ?_
  refine sx_guardF rfl rfl rfl rfl rfl rfl ?_
  refine sx_guardFU rfl rfl rfl rfl rfl ?_
  refine sx_guardFU rfl rfl rfl rfl rfl ?_
  refine sx_guardFU rfl rfl rfl rfl rfl ?_
  refine sx_guardFU rfl rfl rfl rfl rfl ?_
  refine sx_guardF rfl rfl rfl rfl rfl rfl ?_
  refine sx_pure rfl rfl rfl (px_pick rfl rfl) ?_
  refine sa rfl rfl rfl rfl ?_
  refine wl_nil (q_n (k4 _ _ ?_))
  refine sx_sub (Sub.cons (t := 2) rfl (.nil)) ?_
  refine sx_retc ?_
  refine sx_ret1 Tryz.results44 rfl ?_
  exact ⟨(by first | exact bTrue (by grind [IOk]) | exact bFalse (by grind [IOk]) | exact bIff (by grind [IOk])), (cb2.t c6)⟩

theorem c_l02Trim {w : World} {va : Value} {lva uva : Nat} {zs : List Int} (hva : OwnI w lva uva va intT (zs)) (hz : Lm zs) (h63 : zs.length ≤ 1000000) :
  Ret Tryz.prog 87 [va] w fun v w' => ∃ s, v = s ∧ OwnI w' (lva) (uva) s intT (dg (vl zs)) ∧ Chg 0 0 w w' := by
 refine sx_enter Tryz.func87 rfl Tryz.ntmps87 (Nat.le_of_ble_eq_true rfl) ?_
 refine sx_seq fun K1 k1 => sx_region ?_
 refine sa rfl rfl rfl rfl ?_
 refine wl_nil (q_n (k1 _ _ ?_))
 refine sx_seq fun K2 k2 => sx_region ?_
 refine sm rfl rfl rfl rfl ?_
 refine sx_pure rfl rfl rfl (px_len rfl Tryz.underlying22 hva.sv) ?_
 refine sa rfl rfl rfl rfl ?_
 refine wl_nil (q_n (k2 _ _ ?_))
 refine sx_seq fun K3 k3 => ?_
 refine sx_block ?_
 refine sx_loop (fun mm aa w' => ∃ (k : Nat), Agr 21 [(0, va), (3, .int .i64 ↑k)] aa ∧ Chg 0 0 w w' ∧ (mm = k) ∧ (k ≤ zs.length) ∧ (vl (zs.take k) = vl zs)) (_) (fun a ha => ⟨zs.length, ha.sub (Sub.cons (t := 0) rfl (.cons (t := 3) (look_int (t := 3) rfl (by first | omega | simp)) (.nil))), Chg.refl _ _ _, rfl, by omega, vl_take_all zs⟩) ?_
 rintro mm aa wl4 ⟨k, hAwl4, cwl4, hm, hk, hv⟩
 refine (show cw Tryz.prog 21 _ _ _ wl4 from ?_) aa hAwl4
 clear hAwl4
 have zwl4 := cwl4.size
 refine sx_seq fun K5 k5 => ?_
 refine sx_seq fun K6 k6 => sx_region ?_
 refine sm rfl rfl rfl rfl ?_
 refine sx_pure rfl rfl rfl (px_gt rfl rfl) ?_
 refine sm rfl rfl rfl rfl ?_
 refine sx_tmpP (t := 8) rfl (fun h17 => ?_) (fun h17 => ?_)
 ·
  refine sx_guardT rfl rfl rfl ?_
  refine sm rfl rfl rfl rfl ?_
  refine sx_guardT rfl rfl rfl ?_
  refine sm rfl rfl rfl rfl ?_
  refine sx_guardT rfl rfl rfl ?_
  refine sx_pure rfl rfl rfl (px_sub rfl rfl (by omega)) ?_
  refine sx_guardT rfl rfl rfl ?_
  have f7 := hva.ext cwl4
  refine sx_pure rfl rfl rfl (px_index1 (j := (k - 1)) rfl rfl (by omega) Tryz.underlying22 Tryz.sizeOf3 f7.sv (by omega)) ?_
  refine sx_guardT rfl rfl rfl ?_
  refine sx_pure rfl rfl rfl (px_load rfl (f7.sv.load1 (at_int (by omega)) Tryz.isAgg3)) ?_
  refine sx_guardT rfl rfl rfl ?_
  refine sx_pure rfl rfl rfl (px_eq rfl rfl) ?_
  refine sx_pure rfl rfl rfl (px_pick rfl rfl) ?_
  refine wl_nil (q_n (k6 _ _ ?_))
  refine sx_condP rfl (fun h17x1 => ?_) (fun h17x1 => ?_)
  ·
   refine sx_skip ?_
   refine q_n (k5 _ _ ?_)
   refine sx_block ?_
   refine sx_region ?_
   refine sm rfl rfl rfl rfl ?_
   refine sx_pure rfl rfl rfl (px_sub rfl rfl (by omega)) ?_
   refine sa rfl rfl rfl rfl ?_
   refine wl_nil ?_
   exact q_bn (fun a ha => ⟨_, by omega, (k - 1), ha.sub (Sub.cons (t := 0) rfl (.cons (t := 3) (look_int (t := 3) rfl (by first | omega | simp)) (.nil))), cwl4, rfl, by omega, trim_step (by omega) hk (by rw [getD_take (by omega)]; exact h17x1) hv⟩)
  ·
   refine sx_exit ?_
   refine q_e (q_e (q_bx (q_n (k3 _ _ ?_))))
   refine sx_seq fun K8 k8 => sx_region ?_
   refine sm rfl rfl rfl rfl ?_
   refine sm rfl rfl rfl rfl ?_
   refine sx_pure rfl rfl rfl (px_sliceTo (h := k) rfl rfl (by omega) Tryz.underlying22 Tryz.sizeOf3 f7.sv (by omega)) ?_
   refine sa rfl rfl rfl rfl ?_
   refine wl_nil (q_n (k8 _ _ ?_))
   refine sx_sub (Sub.cons (t := 2) rfl (.nil)) ?_
   refine sx_retc ?_
   refine sx_ret1 Tryz.results87 rfl ?_
   have hd := trim_done hz hk hv (by first | exact .inl (by omega) | exact .inr (by rw [getD_take (by omega)]; assumption))
   rw [← hd]
   exact ⟨_, rfl, (Own.takeI f7 (h := k) (by omega)), cwl4⟩
 ·
  refine sx_guardF rfl rfl rfl rfl rfl rfl ?_
  refine sx_guardF rfl rfl rfl rfl rfl rfl ?_
  refine sx_guardF rfl rfl rfl rfl rfl rfl ?_
  refine sx_guardF rfl rfl rfl rfl rfl rfl ?_
  refine sx_guardF rfl rfl rfl rfl rfl rfl ?_
  refine sx_guardF rfl rfl rfl rfl rfl rfl ?_
  refine sx_pure rfl rfl rfl (px_pick rfl rfl) ?_
  refine wl_nil (q_n (k6 _ _ ?_))
  refine sx_condF rfl ?_
  refine sx_exit ?_
  refine q_e (q_e (q_bx (q_n (k3 _ _ ?_))))
  refine sx_seq fun K9 k9 => sx_region ?_
  refine sm rfl rfl rfl rfl ?_
  refine sm rfl rfl rfl rfl ?_
  have f10 := hva.ext cwl4
  refine sx_pure rfl rfl rfl (px_sliceTo (h := k) rfl rfl (by omega) Tryz.underlying22 Tryz.sizeOf3 f10.sv (by omega)) ?_
  refine sa rfl rfl rfl rfl ?_
  refine wl_nil (q_n (k9 _ _ ?_))
  refine sx_sub (Sub.cons (t := 2) rfl (.nil)) ?_
  refine sx_retc ?_
  refine sx_ret1 Tryz.results87 rfl ?_
  have hd := trim_done hz hk hv (by first | exact .inl (by omega) | exact .inr (by rw [getD_take (by omega)]; assumption))
  rw [← hd]
  exact ⟨_, rfl, (Own.takeI f10 (h := k) (by omega)), cwl4⟩

theorem c_l02TrimS {w : World} {va : Value} {lva uva : Nat} {zs : List Int} (hva : Sl w lva uva va (zs)) (hz : Lm zs) (h63 : zs.length ≤ 1000000) :
  Ret Tryz.prog 87 [va] w fun v w' => ∃ s, v = s ∧ Sl w' (lva) (uva) s (dg (vl zs)) ∧ Chg 0 0 w w' := by
 refine sx_enter Tryz.func87 rfl Tryz.ntmps87 (Nat.le_of_ble_eq_true rfl) ?_
 refine sx_seq fun K1 k1 => sx_region ?_
 refine sa rfl rfl rfl rfl ?_
 refine wl_nil (q_n (k1 _ _ ?_))
 refine sx_seq fun K2 k2 => sx_region ?_
 refine sm rfl rfl rfl rfl ?_
 refine sx_pure rfl rfl rfl (px_len rfl Tryz.underlying22 hva) ?_
 refine sa rfl rfl rfl rfl ?_
 refine wl_nil (q_n (k2 _ _ ?_))
 refine sx_seq fun K3 k3 => ?_
 refine sx_block ?_
 refine sx_loop (fun mm aa w' => ∃ (k : Nat), Agr 21 [(0, va), (3, .int .i64 ↑k)] aa ∧ Chg 0 0 w w' ∧ (mm = k) ∧ (k ≤ zs.length) ∧ (vl (zs.take k) = vl zs)) (_) (fun a ha => ⟨zs.length, ha.sub (Sub.cons (t := 0) rfl (.cons (t := 3) (look_int (t := 3) rfl (by first | omega | simp)) (.nil))), Chg.refl _ _ _, rfl, by omega, vl_take_all zs⟩) ?_
 rintro mm aa wl4 ⟨k, hAwl4, cwl4, hm, hk, hv⟩
 refine (show cw Tryz.prog 21 _ _ _ wl4 from ?_) aa hAwl4
 clear hAwl4
 have zwl4 := cwl4.size
 refine sx_seq fun K5 k5 => ?_
 refine sx_seq fun K6 k6 => sx_region ?_
 refine sm rfl rfl rfl rfl ?_
 refine sx_pure rfl rfl rfl (px_gt rfl rfl) ?_
 refine sm rfl rfl rfl rfl ?_
 refine sx_tmpP (t := 8) rfl (fun h17 => ?_) (fun h17 => ?_)
 ·
  refine sx_guardT rfl rfl rfl ?_
  refine sm rfl rfl rfl rfl ?_
  refine sx_guardT rfl rfl rfl ?_
  refine sm rfl rfl rfl rfl ?_
  refine sx_guardT rfl rfl rfl ?_
  refine sx_pure rfl rfl rfl (px_sub rfl rfl (by omega)) ?_
  refine sx_guardT rfl rfl rfl ?_
  have f7 := hva.ext cwl4
  refine sx_pure rfl rfl rfl (px_index1 (j := (k - 1)) rfl rfl (by omega) Tryz.underlying22 Tryz.sizeOf3 f7 (by omega)) ?_
  refine sx_guardT rfl rfl rfl ?_
  refine sx_pure rfl rfl rfl (px_load rfl (f7.load1 (at_int (by omega)) Tryz.isAgg3)) ?_
  refine sx_guardT rfl rfl rfl ?_
  refine sx_pure rfl rfl rfl (px_eq rfl rfl) ?_
  refine sx_pure rfl rfl rfl (px_pick rfl rfl) ?_
  refine wl_nil (q_n (k6 _ _ ?_))
  refine sx_condP rfl (fun h17x1 => ?_) (fun h17x1 => ?_)
  ·
   refine sx_skip ?_
   refine q_n (k5 _ _ ?_)
   refine sx_block ?_
   refine sx_region ?_
   refine sm rfl rfl rfl rfl ?_
   refine sx_pure rfl rfl rfl (px_sub rfl rfl (by omega)) ?_
   refine sa rfl rfl rfl rfl ?_
   refine wl_nil ?_
   exact q_bn (fun a ha => ⟨_, by omega, (k - 1), ha.sub (Sub.cons (t := 0) rfl (.cons (t := 3) (look_int (t := 3) rfl (by first | omega | simp)) (.nil))), cwl4, rfl, by omega, trim_step (by omega) hk (by rw [getD_take (by omega)]; exact h17x1) hv⟩)
  ·
   refine sx_exit ?_
   refine q_e (q_e (q_bx (q_n (k3 _ _ ?_))))
   refine sx_seq fun K8 k8 => sx_region ?_
   refine sm rfl rfl rfl rfl ?_
   refine sm rfl rfl rfl rfl ?_
   refine sx_pure rfl rfl rfl (px_sliceTo (h := k) rfl rfl (by omega) Tryz.underlying22 Tryz.sizeOf3 f7 (by omega)) ?_
   refine sa rfl rfl rfl rfl ?_
   refine wl_nil (q_n (k8 _ _ ?_))
   refine sx_sub (Sub.cons (t := 2) rfl (.nil)) ?_
   refine sx_retc ?_
   refine sx_ret1 Tryz.results87 rfl ?_
   have hd := trim_done hz hk hv (by first | exact .inl (by omega) | exact .inr (by rw [getD_take (by omega)]; assumption))
   rw [← hd]
   exact ⟨_, rfl, (Sv.takeI f7 (h := k) (by omega)), cwl4⟩
 ·
  refine sx_guardF rfl rfl rfl rfl rfl rfl ?_
  refine sx_guardF rfl rfl rfl rfl rfl rfl ?_
  refine sx_guardF rfl rfl rfl rfl rfl rfl ?_
  refine sx_guardF rfl rfl rfl rfl rfl rfl ?_
  refine sx_guardF rfl rfl rfl rfl rfl rfl ?_
  refine sx_guardF rfl rfl rfl rfl rfl rfl ?_
  refine sx_pure rfl rfl rfl (px_pick rfl rfl) ?_
  refine wl_nil (q_n (k6 _ _ ?_))
  refine sx_condF rfl ?_
  refine sx_exit ?_
  refine q_e (q_e (q_bx (q_n (k3 _ _ ?_))))
  refine sx_seq fun K9 k9 => sx_region ?_
  refine sm rfl rfl rfl rfl ?_
  refine sm rfl rfl rfl rfl ?_
  have f10 := hva.ext cwl4
  refine sx_pure rfl rfl rfl (px_sliceTo (h := k) rfl rfl (by omega) Tryz.underlying22 Tryz.sizeOf3 f10 (by omega)) ?_
  refine sa rfl rfl rfl rfl ?_
  refine wl_nil (q_n (k9 _ _ ?_))
  refine sx_sub (Sub.cons (t := 2) rfl (.nil)) ?_
  refine sx_retc ?_
  refine sx_ret1 Tryz.results87 rfl ?_
  have hd := trim_done hz hk hv (by first | exact .inl (by omega) | exact .inr (by rw [getD_take (by omega)]; assumption))
  rw [← hd]
  exact ⟨_, rfl, (Sv.takeI f10 (h := k) (by omega)), cwl4⟩

theorem c_l02TrimD {w : World} {va : Value} {lva uva : Nat} {m : Nat} (hva : Sl w lva uva va (dg m)) (h63 : (dg m).length ≤ 1000000) :
  Ret Tryz.prog 87 [va] w fun v w' => ∃ s, v = s ∧ Sl w' (lva) (uva) s (dg m) ∧ Chg 0 0 w w' := by
 simpa only [vl_dg] using c_l02TrimS hva (Lm_dg m) h63

theorem c_l03Small {w : World} {va : Value} {lva uva : Nat} {m : Nat} {d : Int} (hva : Sl w lva uva va (dg m)) (hbm : (dg m).length ≤ 1000) (hd : 1 ≤ d ∧ d ≤ 999999999) :
  Ret Tryz.prog 86 [va, .int .i64 d] w fun v w' => ∃ s, v = .tuple #[s, .int .i64 (((m % (d).toNat : Nat) : Int))] ∧ OwnI w' w.heap.size w'.heap.size s intT (dg (m / (d).toNat)) ∧ Chg 0 0 w w' := by
 have hva0 := hva.fit
 refine sx_enter Tryz.func86 rfl Tryz.ntmps86 (Nat.le_of_ble_eq_true rfl) ?_
 refine sx_seq fun K1 k1 => sx_region ?_
 refine sa rfl rfl rfl rfl ?_
 refine sa rfl rfl rfl rfl ?_
 refine wl_nil (q_n (k1 _ _ ?_))
 refine sx_seq fun K2 k2 => sx_region ?_
 refine sm rfl rfl rfl rfl ?_
 refine sx_pure rfl rfl rfl (px_len rfl Tryz.underlying22 hva0) ?_
 refine sx_make (c := (dg m).length) rfl xelt22 (rfl) (rfl) (by omega) (by unfold maxLen; omega) (fun s3 ws3 fs3 cs3 ls3 => ?_)
 have ns3 := fs3.made
 have zws3 := cs3.size
 refine sa rfl rfl rfl rfl ?_
 refine wl_nil (q_n (k2 _ _ ?_))
 refine sx_seq fun K4 k4 => sx_region ?_
 refine sa rfl rfl rfl rfl ?_
 refine wl_nil (q_n (k4 _ _ ?_))
 refine sx_seq fun K5 k5 => ?_
 refine sx_seq fun K6 k6 => sx_region ?_
 refine sm rfl rfl rfl rfl ?_
 have f7 := hva0.ext cs3
 refine sx_pure rfl rfl rfl (px_len rfl Tryz.underlying22 f7) ?_
 refine sx_pure rfl rfl rfl (px_sub rfl rfl (by omega)) ?_
 refine sa rfl rfl rfl rfl ?_
 refine wl_nil (q_n (k6 _ _ ?_))
 refine sx_block ?_
 refine sx_loop (fun mm aa w' => ∃ (k : Nat) (os : List Int) (r : Int), Agr 39 [(0, va), (1, .int .i64 d), (6, s3), (7, .int .i64 r), (8, .int .i64 (↑k - 1))] aa ∧ Chg w.heap.size ws3.heap.size ws3 w' ∧ Own w' w.heap.size ws3.heap.size s3 intT os.length 1 (os.map (Value.int .i64)) ∧ (mm = k) ∧ (k ≤ (dg m).length) ∧ (os.length = (dg m).length) ∧ (Lm os) ∧ (0 ≤ r ∧ r < d) ∧ (vl ((dg m).drop k) = d.toNat * vl (os.drop k) + r.toNat)) (_) (fun a ha => ⟨(dg m).length, List.replicate (dg m).length 0, 0, ha.sub (Sub.cons (t := 0) rfl (.cons (t := 1) rfl (.cons (t := 6) rfl (.cons (t := 7) (look_int (t := 7) rfl (by first | omega | simp)) (.cons (t := 8) (look_int (t := 8) rfl (by first | omega | simp)) (.nil)))))), Chg.refl _ _ _, ns3, rfl, by omega, by simp, Lm.replicate _, by omega, by simp [vl]⟩) ?_
 rintro mm aa wl8 ⟨k, os, r, hAwl8, cwl8, hs_s3, hm, hk, hos, hlm, hr, hv⟩
 refine (show cw Tryz.prog 39 _ _ _ wl8 from ?_) aa hAwl8
 clear hAwl8
 have zwl8 := cwl8.size
 have am := (Lm_dg m).getD (k - 1)
 have hq := small_q hr.1 hr.2 am.1 am.2
 refine sx_seq fun K9 k9 => ?_
 refine sx_seq fun K10 k10 => sx_region ?_
 refine sm rfl rfl rfl rfl ?_
 refine sx_pure rfl rfl rfl (px_ge rfl rfl) ?_
 refine wl_nil (q_n (k10 _ _ ?_))
 refine sx_condP rfl (fun h8 => ?_) (fun h8 => ?_)
 ·
  refine sx_skip ?_
  refine q_n (k9 _ _ ?_)
  refine sx_seq fun K11 k11 => ?_
  refine sx_block ?_
  refine sx_seq fun K12 k12 => sx_region ?_
  refine sm rfl rfl rfl rfl ?_
  refine sx_pure rfl rfl rfl (px_mul rfl rfl (by omega)) ?_
  refine sm rfl rfl rfl rfl ?_
  refine sm rfl rfl rfl rfl ?_
  have f13 := f7.chg cwl8 (by omega)
  refine sx_pure rfl rfl rfl (px_index1 (j := (k - 1)) rfl rfl (by omega) Tryz.underlying22 Tryz.sizeOf3 f13 (by omega)) ?_
  refine sx_pure rfl rfl rfl (px_load rfl (f13.load1 (at_int (by omega)) Tryz.isAgg3)) ?_
  refine sx_pure rfl rfl rfl (px_add rfl rfl (by omega)) ?_
  refine sa rfl rfl rfl rfl ?_
  refine wl_nil (q_n (k12 _ _ ?_))
  refine sx_sub (Sub.cons (t := 0) rfl (.cons (t := 1) rfl (.cons (t := 6) rfl (.cons (t := 7) rfl (.cons (t := 8) rfl (.cons (t := 9) rfl (.nil))))))) ?_
  refine sx_seq fun K14 k14 => sx_region ?_
  refine sm rfl rfl rfl rfl ?_
  refine sm rfl rfl rfl rfl ?_
  refine sm rfl rfl rfl rfl ?_
  refine sm rfl rfl rfl rfl ?_
  refine sx_pure rfl rfl rfl (px_quo rfl rfl (by omega) (by omega) (by omega)) ?_
  refine sx_pure rfl rfl rfl (px_index1 (j := (k - 1)) rfl rfl (by omega) Tryz.underlying22 Tryz.sizeOf3 hs_s3.sv (by omega)) ?_
  refine sx_storeO rfl rfl hs_s3 (by first | omega | (simp only [List.length_map]; omega)) Tryz.sizeOf3 rfl (fun w15 sw15 fw15 cw15 => ?_)
  have zw15 := cw15.size
  have nw15 := fw15.set
  refine wl_nil (q_n (k14 _ _ ?_))
  refine sx_region ?_
  refine sm rfl rfl rfl rfl ?_
  refine sm rfl rfl rfl rfl ?_
  refine sx_pure rfl rfl rfl (px_rem rfl rfl (by omega) (by omega)) ?_
  refine sa rfl rfl rfl rfl ?_
  refine wl_nil ?_
  refine q_bn (q_n (k11 _ _ ?_))
  refine sx_sub (Sub.cons (t := 0) rfl (.cons (t := 1) rfl (.cons (t := 6) rfl (.cons (t := 7) rfl (.cons (t := 8) rfl (.nil)))))) ?_
  refine sx_region ?_
  refine sm rfl rfl rfl rfl ?_
  refine sx_pure rfl rfl rfl (px_sub rfl rfl (by omega)) ?_
  refine sa rfl rfl rfl rfl ?_
  refine wl_nil ?_
  have q16 := Chg.step (l := w.heap.size) (h := ws3.heap.size) cwl8 cw15 (by omega)
  have hst := small_step (X := ((r * 1000000000) + ((dg m).getD (k - 1) 0))) (by omega) (by omega) (by omega) hr am rfl hv
  exact fun a ha => ⟨_, by omega, (k - 1), ((os).set (k - 1) (((r * 1000000000) + ((dg m).getD (k - 1) 0)) / d)), (((r * 1000000000) + ((dg m).getD (k - 1) 0)) % d), ha.sub (Sub.cons (t := 0) rfl (.cons (t := 1) rfl (.cons (t := 6) rfl (.cons (t := 7) (look_int (t := 7) rfl (by first | omega | simp)) (.cons (t := 8) (look_int (t := 8) rfl (by first | omega | simp)) (.nil)))))), q16, (nw15.mono (by omega) (by omega)), rfl, by omega, by simpa using hos, hlm.set _ hq.1 hq.2.1, hq.2.2, hst⟩
 ·
  refine sx_exit ?_
  refine q_e (q_e (q_bx (q_n (k5 _ _ ?_))))
  refine sx_seq fun K17 k17 => sx_region ?_
  refine sm rfl rfl rfl rfl ?_
  refine sx_call rfl rfl Tryz.call87 (c_l02Trim hs_s3 (by assumption) (by first | omega | (simp only [List.length_append, List.length_set, List.length_replicate, List.length_cons, List.length_nil] at *; omega))) (fun v18 w18 p18 => ?_)
  obtain ⟨s18, rfl, os_18, c18⟩ := p18
  have zw18 := c18.size
  refine sm rfl rfl rfl rfl ?_
  refine sa rfl rfl rfl rfl ?_
  refine sa rfl rfl rfl rfl ?_
  refine wl_nil (q_n (k17 _ _ ?_))
  refine sx_retc ?_
  refine sx_ret2 Tryz.results86 rfl rfl ?_
  have e0 : k = 0 := by omega
  subst e0
  have he := div_end (m := m) (d := d.toNat) (v := vl os) (r := r.toNat) (by rw [List.drop_zero, List.drop_zero, vl_dg] at hv; exact hv) (show r.toNat < d.toNat by omega)
  have hr2 := os_18
  rw [he.1] at hr2
  have er : r = ((m % d.toNat : Nat) : Int) := by omega
  have q19 := Chg.step (l := 0) (h := 0) (Chg.zero (l := 0) (h := 0) cs3) cwl8 (by omega)
  have q20 := Chg.step (l := 0) (h := 0) q19 c18 (by omega)
  exact ⟨_, by rw [er], hr2.mono (by omega) (by omega), q20⟩

theorem c_sNatOf {w : World} {n : Int} (hn : 0 ≤ n ∧ n ≤ 9223372036854775807) :
  Ret Tryz.prog 64 [.int .i64 n] w fun v w' => ∃ s, v = s ∧ OwnI w' w.heap.size w'.heap.size s intT (dg (n).toNat) ∧ Chg 0 0 w w' := by
 have l0 := len_u64 (n := n) (by omega)
 refine sx_enter Tryz.func64 rfl Tryz.ntmps64 (Nat.le_of_ble_eq_true rfl) ?_
 refine sx_seq fun K1 k1 => sx_region ?_
 refine sa rfl rfl rfl rfl ?_
 refine wl_nil (q_n (k1 _ _ ?_))
 refine sx_seq fun K2 k2 => sx_region ?_
 refine sx_lit0 rfl xelt22 (fun s3 ws3 ss3 fs3 cs3 => ?_)
 have zws3 := cs3.size
 refine sa rfl rfl rfl rfl ?_
 refine wl_nil (q_n (k2 _ _ ?_))
 refine sx_seq fun K4 k4 => ?_
 refine sx_block ?_
 refine sx_loop (fun mm aa w' => ∃ (s : Value) (os : List Int) (m : Int), Agr 15 [(0, .int .i64 m), (3, s)] aa ∧ Chg w.heap.size ws3.heap.size ws3 w' ∧ Own w' w.heap.size w'.heap.size s intT os.length 1 (os.map (Value.int .i64)) ∧ (mm = m.toNat) ∧ (Lm os) ∧ (0 ≤ m ∧ m ≤ n) ∧ (vl os + Bs ^ os.length * m.toNat = n.toNat) ∧ (os.length + (dg m.toNat).length = (dg n.toNat).length) ∧ (os.length = 0 ∨ Bs ^ (os.length - 1) ≤ n.toNat)) (_) (fun a ha => ⟨s3, [], n, ha.sub (Sub.cons (t := 0) (look_int (t := 0) rfl (by first | omega | simp)) (.cons (t := 3) rfl (.nil))), Chg.refl _ _ _, (fs3.mono (by omega) (by omega)), rfl, Lm.nil, by omega, by simp [vl], by simp, .inl rfl⟩) ?_
 rintro mm aa wl5 ⟨s, os, m, hAwl5, cwl5, hs_s, hm, hlm, hb, hv, hln, hl⟩
 refine (show cw Tryz.prog 15 _ _ _ wl5 from ?_) aa hAwl5
 clear hAwl5
 have zwl5 := cwl5.size
 refine sx_seq fun K6 k6 => ?_
 refine sx_seq fun K7 k7 => sx_region ?_
 refine sm rfl rfl rfl rfl ?_
 refine sx_pure rfl rfl rfl (px_gt rfl rfl) ?_
 refine wl_nil (q_n (k7 _ _ ?_))
 refine sx_condP rfl (fun h34 => ?_) (fun h34 => ?_)
 ·
  refine sx_skip ?_
  refine q_n (k6 _ _ ?_)
  refine sx_block ?_
  refine sx_seq fun K8 k8 => sx_region ?_
  refine sm rfl rfl rfl rfl ?_
  refine sm rfl rfl rfl rfl ?_
  refine sx_pure rfl rfl rfl (px_rem rfl rfl (by omega) (by omega)) ?_
  refine sx_lit1 rfl xelt22 rfl rfl (fun s9 ws9 ss9 fs9 cs9 => ?_)
  have ns9 := Own.norm (f := (Value.int .i64)) (zs := [m % 1000000000]) fs9
  have zws9 := cs9.size
  have f11 := hs_s.ext cs9
  refine sx_append rfl xelt22 rfl rfl f11 ns9.sv one_int (by omega) (by simp only [List.length_cons, List.length_nil]; omega) (by unfold maxLen; simp only [List.length_cons, List.length_nil]; omega) (fun a10 w10 fw10 cw10 => ?_)
  have nw10 := Own.app (f := (Value.int .i64)) (a := os) (b := [m % 1000000000]) fw10
  have zw10 := cw10.size
  refine sa rfl rfl rfl rfl ?_
  refine wl_nil (q_n (k8 _ _ ?_))
  refine sx_region ?_
  refine sm rfl rfl rfl rfl ?_
  refine sx_pure rfl rfl rfl (px_quo rfl rfl (by omega) (by omega) (by omega)) ?_
  refine sa rfl rfl rfl rfl ?_
  refine wl_nil ?_
  have q12 := Chg.step (l := w.heap.size) (h := ws3.heap.size) cwl5 cs9 (by omega)
  have q13 := Chg.step (l := w.heap.size) (h := ws3.heap.size) q12 cw10 (by omega)
  have hmd := mod_bd (s := m) (by omega)
  have hm0 : m / 1000000000 < m := by omega
  exact q_bn (fun a ha => ⟨_, by omega, a10, (os ++ ([m % 1000000000])), (m / 1000000000), ha.sub (Sub.cons (t := 0) (look_int (t := 0) rfl (by first | omega | simp)) (.cons (t := 3) rfl (.nil))), q13, (nw10.mono (by omega) (by omega)), rfl, hlm.append (Lm.single hmd.1 hmd.2), by omega, of_stepI (by omega) hv, by have h9 := of_ln (m := m) (by omega); simp only [List.length_append, List.length_singleton]; omega, .inr (of_len (by omega) hv)⟩)
 ·
  refine sx_exit ?_
  refine q_e (q_e (q_bx (q_n (k4 _ _ ?_))))
  refine sx_seq fun K14 k14 => sx_region ?_
  refine sm rfl rfl rfl rfl ?_
  refine sa rfl rfl rfl rfl ?_
  refine wl_nil (q_n (k14 _ _ ?_))
  refine sx_retc ?_
  refine sx_ret1 Tryz.results64 rfl ?_
  have hm0 : m = 0 := by omega
  subst hm0
  have hd : os = dg n.toNat := dg_of hlm (by simpa using hv) hl
  subst hd
  have q15 := Chg.step (l := 0) (h := 0) (Chg.zero (l := 0) (h := 0) cs3) cwl5 (by omega)
  exact ⟨_, rfl, (Own.mono hs_s (by omega) (by omega)), q15⟩

theorem c_l02Cmp {w : World} {va : Value} {lva uva : Nat} {zs : List Int} {vb : Value} {lvb uvb : Nat} {ys : List Int} (hva : Sl w lva uva va (zs)) (hvb : Sl w lvb uvb vb (ys)) (h63 : zs.length ≤ 4611686018427387904 ∧ ys.length ≤ 4611686018427387904) :
  Ret Tryz.prog 56 [va, vb] w fun v w' => v = .int .i64 (cmpL zs ys) ∧ Chg 0 0 w w' := by
 have hva0 := hva.fit
 have hvb0 := hvb.fit
 have zs0 : zs.drop zs.length = [] := by simp
 have ys0 : ys.drop ys.length = [] := by simp
 refine sx_enter Tryz.func56 rfl Tryz.ntmps56 (Nat.le_of_ble_eq_true rfl) ?_
 refine sx_seq fun K1 k1 => sx_region ?_
 refine sa rfl rfl rfl rfl ?_
 refine wl_nil (q_n (k1 _ _ ?_))
 refine sx_seq fun K2 k2 => ?_
 refine sx_seq fun K3 k3 => sx_region ?_
 refine sm rfl rfl rfl rfl ?_
 refine sx_pure rfl rfl rfl (px_len rfl Tryz.underlying22 hva0) ?_
 refine sm rfl rfl rfl rfl ?_
 refine sx_pure rfl rfl rfl (px_len rfl Tryz.underlying22 hvb0) ?_
 refine sx_pure rfl rfl rfl (px_ne rfl rfl) ?_
 refine wl_nil (q_n (k3 _ _ ?_))
 refine sx_condP rfl (fun h54 => ?_) (fun h54 => ?_)
 ·
  refine sx_seq fun K4 k4 => ?_
  refine sx_seq fun K5 k5 => sx_region ?_
  refine sm rfl rfl rfl rfl ?_
  refine sx_pure rfl rfl rfl (px_len rfl Tryz.underlying22 hva0) ?_
  refine sm rfl rfl rfl rfl ?_
  refine sx_pure rfl rfl rfl (px_len rfl Tryz.underlying22 hvb0) ?_
  refine sx_pure rfl rfl rfl (px_lt rfl rfl) ?_
  refine wl_nil (q_n (k5 _ _ ?_))
  refine sx_condP rfl (fun h55 => ?_) (fun h55 => ?_)
  ·
   refine sx_seq fun K6 k6 => sx_region ?_
   refine sa rfl rfl rfl rfl ?_
   refine wl_nil (q_n (k6 _ _ ?_))
   refine sx_retc ?_
   refine q_r (q_r (sx_ret1 Tryz.results56 rfl ?_))
   exact ⟨iEq (cmpL_short (by omega)).symm, (Chg.refl 0 0 _)⟩
  ·
   refine sx_skip ?_
   refine q_n (k4 _ _ ?_)
   refine sx_seq fun K7 k7 => sx_region ?_
   refine sa rfl rfl rfl rfl ?_
   refine wl_nil (q_n (k7 _ _ ?_))
   refine sx_retc ?_
   refine q_r (sx_ret1 Tryz.results56 rfl ?_)
   exact ⟨iEq (cmpL_long (by omega)).symm, (Chg.refl 0 0 _)⟩
 ·
  refine sx_skip ?_
  refine q_n (k2 _ _ ?_)
  refine sx_seq fun K8 k8 => ?_
  refine sx_seq fun K9 k9 => sx_region ?_
  refine sm rfl rfl rfl rfl ?_
  refine sx_pure rfl rfl rfl (px_len rfl Tryz.underlying22 hva0) ?_
  refine sx_pure rfl rfl rfl (px_sub rfl rfl (by omega)) ?_
  refine sa rfl rfl rfl rfl ?_
  refine wl_nil (q_n (k9 _ _ ?_))
  refine sx_block ?_
  have e00 : zs.length = ys.length := by omega
  have he0 : zs.drop zs.length = ys.drop zs.length := by rw [zs0, e00, ys0]
  refine sx_loop (fun mm aa w' => ∃ (k : Nat), Agr 41 [(0, va), (1, vb), (5, .int .i64 (↑k - 1))] aa ∧ Chg 0 0 w w' ∧ (mm = k) ∧ (k ≤ zs.length) ∧ (zs.drop k = ys.drop k)) (_) (fun a ha => ⟨zs.length, ha.sub (Sub.cons (t := 0) rfl (.cons (t := 1) rfl (.cons (t := 5) (look_int (t := 5) rfl (by first | omega | simp)) (.nil)))), Chg.refl _ _ _, rfl, by omega, he0⟩) ?_
  rintro mm aa wl10 ⟨k, hAwl10, cwl10, hm, hk, he⟩
  refine (show cw Tryz.prog 41 _ _ _ wl10 from ?_) aa hAwl10
  clear hAwl10
  have zwl10 := cwl10.size
  have hl : zs.length = ys.length := by omega
  refine sx_seq fun K11 k11 => ?_
  refine sx_seq fun K12 k12 => sx_region ?_
  refine sm rfl rfl rfl rfl ?_
  refine sx_pure rfl rfl rfl (px_ge rfl rfl) ?_
  refine wl_nil (q_n (k12 _ _ ?_))
  refine sx_condP rfl (fun h60 => ?_) (fun h60 => ?_)
  ·
   refine sx_skip ?_
   refine q_n (k11 _ _ ?_)
   refine sx_seq fun K13 k13 => ?_
   refine sx_block ?_
   refine sx_seq fun K14 k14 => ?_
   refine sx_seq fun K15 k15 => ?_
   have f16 := hva0.ext cwl10
   have f17 := hvb0.ext cwl10
   refine dx_region (fun w' => Chg 0 0 wl10 w') (by kernel_rfl) (Chg.zero (Chg.drew _)) ?_
   have d18 := Chg.drew wl10
   have s18 : Chg 0 0 wl10 (World.drew wl10) := Chg.zero (Chg.drew _)
   have y18 : (World.drew wl10).heap.size = wl10.heap.size := rfl
   generalize World.drew wl10 = w18 at *
   have zw18 := d18.size
   refine dx_take 0 rfl rfl rfl rfl (by kernel_rfl) (by kernel_rfl) (by kernel_rfl) s18 (fun _ hS => px_move rfl) ?_
   refine dx_take 1 rfl rfl rfl rfl (by kernel_rfl) (by kernel_rfl) (by kernel_rfl) s18 (fun _ hS => px_move rfl) ?_
   refine dx_take 2 rfl rfl rfl rfl (by kernel_rfl) (by kernel_rfl) (by kernel_rfl) s18 (fun _ hS => px_index1 (j := (k - 1)) rfl rfl (by omega) Tryz.underlying22 Tryz.sizeOf3 ((f16).chg hS (by omega)) (by omega)) ?_
   refine dx_take 3 rfl rfl rfl rfl (by kernel_rfl) (by kernel_rfl) (by kernel_rfl) s18 (fun _ hS => px_load rfl (((f16).chg hS (by omega)).load1 (at_int (by omega)) Tryz.isAgg3)) ?_
   refine dx_take 4 rfl rfl rfl rfl (by kernel_rfl) (by kernel_rfl) (by kernel_rfl) s18 (fun _ hS => px_move rfl) ?_
   refine dx_take 5 rfl rfl rfl rfl (by kernel_rfl) (by kernel_rfl) (by kernel_rfl) s18 (fun _ hS => px_move rfl) ?_
   refine dx_take 6 rfl rfl rfl rfl (by kernel_rfl) (by kernel_rfl) (by kernel_rfl) s18 (fun _ hS => px_index1 (j := (k - 1)) rfl rfl (by omega) Tryz.underlying22 Tryz.sizeOf3 ((f17).chg hS (by omega)) (by omega)) ?_
   refine dx_take 7 rfl rfl rfl rfl (by kernel_rfl) (by kernel_rfl) (by kernel_rfl) s18 (fun _ hS => px_load rfl (((f17).chg hS (by omega)).load1 (at_int (by omega)) Tryz.isAgg3)) ?_
   refine dx_take 8 rfl rfl rfl rfl (by kernel_rfl) (by kernel_rfl) (by kernel_rfl) s18 (fun _ hS => px_lt rfl rfl) ?_
   refine dx_done (by kernel_rfl) ?_
   refine q_n (k15 _ _ ?_)
   refine sx_condP rfl (fun h61 => ?_) (fun h61 => ?_)
   ·
    refine sx_seq fun K19 k19 => sx_region ?_
    refine sa rfl rfl rfl rfl ?_
    refine wl_nil (q_n (k19 _ _ ?_))
    refine sx_sub (Sub.cons (t := 0) rfl (.cons (t := 1) rfl (.cons (t := 4) rfl (.cons (t := 5) rfl (.nil))))) ?_
    refine sx_retc ?_
    refine q_r (q_br (q_r (q_r (q_br (q_r (sx_ret1 Tryz.results56 rfl ?_))))))
    have hlt := cmpL_lt hl (k := k - 1) (by omega) (by rw [Nat.sub_add_cancel (by omega)]; exact he) (h61)
    exact ⟨iEq hlt.symm, (cwl10.t d18)⟩
   ·
    refine sx_skip ?_
    refine q_n (k14 _ _ ?_)
    refine sx_seq fun K20 k20 => ?_
    have f21 := f16.ext d18
    have f22 := f17.ext d18
    refine dx_region (fun w' => Chg 0 0 w18 w') (by kernel_rfl) (Chg.zero (Chg.drew _)) ?_
    have d23 := Chg.drew w18
    have s23 : Chg 0 0 w18 (World.drew w18) := Chg.zero (Chg.drew _)
    have y23 : (World.drew w18).heap.size = w18.heap.size := rfl
    generalize World.drew w18 = w23 at *
    have zw23 := d23.size
    refine dx_take 0 rfl rfl rfl rfl (by kernel_rfl) (by kernel_rfl) (by kernel_rfl) s23 (fun _ hS => px_move rfl) ?_
    refine dx_take 1 rfl rfl rfl rfl (by kernel_rfl) (by kernel_rfl) (by kernel_rfl) s23 (fun _ hS => px_move rfl) ?_
    refine dx_take 2 rfl rfl rfl rfl (by kernel_rfl) (by kernel_rfl) (by kernel_rfl) s23 (fun _ hS => px_index1 (j := (k - 1)) rfl rfl (by omega) Tryz.underlying22 Tryz.sizeOf3 ((f21).chg hS (by omega)) (by omega)) ?_
    refine dx_take 3 rfl rfl rfl rfl (by kernel_rfl) (by kernel_rfl) (by kernel_rfl) s23 (fun _ hS => px_load rfl (((f21).chg hS (by omega)).load1 (at_int (by omega)) Tryz.isAgg3)) ?_
    refine dx_take 4 rfl rfl rfl rfl (by kernel_rfl) (by kernel_rfl) (by kernel_rfl) s23 (fun _ hS => px_move rfl) ?_
    refine dx_take 5 rfl rfl rfl rfl (by kernel_rfl) (by kernel_rfl) (by kernel_rfl) s23 (fun _ hS => px_move rfl) ?_
    refine dx_take 6 rfl rfl rfl rfl (by kernel_rfl) (by kernel_rfl) (by kernel_rfl) s23 (fun _ hS => px_index1 (j := (k - 1)) rfl rfl (by omega) Tryz.underlying22 Tryz.sizeOf3 ((f22).chg hS (by omega)) (by omega)) ?_
    refine dx_take 7 rfl rfl rfl rfl (by kernel_rfl) (by kernel_rfl) (by kernel_rfl) s23 (fun _ hS => px_load rfl (((f22).chg hS (by omega)).load1 (at_int (by omega)) Tryz.isAgg3)) ?_
    refine dx_take 8 rfl rfl rfl rfl (by kernel_rfl) (by kernel_rfl) (by kernel_rfl) s23 (fun _ hS => px_gt rfl rfl) ?_
    refine dx_done (by kernel_rfl) ?_
    refine q_n (k20 _ _ ?_)
    refine sx_sub (Sub.cons (t := 0) rfl (.cons (t := 1) rfl (.cons (t := 5) rfl (.cons (t := 40) rfl (.nil))))) ?_
    refine sx_condP rfl (fun h64 => ?_) (fun h64 => ?_)
    ·
     refine sx_seq fun K24 k24 => sx_region ?_
     refine sa rfl rfl rfl rfl ?_
     refine wl_nil (q_n (k24 _ _ ?_))
     refine sx_retc ?_
     refine q_br (q_r (q_r (q_br (q_r (sx_ret1 Tryz.results56 rfl ?_)))))
     have hlt := cmpL_gt hl (k := k - 1) (by omega) (by rw [Nat.sub_add_cancel (by omega)]; exact he) (h64)
     exact ⟨iEq hlt.symm, ((cwl10.t d18).t d23)⟩
    ·
     refine sx_skip ?_
     refine q_bn (q_n (k13 _ _ ?_))
     refine sx_region ?_
     refine sm rfl rfl rfl rfl ?_
     refine sx_pure rfl rfl rfl (px_sub rfl rfl (by omega)) ?_
     refine sa rfl rfl rfl rfl ?_
     refine wl_nil ?_
     exact fun a ha => ⟨_, by omega, (k - 1), ha.sub (Sub.cons (t := 0) rfl (.cons (t := 1) rfl (.cons (t := 5) (look_int (t := 5) rfl (by first | omega | simp)) (.nil)))), ((cwl10.t d18).t d23), rfl, by omega, drop_succ_eq (by omega) (by omega) (by rw [Nat.sub_add_cancel (by omega)]; exact he) (by omega)⟩
  ·
   refine sx_exit ?_
   refine q_e (q_e (q_bx (q_n (k8 _ _ ?_))))
   refine sx_seq fun K25 k25 => sx_region ?_
   refine sa rfl rfl rfl rfl ?_
   refine wl_nil (q_n (k25 _ _ ?_))
   refine sx_retc ?_
   refine sx_ret1 Tryz.results56 rfl ?_
   have e1 : k = 0 := by omega
   subst e1
   have e2 : zs = ys := by simpa using he
   subst e2
   exact ⟨iEq (cmpL_self zs).symm, cwl10⟩

theorem c_l02Mul {w : World} {va : Value} {lva uva : Nat} {m : Nat} {vb : Value} {lvb uvb : Nat} {n : Nat} (hva : Sl w lva uva va (dg m)) (hvb : Sl w lvb uvb vb (dg n)) (hbm : (dg m).length ≤ 1000) (hbn : (dg n).length ≤ 1000) :
  Ret Tryz.prog 66 [va, vb] w fun v w' => ∃ s, v = s ∧ Sl w' (w.heap.size) (w'.heap.size) s (dg (m * n)) ∧ Chg 0 0 w w' := by
 have hva0 := hva.fit
 have hvb0 := hvb.fit
 refine sx_enter Tryz.func66 rfl Tryz.ntmps66 (Nat.le_of_ble_eq_true rfl) ?_
 refine sx_seq fun K1 k1 => sx_region ?_
 refine sa rfl rfl rfl rfl ?_
 refine wl_nil (q_n (k1 _ _ ?_))
 refine sx_seq fun K2 k2 => ?_
 refine sx_seq fun K3 k3 => sx_region ?_
 refine sm rfl rfl rfl rfl ?_
 refine sx_pure rfl rfl rfl (px_len rfl Tryz.underlying22 hva0) ?_
 refine sx_pure rfl rfl rfl (px_eq rfl rfl) ?_
 refine sm rfl rfl rfl rfl ?_
 refine sx_tmpP (t := 15) rfl (fun h131 => ?_) (fun h131 => ?_)
 ·
  refine sx_guardF rfl rfl rfl rfl rfl rfl ?_
  refine sx_guardF rfl rfl rfl rfl rfl rfl ?_
  refine sx_guardF rfl rfl rfl rfl rfl rfl ?_
  refine sx_pure rfl rfl rfl (px_pick rfl rfl) ?_
  refine wl_nil (q_n (k3 _ _ ?_))
  refine sx_condT rfl ?_
  refine sx_seq fun K4 k4 => sx_region ?_
  refine sa rfl rfl rfl rfl ?_
  refine wl_nil (q_n (k4 _ _ ?_))
  refine sx_retc ?_
  refine q_r (sx_ret1 Tryz.results66 rfl ?_)
  have e0 : m * n = 0 := by first | (rw [dg_nil.1 (List.length_eq_zero_iff.1 (show (dg m).length = 0 by omega)), Nat.zero_mul]) | (rw [dg_nil.1 (List.length_eq_zero_iff.1 (show (dg n).length = 0 by omega)), Nat.mul_zero])
  rw [e0, dg_zero]
  exact ⟨_, rfl, Sv.nil _ _ _ _, (Chg.refl 0 0 _)⟩
 ·
  refine sx_guardT rfl rfl rfl ?_
  refine sm rfl rfl rfl rfl ?_
  refine sx_guardT rfl rfl rfl ?_
  refine sx_pure rfl rfl rfl (px_len rfl Tryz.underlying22 hvb0) ?_
  refine sx_guardT rfl rfl rfl ?_
  refine sx_pure rfl rfl rfl (px_eq rfl rfl) ?_
  refine sx_pure rfl rfl rfl (px_pick rfl rfl) ?_
  refine wl_nil (q_n (k3 _ _ ?_))
  refine sx_condP rfl (fun h131x1 => ?_) (fun h131x1 => ?_)
  ·
   refine sx_seq fun K5 k5 => sx_region ?_
   refine sa rfl rfl rfl rfl ?_
   refine wl_nil (q_n (k5 _ _ ?_))
   refine sx_retc ?_
   refine q_r (sx_ret1 Tryz.results66 rfl ?_)
   have e0 : m * n = 0 := by first | (rw [dg_nil.1 (List.length_eq_zero_iff.1 (show (dg m).length = 0 by omega)), Nat.zero_mul]) | (rw [dg_nil.1 (List.length_eq_zero_iff.1 (show (dg n).length = 0 by omega)), Nat.mul_zero])
   rw [e0, dg_zero]
   exact ⟨_, rfl, Sv.nil _ _ _ _, (Chg.refl 0 0 _)⟩
  ·
   refine sx_skip ?_
   refine q_n (k2 _ _ ?_)
   refine sx_seq fun K6 k6 => sx_region ?_
   refine sm rfl rfl rfl rfl ?_
   refine sx_pure rfl rfl rfl (px_len rfl Tryz.underlying22 hva0) ?_
   refine sm rfl rfl rfl rfl ?_
   refine sx_pure rfl rfl rfl (px_len rfl Tryz.underlying22 hvb0) ?_
   refine sx_pure rfl rfl rfl (px_add rfl rfl (by omega)) ?_
   refine sx_make (c := (dg m).length + (dg n).length) rfl xelt22 (look_int rfl (by omega)) (look_int rfl (by omega)) (by omega) (by unfold maxLen; omega) (fun s7 ws7 fs7 cs7 ls7 => ?_)
   have ns7 := fs7.made
   have zws7 := cs7.size
   refine sa rfl rfl rfl rfl ?_
   refine wl_nil (q_n (k6 _ _ ?_))
   refine sx_sub (Sub.cons (t := 0) rfl (.cons (t := 1) rfl (.cons (t := 4) rfl (.cons (t := 5) rfl (.nil))))) ?_
   refine sx_seq fun K8 k8 => ?_
   refine sx_seq fun K9 k9 => sx_region ?_
   refine sm rfl rfl rfl rfl ?_
   have f10 := hva0.ext cs7
   refine sx_pure rfl rfl rfl (px_len rfl Tryz.underlying22 f10) ?_
   refine sm rfl rfl rfl rfl ?_
   refine wl_nil (q_n (k9 _ _ ?_))
   refine sx_block ?_
   refine sx_loop (fun mm aa w' => ∃ (k : Nat) (os : List Int), Agr 72 [(1, vb), (5, s7), (26, va), (27, .int .i64 (↑(dg m).length)), (28, .int .i64 ↑k)] aa ∧ Chg w.heap.size ws7.heap.size ws7 w' ∧ Own w' w.heap.size ws7.heap.size s7 intT os.length 1 (os.map (Value.int .i64)) ∧ (mm = (dg m).length - k) ∧ (k ≤ (dg m).length) ∧ (os.length = (dg m).length + (dg n).length) ∧ (Lm os) ∧ (∀ i, k + (dg n).length ≤ i → os.getD i 0 = 0) ∧ (vl os = vl ((dg m).take k) * n)) (_) (fun a ha => ⟨0, List.replicate ((dg m).length + (dg n).length) 0, ha.sub (Sub.cons (t := 1) rfl (.cons (t := 5) rfl (.cons (t := 26) rfl (.cons (t := 27) (look_int (t := 27) rfl (by first | omega | simp)) (.cons (t := 28) (look_int (t := 28) rfl (by first | omega | simp)) (.nil)))))), Chg.refl _ _ _, (ns7.mono (by omega) (by omega)), rfl, by omega, by simp, Lm.replicate _, fun i _ => zero_rep _ i (Nat.zero_le _), by rw [vl_replicate, List.take_zero]; simp [vl]⟩) ?_
   rintro mm aa wl11 ⟨k, os, hAwl11, cwl11, hs_s7, hm, hk, hos, hlm, hz, hv⟩
   refine (show cw Tryz.prog 72 _ _ _ wl11 from ?_) aa hAwl11
   clear hAwl11
   have zwl11 := cwl11.size
   have am := (Lm_dg m).getD k
   refine sx_seq fun K12 k12 => sx_region ?_
   refine sx_pure rfl rfl rfl (px_lt rfl rfl) ?_
   refine wl_nil (q_n (k12 _ _ ?_))
   refine sx_seq fun K13 k13 => ?_
   refine sx_condP rfl (fun h135 => ?_) (fun h135 => ?_)
   ·
    refine sx_skip ?_
    refine q_n (k13 _ _ ?_)
    refine sx_seq fun K14 k14 => ?_
    refine sx_block ?_
    refine sx_seq fun K15 k15 => sx_region ?_
    refine sm rfl rfl rfl rfl ?_
    have f16 := f10.chg cwl11 (by omega)
    refine sx_pure rfl rfl rfl (px_index1 (j := k) rfl rfl (by omega) Tryz.underlying22 Tryz.sizeOf3 f16 (by first | omega | (simp only [List.length_set]; omega))) ?_
    refine sx_pure rfl rfl rfl (px_load rfl (f16.load1 (at_int (by omega)) Tryz.isAgg3)) ?_
    refine sa rfl rfl rfl rfl ?_
    refine sa rfl rfl rfl rfl ?_
    refine wl_nil (q_n (k15 _ _ ?_))
    refine sx_seq fun K17 k17 => sx_region ?_
    refine sa rfl rfl rfl rfl ?_
    refine wl_nil (q_n (k17 _ _ ?_))
    refine sx_seq fun K18 k18 => ?_
    refine sx_seq fun K19 k19 => sx_region ?_
    refine sm rfl rfl rfl rfl ?_
    have f20 := hvb0.ext cs7
    have f21 := f20.chg cwl11 (by omega)
    refine sx_pure rfl rfl rfl (px_len rfl Tryz.underlying22 f21) ?_
    refine sm rfl rfl rfl rfl ?_
    refine wl_nil (q_n (k19 _ _ ?_))
    refine sx_sub (Sub.cons (t := 1) rfl (.cons (t := 5) rfl (.cons (t := 6) rfl (.cons (t := 7) rfl (.cons (t := 8) rfl (.cons (t := 26) rfl (.cons (t := 27) rfl (.cons (t := 28) rfl (.cons (t := 33) rfl (.cons (t := 34) rfl (.cons (t := 35) rfl (.nil)))))))))))) ?_
    refine sx_block ?_
    refine sx_loop (fun mm aa w' => ∃ (j : Nat) (o2 : List Int) (c : Int), Agr 72 [(1, vb), (5, s7), (6, .int .i64 ↑k), (7, .int .i64 ((dg m).getD k 0)), (8, .int .i64 c), (26, va), (27, .int .i64 (↑(dg m).length)), (28, .int .i64 ↑k), (33, vb), (34, .int .i64 (↑(dg n).length)), (35, .int .i64 ↑j)] aa ∧ Chg w.heap.size ws7.heap.size wl11 w' ∧ Own w' w.heap.size ws7.heap.size s7 intT o2.length 1 (o2.map (Value.int .i64)) ∧ (mm = (dg n).length - j) ∧ (j ≤ (dg n).length) ∧ (o2.length = (dg m).length + (dg n).length) ∧ (Lm o2) ∧ (∀ i, k + (dg n).length ≤ i → o2.getD i 0 = 0) ∧ (0 ≤ c ∧ c < 1000000000) ∧ (vl o2 + Bs ^ (k + j) * c.toNat = vl os + Bs ^ k * (((dg m).getD k 0).toNat * vl ((dg n).take j)))) (_) (fun a ha => ⟨0, os, 0, ha.sub (Sub.cons (t := 1) rfl (.cons (t := 5) rfl (.cons (t := 6) rfl (.cons (t := 7) rfl (.cons (t := 8) (look_int (t := 8) rfl (by first | omega | simp)) (.cons (t := 26) rfl (.cons (t := 27) rfl (.cons (t := 28) rfl (.cons (t := 33) rfl (.cons (t := 34) (look_int (t := 34) rfl (by first | omega | simp)) (.cons (t := 35) (look_int (t := 35) rfl (by first | omega | simp)) (.nil)))))))))))), Chg.refl _ _ _, hs_s7, rfl, by omega, hos, hlm, hz, by omega, by simp [vl]⟩) ?_
    rintro mm aa wl22 ⟨j, o2, c, hAwl22, cwl22, hs_s7, hm, hj, hos2, hlm2, hz2, hc, hv2⟩
    refine (show cw Tryz.prog 72 _ _ _ wl22 from ?_) aa hAwl22
    clear hAwl22
    have zwl22 := cwl22.size
    have bn := (Lm_dg n).getD j
    have on := hlm2.getD (k + j)
    have hxy := mul_limb am.1 am.2 bn.1 bn.2
    refine sx_seq fun K23 k23 => sx_region ?_
    refine sx_pure rfl rfl rfl (px_lt rfl rfl) ?_
    refine wl_nil (q_n (k23 _ _ ?_))
    refine sx_seq fun K24 k24 => ?_
    refine sx_condP rfl (fun h137 => ?_) (fun h137 => ?_)
    ·
     refine sx_skip ?_
     refine q_n (k24 _ _ ?_)
     refine sx_seq fun K25 k25 => ?_
     refine sx_block ?_
     refine sx_seq fun K26 k26 => sx_region ?_
     refine sm rfl rfl rfl rfl ?_
     have f27 := f21.chg cwl22 (by omega)
     refine sx_pure rfl rfl rfl (px_index1 (j := j) rfl rfl (by omega) Tryz.underlying22 Tryz.sizeOf3 f27 (by first | omega | (simp only [List.length_set]; omega))) ?_
     refine sx_pure rfl rfl rfl (px_load rfl (f27.load1 (at_int (by omega)) Tryz.isAgg3)) ?_
     refine sa rfl rfl rfl rfl ?_
     refine sa rfl rfl rfl rfl ?_
     refine wl_nil (q_n (k26 _ _ ?_))
     refine sx_sub (Sub.cons (t := 1) rfl (.cons (t := 5) rfl (.cons (t := 6) rfl (.cons (t := 7) rfl (.cons (t := 8) rfl (.cons (t := 9) rfl (.cons (t := 10) rfl (.cons (t := 26) rfl (.cons (t := 27) rfl (.cons (t := 28) rfl (.cons (t := 33) rfl (.cons (t := 34) rfl (.cons (t := 35) rfl (.nil)))))))))))))) ?_
     refine sx_seq fun K28 k28 => sx_region ?_
     refine sm rfl rfl rfl rfl ?_
     refine sm rfl rfl rfl rfl ?_
     refine sm rfl rfl rfl rfl ?_
     refine sx_pure rfl rfl rfl (px_add rfl rfl (by omega)) ?_
     refine sx_pure rfl rfl rfl (px_index1 (j := (k + j)) rfl rfl (by omega) Tryz.underlying22 Tryz.sizeOf3 hs_s7.sv (by first | omega | (simp only [List.length_set]; omega))) ?_
     refine sx_pure rfl rfl rfl (px_load rfl (hs_s7.sv.load1 (at_int (by omega)) Tryz.isAgg3)) ?_
     refine sm rfl rfl rfl rfl ?_
     refine sm rfl rfl rfl rfl ?_
     refine sx_pure rfl rfl rfl (px_mul rfl rfl (by omega)) ?_
     refine sx_pure rfl rfl rfl (px_add rfl rfl (by omega)) ?_
     refine sm rfl rfl rfl rfl ?_
     refine sx_pure rfl rfl rfl (px_add rfl rfl (by omega)) ?_
     refine sa rfl rfl rfl rfl ?_
     refine wl_nil (q_n (k28 _ _ ?_))
     refine sx_sub (Sub.cons (t := 1) rfl (.cons (t := 5) rfl (.cons (t := 6) rfl (.cons (t := 7) rfl (.cons (t := 8) rfl (.cons (t := 9) rfl (.cons (t := 11) rfl (.cons (t := 26) rfl (.cons (t := 27) rfl (.cons (t := 28) rfl (.cons (t := 33) rfl (.cons (t := 34) rfl (.cons (t := 35) rfl (.nil)))))))))))))) ?_
     refine sx_seq fun K29 k29 => sx_region ?_
     refine sm rfl rfl rfl rfl ?_
     refine sm rfl rfl rfl rfl ?_
     refine sm rfl rfl rfl rfl ?_
     refine sx_pure rfl rfl rfl (px_add rfl rfl (by omega)) ?_
     refine sm rfl rfl rfl rfl ?_
     refine sx_pure rfl rfl rfl (px_rem rfl rfl (by omega) (by omega)) ?_
     refine sx_pure rfl rfl rfl (px_index1 (j := (k + j)) rfl rfl (by omega) Tryz.underlying22 Tryz.sizeOf3 hs_s7.sv (by first | omega | (simp only [List.length_set]; omega))) ?_
     refine sx_storeO rfl rfl hs_s7 (by first | omega | (simp only [List.length_map]; omega)) Tryz.sizeOf3 rfl (fun w30 sw30 fw30 cw30 => ?_)
     have zw30 := cw30.size
     have nw30 := fw30.set
     refine wl_nil (q_n (k29 _ _ ?_))
     refine sx_sub (Sub.cons (t := 1) rfl (.cons (t := 5) rfl (.cons (t := 6) rfl (.cons (t := 7) rfl (.cons (t := 8) rfl (.cons (t := 11) rfl (.cons (t := 26) rfl (.cons (t := 27) rfl (.cons (t := 28) rfl (.cons (t := 33) rfl (.cons (t := 34) rfl (.cons (t := 35) rfl (.nil))))))))))))) ?_
     refine sx_region ?_
     refine sm rfl rfl rfl rfl ?_
     refine sx_pure rfl rfl rfl (px_quo rfl rfl (by omega) (by omega) (by omega)) ?_
     refine sa rfl rfl rfl rfl ?_
     refine wl_nil ?_
     refine q_bn (q_n (k25 _ _ ?_))
     refine sx_region ?_
     refine sx_pure rfl rfl rfl (px_add rfl rfl (by omega)) ?_
     refine sm rfl rfl rfl rfl ?_
     refine wl_nil ?_
     have q31 := Chg.step (l := w.heap.size) (h := ws7.heap.size) cwl22 cw30 (by omega)
     have hs : ((((o2).getD (k + j) 0) + (((dg m).getD k 0) * ((dg n).getD j 0))) + c) = c + (o2.getD (k + j) 0 + (dg m).getD k 0 * (dg n).getD j 0) := by omega
     have hm2 := mul_step (V := vl os) hc.1 am.1 on.1 bn.1 (by omega) (by omega) hs hv2
     exact fun a ha => ⟨_, by omega, (j + 1), ((o2).set (k + j) (((((o2).getD (k + j) 0) + (((dg m).getD k 0) * ((dg n).getD j 0))) + c) % 1000000000)), (((((o2).getD (k + j) 0) + (((dg m).getD k 0) * ((dg n).getD j 0))) + c) / 1000000000), ha.sub (Sub.cons (t := 1) rfl (.cons (t := 5) rfl (.cons (t := 6) rfl (.cons (t := 7) rfl (.cons (t := 8) (look_int (t := 8) rfl (by first | omega | simp)) (.cons (t := 26) rfl (.cons (t := 27) rfl (.cons (t := 28) rfl (.cons (t := 33) rfl (.cons (t := 34) rfl (.cons (t := 35) (look_int (t := 35) rfl (by first | omega | simp)) (.nil)))))))))))), q31, (nw30.mono (by omega) (by omega)), rfl, by omega, by simpa using hos2, hlm2.set _ (by omega) (by omega), zero_set' hz2 (by omega), by omega, hm2⟩
    ·
     refine sx_exit ?_
     refine q_e (q_e (q_bx (q_n (k18 _ _ ?_))))
     have ej : j = (dg n).length := by omega
     rw [ej, List.take_length, vl_dg] at hv2
     refine sx_region ?_
     refine sm rfl rfl rfl rfl ?_
     refine sm rfl rfl rfl rfl ?_
     refine sm rfl rfl rfl rfl ?_
     have f32 := f21.chg cwl22 (by omega)
     refine sx_pure rfl rfl rfl (px_len rfl Tryz.underlying22 f32) ?_
     refine sx_pure rfl rfl rfl (px_add rfl rfl (by omega)) ?_
     refine sm rfl rfl rfl rfl ?_
     refine sx_pure rfl rfl rfl (px_index1 (j := (k + (dg n).length)) rfl rfl (by omega) Tryz.underlying22 Tryz.sizeOf3 hs_s7.sv (by first | omega | (simp only [List.length_set]; omega))) ?_
     refine sx_storeO rfl rfl hs_s7 (by first | omega | (simp only [List.length_map]; omega)) Tryz.sizeOf3 rfl (fun w33 sw33 fw33 cw33 => ?_)
     have zw33 := cw33.size
     have nw33 := fw33.set
     refine wl_nil ?_
     refine q_bn (q_n (k14 _ _ ?_))
     refine sx_sub (Sub.cons (t := 1) rfl (.cons (t := 5) rfl (.cons (t := 26) rfl (.cons (t := 27) rfl (.cons (t := 28) rfl (.nil)))))) ?_
     have oz := hz2 (k + (dg n).length) (Nat.le_refl _)
     have hosR : (o2.set (k + (dg n).length) c).length = (dg m).length + (dg n).length := by simpa using hos2
     have hlmR := hlm2.set (k + (dg n).length) hc.1 hc.2
     have hzR : ∀ i, k + (dg n).length + 1 ≤ i → (o2.set (k + (dg n).length) c).getD i 0 = 0 := zero_set hz2 (by omega)
     have hvR : vl (o2.set (k + (dg n).length) c) = vl os + Bs ^ k * (((dg m).getD k 0).toNat * n) := (carry_step (by omega) oz).trans hv2
     refine sx_region ?_
     refine sx_pure rfl rfl rfl (px_add rfl rfl (by omega)) ?_
     refine sm rfl rfl rfl rfl ?_
     refine wl_nil ?_
     have q34 := Chg.step (l := w.heap.size) (h := ws7.heap.size) cwl11 cwl22 (by omega)
     have q35 := Chg.step (l := w.heap.size) (h := ws7.heap.size) q34 cw33 (by omega)
     have hrow := mul_row (P := Bs ^ k) (a := ((dg m).getD k 0).toNat) hv
     rw [← vl_take_succ'] at hrow
     exact fun a ha => ⟨_, by omega, (k + 1), ((o2).set (k + (dg n).length) c), ha.sub (Sub.cons (t := 1) rfl (.cons (t := 5) rfl (.cons (t := 26) rfl (.cons (t := 27) rfl (.cons (t := 28) (look_int (t := 28) rfl (by first | omega | simp)) (.nil)))))), q35, (nw33.mono (by omega) (by omega)), rfl, by omega, by simpa using hosR, hlmR, fun i hi => hzR i (by omega), hvR.trans hrow⟩
   ·
    refine sx_exit ?_
    refine q_e (q_e (q_bx (q_n (k8 _ _ ?_))))
    refine sx_seq fun K36 k36 => ?_
    have ek : k = (dg m).length := by omega
    rw [ek, List.take_length, vl_dg] at hv
    have hzz := hlm
    refine sx_region ?_
    refine sm rfl rfl rfl rfl ?_
    refine sx_call rfl rfl Tryz.call87 (c_l02Trim hs_s7 (by assumption) (by first | omega | (simp only [List.length_append, List.length_set, List.length_replicate, List.length_cons, List.length_nil] at *; omega))) (fun v37 w37 p37 => ?_)
    obtain ⟨s37, rfl, os_37, c37⟩ := p37
    have zw37 := c37.size
    refine sa rfl rfl rfl rfl ?_
    refine wl_nil (q_n (k36 _ _ ?_))
    refine sx_retc ?_
    refine sx_ret1 Tryz.results66 rfl ?_
    have hr := Own.sv os_37
    rw [hv] at hr
    have q38 := Chg.step (l := 0) (h := 0) (Chg.zero (l := 0) (h := 0) cs7) cwl11 (by omega)
    have q39 := Chg.step (l := 0) (h := 0) q38 c37 (by omega)
    exact ⟨_, rfl, hr.mono (by omega) (by omega), q39⟩

theorem c_l03Digit {w : World} {va : Value} {lva uva : Nat} {m : Nat} {vb : Value} {lvb uvb : Nat} {n : Nat} (hva : Sl w lva uva va (dg m)) (hvb : Sl w lvb uvb vb (dg n)) (hbm : (dg m).length ≤ 1000) (hbn : (dg n).length ≤ 990) (hq : m < (999999999 + 1) * n) :
  Ret Tryz.prog 88 [va, vb] w fun v w' => v = .int .i64 (((m / n : Nat) : Int)) ∧ Chg 0 0 w w' := by
 have hva0 := hva.fit
 have hvb0 := hvb.fit
 refine sx_enter Tryz.func88 rfl Tryz.ntmps88 (Nat.le_of_ble_eq_true rfl) ?_
 refine sx_seq fun K1 k1 => sx_region ?_
 refine sa rfl rfl rfl rfl ?_
 refine wl_nil (q_n (k1 _ _ ?_))
 refine sx_seq fun K2 k2 => sx_region ?_
 refine sa rfl rfl rfl rfl ?_
 refine wl_nil (q_n (k2 _ _ ?_))
 refine sx_seq fun K3 k3 => sx_region ?_
 refine sa rfl rfl rfl rfl ?_
 refine wl_nil (q_n (k3 _ _ ?_))
 refine sx_seq fun K4 k4 => ?_
 refine sx_block ?_
 refine sx_loop (fun mm aa w' => ∃ (lo : Int) (hi : Int), Agr 27 [(0, va), (1, vb), (5, .int .i64 lo), (6, .int .i64 hi)] aa ∧ Chg 0 0 w w' ∧ (mm = (hi - lo).toNat) ∧ (0 ≤ lo ∧ lo ≤ hi ∧ hi ≤ 999999999) ∧ (lo.toNat * n ≤ m) ∧ (m < (hi.toNat + 1) * n)) (_) (fun a ha => ⟨0, 999999999, ha.sub (Sub.cons (t := 0) rfl (.cons (t := 1) rfl (.cons (t := 5) (look_int (t := 5) rfl (by first | omega | simp)) (.cons (t := 6) (look_int (t := 6) rfl (by first | omega | simp)) (.nil))))), Chg.refl _ _ _, rfl, by omega, by simp, hq⟩) ?_
 rintro mm aa wl5 ⟨lo, hi, hAwl5, cwl5, hm, hb, hl, hh⟩
 refine (show cw Tryz.prog 27 _ _ _ wl5 from ?_) aa hAwl5
 clear hAwl5
 have zwl5 := cwl5.size
 have lq := len_u64 (n := ((lo + hi + 1) / 2)) (by omega)
 have lm := len_mul n ((lo + hi + 1) / 2).toNat
 refine sx_seq fun K6 k6 => ?_
 refine sx_seq fun K7 k7 => sx_region ?_
 refine sm rfl rfl rfl rfl ?_
 refine sm rfl rfl rfl rfl ?_
 refine sx_pure rfl rfl rfl (px_lt rfl rfl) ?_
 refine wl_nil (q_n (k7 _ _ ?_))
 refine sx_condP rfl (fun h20 => ?_) (fun h20 => ?_)
 ·
  refine sx_skip ?_
  refine q_n (k6 _ _ ?_)
  refine sx_block ?_
  refine sx_seq fun K8 k8 => sx_region ?_
  refine sm rfl rfl rfl rfl ?_
  refine sm rfl rfl rfl rfl ?_
  refine sx_pure rfl rfl rfl (px_add rfl rfl (by omega)) ?_
  refine sx_pure rfl rfl rfl (px_add rfl rfl (by omega)) ?_
  refine sx_pure rfl rfl rfl (px_quo rfl rfl (by omega) (by omega) (by omega)) ?_
  refine sa rfl rfl rfl rfl ?_
  refine wl_nil (q_n (k8 _ _ ?_))
  refine sx_seq fun K9 k9 => sx_region ?_
  refine sm rfl rfl rfl rfl ?_
  refine sm rfl rfl rfl rfl ?_
  refine sx_call rfl rfl Tryz.call64 (c_sNatOf (by omega)) (fun v10 w10 p10 => ?_)
  obtain ⟨s10, rfl, os_10, c10⟩ := p10
  have zw10 := c10.size
  have f11 := hvb0.ext cwl5
  have f12 := f11.ext c10
  refine sx_call rfl rfl Tryz.call66 (c_l02Mul f12 os_10.sv (by omega) (by omega)) (fun v13 w13 p13 => ?_)
  obtain ⟨s13, rfl, os_13, c13⟩ := p13
  have zw13 := c13.size
  refine sm rfl rfl rfl rfl ?_
  have f14 := hva0.ext cwl5
  have f15 := f14.ext c10
  have f16 := f15.ext c13
  refine sx_call rfl rfl Tryz.call56 (c_l02Cmp os_13 f16 (by omega)) (fun v17 w17 p17 => ?_)
  obtain ⟨rfl, c17⟩ := p17
  have zw17 := c17.size
  refine sx_pure rfl rfl rfl (px_le rfl rfl) ?_
  refine wl_nil (q_n (k9 _ _ ?_))
  refine sx_sub (Sub.cons (t := 0) rfl (.cons (t := 1) rfl (.cons (t := 5) rfl (.cons (t := 6) rfl (.cons (t := 7) rfl (.cons (t := 22) rfl (.nil))))))) ?_
  refine sx_condP rfl (fun h22 => ?_) (fun h22 => ?_)
  ·
   rw [cmpL_dg] at h22
   have hle := cmpN_le.1 h22
   refine sx_region ?_
   refine sm rfl rfl rfl rfl ?_
   refine sa rfl rfl rfl rfl ?_
   refine wl_nil ?_
   exact q_bn (fun a ha => ⟨_, by omega, (((lo + hi) + 1) / 2), hi, ha.sub (Sub.cons (t := 0) rfl (.cons (t := 1) rfl (.cons (t := 5) (look_int (t := 5) rfl (by first | omega | simp)) (.cons (t := 6) rfl (.nil))))), (((cwl5.t c10).t c13).t c17), rfl, by omega, by first | exact hl | (rw [Nat.mul_comm]; exact hle), by first | exact hh | (rw [show (((lo + hi + 1) / 2) - 1).toNat + 1 = ((lo + hi + 1) / 2).toNat by omega, Nat.mul_comm]; exact hgt)⟩)
  ·
   rw [cmpL_dg] at h22
   have hgt := Nat.lt_of_not_le (mt cmpN_le.2 h22)
   refine sx_region ?_
   refine sm rfl rfl rfl rfl ?_
   refine sx_pure rfl rfl rfl (px_sub rfl rfl (by omega)) ?_
   refine sa rfl rfl rfl rfl ?_
   refine wl_nil ?_
   exact q_bn (fun a ha => ⟨_, by omega, lo, ((((lo + hi) + 1) / 2) - 1), ha.sub (Sub.cons (t := 0) rfl (.cons (t := 1) rfl (.cons (t := 5) rfl (.cons (t := 6) (look_int (t := 6) rfl (by first | omega | simp)) (.nil))))), (((cwl5.t c10).t c13).t c17), rfl, by omega, by first | exact hl | (rw [Nat.mul_comm]; exact hle), by first | exact hh | (rw [show (((lo + hi + 1) / 2) - 1).toNat + 1 = ((lo + hi + 1) / 2).toNat by omega, Nat.mul_comm]; exact hgt)⟩)
 ·
  refine sx_exit ?_
  refine q_e (q_e (q_bx (q_n (k4 _ _ ?_))))
  refine sx_seq fun K18 k18 => sx_region ?_
  refine sm rfl rfl rfl rfl ?_
  refine sa rfl rfl rfl rfl ?_
  refine wl_nil (q_n (k18 _ _ ?_))
  refine sx_retc ?_
  refine sx_ret1 Tryz.results88 rfl ?_
  have he := digit_end hb.1 (by omega) hb.2.1 hl hh
  exact ⟨by rw [he], cwl5⟩

theorem c_l02Sub {w : World} {va : Value} {lva uva : Nat} {m : Nat} {vb : Value} {lvb uvb : Nat} {n : Nat} (hva : Sl w lva uva va (dg m)) (hvb : Sl w lvb uvb vb (dg n)) (hbm : (dg m).length ≤ 1000) (hbn : (dg n).length ≤ 1000) (hle : n ≤ m) :
  Ret Tryz.prog 89 [va, vb] w fun v w' => ∃ s, v = s ∧ Sl w' (w.heap.size) (w'.heap.size) s (dg (m - n)) ∧ Chg 0 0 w w' := by
 have hva0 := hva.fit
 have hvb0 := hvb.fit
 refine sx_enter Tryz.func89 rfl Tryz.ntmps89 (Nat.le_of_ble_eq_true rfl) ?_
 refine sx_seq fun K1 k1 => sx_region ?_
 refine sa rfl rfl rfl rfl ?_
 refine wl_nil (q_n (k1 _ _ ?_))
 refine sx_seq fun K2 k2 => sx_region ?_
 refine sx_lit0 rfl xelt22 (fun s3 ws3 ss3 fs3 cs3 => ?_)
 have zws3 := cs3.size
 refine sa rfl rfl rfl rfl ?_
 refine wl_nil (q_n (k2 _ _ ?_))
 refine sx_seq fun K4 k4 => sx_region ?_
 refine sa rfl rfl rfl rfl ?_
 refine wl_nil (q_n (k4 _ _ ?_))
 refine sx_seq fun K5 k5 => ?_
 refine sx_seq fun K6 k6 => sx_region ?_
 refine sm rfl rfl rfl rfl ?_
 have f7 := hva0.ext cs3
 refine sx_pure rfl rfl rfl (px_len rfl Tryz.underlying22 f7) ?_
 refine sm rfl rfl rfl rfl ?_
 refine wl_nil (q_n (k6 _ _ ?_))
 refine sx_block ?_
 refine sx_loop (fun mm aa w' => ∃ (k : Nat) (s : Value) (os : List Int) (c : Nat), Agr 42 [(0, va), (1, vb), (5, s), (6, .int .i64 ((c : Nat) : Int)), (11, .int .i64 (↑(dg m).length)), (12, .int .i64 ↑k)] aa ∧ Chg w.heap.size ws3.heap.size ws3 w' ∧ Own w' w.heap.size w'.heap.size s intT os.length 1 (os.map (Value.int .i64)) ∧ (mm = (dg m).length - k) ∧ (os.length = k) ∧ (Lm os) ∧ (c ≤ 1) ∧ (k ≤ (dg m).length) ∧ (vl ((dg m).take k) + Bs ^ k * c = vl (os) + vl ((dg n).take k))) (_) (fun a ha => ⟨0, s3, [], 0, ha.sub (Sub.cons (t := 0) rfl (.cons (t := 1) rfl (.cons (t := 5) rfl (.cons (t := 6) (look_int (t := 6) rfl (by first | omega | simp)) (.cons (t := 11) (look_int (t := 11) rfl (by first | omega | simp)) (.cons (t := 12) (look_int (t := 12) rfl (by first | omega | simp)) (.nil))))))), Chg.refl _ _ _, (fs3.mono (by omega) (by omega)), rfl, by simp, Lm.nil, by omega, by omega, by simp [vl]⟩) ?_
 rintro mm aa wl8 ⟨k, s, os, c, hAwl8, cwl8, hs_s, hm, hos, hlm, hc, hk, hv⟩
 refine (show cw Tryz.prog 42 _ _ _ wl8 from ?_) aa hAwl8
 clear hAwl8
 have zwl8 := cwl8.size
 have am := (Lm_dg m).getD k
 have bn := (Lm_dg n).getD k
 refine sx_seq fun K9 k9 => sx_region ?_
 refine sx_pure rfl rfl rfl (px_lt rfl rfl) ?_
 refine wl_nil (q_n (k9 _ _ ?_))
 refine sx_seq fun K10 k10 => ?_
 refine sx_condP rfl (fun h107 => ?_) (fun h107 => ?_)
 ·
  refine sx_skip ?_
  refine q_n (k10 _ _ ?_)
  refine sx_seq fun K11 k11 => ?_
  refine sx_block ?_
  refine sx_seq fun K12 k12 => sx_region ?_
  refine sm rfl rfl rfl rfl ?_
  refine sa rfl rfl rfl rfl ?_
  refine wl_nil (q_n (k12 _ _ ?_))
  refine sx_seq fun K13 k13 => sx_region ?_
  refine sm rfl rfl rfl rfl ?_
  refine sm rfl rfl rfl rfl ?_
  have f14 := f7.chg cwl8 (by omega)
  refine sx_pure rfl rfl rfl (px_index1 (j := k) rfl rfl (by omega) Tryz.underlying22 Tryz.sizeOf3 f14 (by omega)) ?_
  refine sx_pure rfl rfl rfl (px_load rfl (f14.load1 (at_int (by omega)) Tryz.isAgg3)) ?_
  refine sm rfl rfl rfl rfl ?_
  refine sx_pure rfl rfl rfl (px_sub rfl rfl (by omega)) ?_
  refine sa rfl rfl rfl rfl ?_
  refine wl_nil (q_n (k13 _ _ ?_))
  refine sx_sub (Sub.cons (t := 0) rfl (.cons (t := 1) rfl (.cons (t := 5) rfl (.cons (t := 6) rfl (.cons (t := 7) rfl (.cons (t := 8) rfl (.cons (t := 11) rfl (.cons (t := 12) rfl (.nil))))))))) ?_
  refine sx_seq fun K15 k15 => ?_
  refine sx_seq fun K16 k16 => sx_region ?_
  refine sm rfl rfl rfl rfl ?_
  refine sm rfl rfl rfl rfl ?_
  have f17 := hvb0.ext cs3
  have f18 := f17.chg cwl8 (by omega)
  refine sx_pure rfl rfl rfl (px_len rfl Tryz.underlying22 f18) ?_
  refine sx_pure rfl rfl rfl (px_lt rfl rfl) ?_
  refine wl_nil (q_n (k16 _ _ ?_))
  refine sx_condP rfl (fun h109 => ?_) (fun h109 => ?_)
  ·
   refine sx_region ?_
   refine sm rfl rfl rfl rfl ?_
   refine sm rfl rfl rfl rfl ?_
   refine sm rfl rfl rfl rfl ?_
   refine sx_pure rfl rfl rfl (px_index1 (j := k) rfl rfl (by omega) Tryz.underlying22 Tryz.sizeOf3 f18 (by omega)) ?_
   refine sx_pure rfl rfl rfl (px_load rfl (f18.load1 (at_int (by omega)) Tryz.isAgg3)) ?_
   refine sx_pure rfl rfl rfl (px_sub rfl rfl (by omega)) ?_
   refine sa rfl rfl rfl rfl ?_
   refine wl_nil (q_n (k15 _ _ ?_))
   refine sx_sub (Sub.cons (t := 0) rfl (.cons (t := 1) rfl (.cons (t := 5) rfl (.cons (t := 6) rfl (.cons (t := 8) rfl (.cons (t := 11) rfl (.cons (t := 12) rfl (.nil)))))))) ?_
   refine sx_seq fun K19 k19 => sx_region ?_
   refine sa rfl rfl rfl rfl ?_
   refine wl_nil (q_n (k19 _ _ ?_))
   refine sx_seq fun K20 k20 => ?_
   refine sx_seq fun K21 k21 => sx_region ?_
   refine sm rfl rfl rfl rfl ?_
   refine sx_pure rfl rfl rfl (px_lt rfl rfl) ?_
   refine wl_nil (q_n (k21 _ _ ?_))
   refine sx_condP rfl (fun h113 => ?_) (fun h113 => ?_)
   ·
    refine sx_seq fun K22 k22 => sx_region ?_
    refine sm rfl rfl rfl rfl ?_
    refine sx_pure rfl rfl rfl (px_add rfl rfl (by omega)) ?_
    refine sa rfl rfl rfl rfl ?_
    refine wl_nil (q_n (k22 _ _ ?_))
    refine sx_region ?_
    refine sa rfl rfl rfl rfl ?_
    refine wl_nil (q_n (k20 _ _ ?_))
    refine sx_region ?_
    refine sm rfl rfl rfl rfl ?_
    refine sm rfl rfl rfl rfl ?_
    refine sx_lit1 rfl xelt22 rfl rfl (fun s23 ws23 ss23 fs23 cs23 => ?_)
    have ns23 := Own.norm (f := (Value.int .i64)) (zs := [((((dg m).getD k 0) - ((c : Nat) : Int)) - ((dg n).getD k 0)) + 1000000000]) fs23
    have zws23 := cs23.size
    have f25 := hs_s.ext cs23
    refine sx_append rfl xelt22 rfl rfl f25 ns23.sv one_int (by omega) (by simp only [List.length_cons, List.length_nil]; omega) (by unfold maxLen; simp only [List.length_cons, List.length_nil]; omega) (fun a24 w24 fw24 cw24 => ?_)
    have nw24 := Own.app (f := (Value.int .i64)) (a := os) (b := [((((dg m).getD k 0) - ((c : Nat) : Int)) - ((dg n).getD k 0)) + 1000000000]) fw24
    have zw24 := cw24.size
    refine sa rfl rfl rfl rfl ?_
    refine wl_nil ?_
    refine q_bn (q_n (k11 _ _ ?_))
    refine sx_sub (Sub.cons (t := 0) rfl (.cons (t := 1) rfl (.cons (t := 5) rfl (.cons (t := 6) rfl (.cons (t := 11) rfl (.cons (t := 12) rfl (.nil))))))) ?_
    refine sx_region ?_
    refine sx_pure rfl rfl rfl (px_add rfl rfl (by omega)) ?_
    refine sm rfl rfl rfl rfl ?_
    refine wl_nil ?_
    have q26 := Chg.step (l := w.heap.size) (h := ws3.heap.size) cwl8 cs23 (by omega)
    have q27 := Chg.step (l := w.heap.size) (h := ws3.heap.size) q26 cw24 (by omega)
    have hs : ((dg m).getD k 0).toNat + Bs * 1 = ((dg n).getD k 0).toNat + c + ((((((dg m).getD k 0) - ((c : Nat) : Int)) - ((dg n).getD k 0)) + 1000000000) : Int).toNat := by simp only [Bs]; omega
    have hv2 : vl ((dg m).take (k + 1)) + Bs ^ (k + 1) * 1 = vl (os ++ [(((((dg m).getD k 0) - ((c : Nat) : Int)) - ((dg n).getD k 0)) + 1000000000)]) + vl ((dg n).take (k + 1)) := by
     rw [vl_concat, hos, vl_take_succ', vl_take_succ', Nat.pow_succ]
     exact sub_step hs hv
    exact fun a ha => ⟨_, by omega, (k + 1), a24, (os ++ ([((((dg m).getD k 0) - ((c : Nat) : Int)) - ((dg n).getD k 0)) + 1000000000])), 1, ha.sub (Sub.cons (t := 0) rfl (.cons (t := 1) rfl (.cons (t := 5) rfl (.cons (t := 6) (look_int (t := 6) rfl (by first | omega | simp)) (.cons (t := 11) rfl (.cons (t := 12) (look_int (t := 12) rfl (by first | omega | simp)) (.nil))))))), q27, (nw24.mono (by omega) (by omega)), rfl, by simp [hos], hlm.append (Lm.single (by omega) (by omega)), by omega, by omega, hv2⟩
   ·
    refine sx_skip ?_
    refine q_n (k20 _ _ ?_)
    refine sx_region ?_
    refine sm rfl rfl rfl rfl ?_
    refine sm rfl rfl rfl rfl ?_
    refine sx_lit1 rfl xelt22 rfl rfl (fun s28 ws28 ss28 fs28 cs28 => ?_)
    have ns28 := Own.norm (f := (Value.int .i64)) (zs := [(((dg m).getD k 0) - ((c : Nat) : Int)) - ((dg n).getD k 0)]) fs28
    have zws28 := cs28.size
    have f30 := hs_s.ext cs28
    refine sx_append rfl xelt22 rfl rfl f30 ns28.sv one_int (by omega) (by simp only [List.length_cons, List.length_nil]; omega) (by unfold maxLen; simp only [List.length_cons, List.length_nil]; omega) (fun a29 w29 fw29 cw29 => ?_)
    have nw29 := Own.app (f := (Value.int .i64)) (a := os) (b := [(((dg m).getD k 0) - ((c : Nat) : Int)) - ((dg n).getD k 0)]) fw29
    have zw29 := cw29.size
    refine sa rfl rfl rfl rfl ?_
    refine wl_nil ?_
    refine q_bn (q_n (k11 _ _ ?_))
    refine sx_region ?_
    refine sx_pure rfl rfl rfl (px_add rfl rfl (by omega)) ?_
    refine sm rfl rfl rfl rfl ?_
    refine wl_nil ?_
    have q31 := Chg.step (l := w.heap.size) (h := ws3.heap.size) cwl8 cs28 (by omega)
    have q32 := Chg.step (l := w.heap.size) (h := ws3.heap.size) q31 cw29 (by omega)
    have hs : ((dg m).getD k 0).toNat + Bs * 0 = ((dg n).getD k 0).toNat + c + (((((dg m).getD k 0) - ((c : Nat) : Int)) - ((dg n).getD k 0)) : Int).toNat := by simp only [Bs]; omega
    have hv2 : vl ((dg m).take (k + 1)) + Bs ^ (k + 1) * 0 = vl (os ++ [((((dg m).getD k 0) - ((c : Nat) : Int)) - ((dg n).getD k 0))]) + vl ((dg n).take (k + 1)) := by
     rw [vl_concat, hos, vl_take_succ', vl_take_succ', Nat.pow_succ]
     exact sub_step hs hv
    exact fun a ha => ⟨_, by omega, (k + 1), a29, (os ++ ([(((dg m).getD k 0) - ((c : Nat) : Int)) - ((dg n).getD k 0)])), 0, ha.sub (Sub.cons (t := 0) rfl (.cons (t := 1) rfl (.cons (t := 5) rfl (.cons (t := 6) (look_int (t := 6) rfl (by first | omega | simp)) (.cons (t := 11) rfl (.cons (t := 12) (look_int (t := 12) rfl (by first | omega | simp)) (.nil))))))), q32, (nw29.mono (by omega) (by omega)), rfl, by simp [hos], hlm.append (Lm.single (by omega) (by omega)), by omega, by omega, hv2⟩
  ·
   have gn := getD_ge (zs := dg n) (k := k) (by omega)
   refine sx_skip ?_
   refine q_n (k15 _ _ ?_)
   refine sx_seq fun K33 k33 => sx_region ?_
   refine sa rfl rfl rfl rfl ?_
   refine wl_nil (q_n (k33 _ _ ?_))
   refine sx_seq fun K34 k34 => ?_
   refine sx_seq fun K35 k35 => sx_region ?_
   refine sm rfl rfl rfl rfl ?_
   refine sx_pure rfl rfl rfl (px_lt rfl rfl) ?_
   refine wl_nil (q_n (k35 _ _ ?_))
   refine sx_condP rfl (fun h113 => ?_) (fun h113 => ?_)
   ·
    refine sx_seq fun K36 k36 => sx_region ?_
    refine sm rfl rfl rfl rfl ?_
    refine sx_pure rfl rfl rfl (px_add rfl rfl (by omega)) ?_
    refine sa rfl rfl rfl rfl ?_
    refine wl_nil (q_n (k36 _ _ ?_))
    refine sx_sub (Sub.cons (t := 0) rfl (.cons (t := 1) rfl (.cons (t := 5) rfl (.cons (t := 6) rfl (.cons (t := 8) rfl (.cons (t := 11) rfl (.cons (t := 12) rfl (.nil)))))))) ?_
    refine sx_region ?_
    refine sa rfl rfl rfl rfl ?_
    refine wl_nil (q_n (k34 _ _ ?_))
    refine sx_region ?_
    refine sm rfl rfl rfl rfl ?_
    refine sm rfl rfl rfl rfl ?_
    refine sx_lit1 rfl xelt22 rfl rfl (fun s37 ws37 ss37 fs37 cs37 => ?_)
    have ns37 := Own.norm (f := (Value.int .i64)) (zs := [(((dg m).getD k 0) - ((c : Nat) : Int)) + 1000000000]) fs37
    have zws37 := cs37.size
    have f39 := hs_s.ext cs37
    refine sx_append rfl xelt22 rfl rfl f39 ns37.sv one_int (by omega) (by simp only [List.length_cons, List.length_nil]; omega) (by unfold maxLen; simp only [List.length_cons, List.length_nil]; omega) (fun a38 w38 fw38 cw38 => ?_)
    have nw38 := Own.app (f := (Value.int .i64)) (a := os) (b := [(((dg m).getD k 0) - ((c : Nat) : Int)) + 1000000000]) fw38
    have zw38 := cw38.size
    refine sa rfl rfl rfl rfl ?_
    refine wl_nil ?_
    refine q_bn (q_n (k11 _ _ ?_))
    refine sx_region ?_
    refine sx_pure rfl rfl rfl (px_add rfl rfl (by omega)) ?_
    refine sm rfl rfl rfl rfl ?_
    refine wl_nil ?_
    have q40 := Chg.step (l := w.heap.size) (h := ws3.heap.size) cwl8 cs37 (by omega)
    have q41 := Chg.step (l := w.heap.size) (h := ws3.heap.size) q40 cw38 (by omega)
    have hs : ((dg m).getD k 0).toNat + Bs * 1 = ((dg n).getD k 0).toNat + c + (((((dg m).getD k 0) - ((c : Nat) : Int)) + 1000000000) : Int).toNat := by simp only [Bs]; omega
    have hv2 : vl ((dg m).take (k + 1)) + Bs ^ (k + 1) * 1 = vl (os ++ [((((dg m).getD k 0) - ((c : Nat) : Int)) + 1000000000)]) + vl ((dg n).take (k + 1)) := by
     rw [vl_concat, hos, vl_take_succ', vl_take_succ', Nat.pow_succ]
     exact sub_step hs hv
    exact fun a ha => ⟨_, by omega, (k + 1), a38, (os ++ ([(((dg m).getD k 0) - ((c : Nat) : Int)) + 1000000000])), 1, ha.sub (Sub.cons (t := 0) rfl (.cons (t := 1) rfl (.cons (t := 5) rfl (.cons (t := 6) (look_int (t := 6) rfl (by first | omega | simp)) (.cons (t := 11) rfl (.cons (t := 12) (look_int (t := 12) rfl (by first | omega | simp)) (.nil))))))), q41, (nw38.mono (by omega) (by omega)), rfl, by simp [hos], hlm.append (Lm.single (by omega) (by omega)), by omega, by omega, hv2⟩
   ·
    refine sx_skip ?_
    refine q_n (k34 _ _ ?_)
    refine sx_region ?_
    refine sm rfl rfl rfl rfl ?_
    refine sm rfl rfl rfl rfl ?_
    refine sx_lit1 rfl xelt22 rfl rfl (fun s42 ws42 ss42 fs42 cs42 => ?_)
    have ns42 := Own.norm (f := (Value.int .i64)) (zs := [((dg m).getD k 0) - ((c : Nat) : Int)]) fs42
    have zws42 := cs42.size
    have f44 := hs_s.ext cs42
    refine sx_append rfl xelt22 rfl rfl f44 ns42.sv one_int (by omega) (by simp only [List.length_cons, List.length_nil]; omega) (by unfold maxLen; simp only [List.length_cons, List.length_nil]; omega) (fun a43 w43 fw43 cw43 => ?_)
    have nw43 := Own.app (f := (Value.int .i64)) (a := os) (b := [((dg m).getD k 0) - ((c : Nat) : Int)]) fw43
    have zw43 := cw43.size
    refine sa rfl rfl rfl rfl ?_
    refine wl_nil ?_
    refine q_bn (q_n (k11 _ _ ?_))
    refine sx_sub (Sub.cons (t := 0) rfl (.cons (t := 1) rfl (.cons (t := 5) rfl (.cons (t := 6) rfl (.cons (t := 11) rfl (.cons (t := 12) rfl (.nil))))))) ?_
    refine sx_region ?_
    refine sx_pure rfl rfl rfl (px_add rfl rfl (by omega)) ?_
    refine sm rfl rfl rfl rfl ?_
    refine wl_nil ?_
    have q45 := Chg.step (l := w.heap.size) (h := ws3.heap.size) cwl8 cs42 (by omega)
    have q46 := Chg.step (l := w.heap.size) (h := ws3.heap.size) q45 cw43 (by omega)
    have hs : ((dg m).getD k 0).toNat + Bs * 0 = ((dg n).getD k 0).toNat + c + ((((dg m).getD k 0) - ((c : Nat) : Int)) : Int).toNat := by simp only [Bs]; omega
    have hv2 : vl ((dg m).take (k + 1)) + Bs ^ (k + 1) * 0 = vl (os ++ [(((dg m).getD k 0) - ((c : Nat) : Int))]) + vl ((dg n).take (k + 1)) := by
     rw [vl_concat, hos, vl_take_succ', vl_take_succ', Nat.pow_succ]
     exact sub_step hs hv
    exact fun a ha => ⟨_, by omega, (k + 1), a43, (os ++ ([((dg m).getD k 0) - ((c : Nat) : Int)])), 0, ha.sub (Sub.cons (t := 0) rfl (.cons (t := 1) rfl (.cons (t := 5) rfl (.cons (t := 6) (look_int (t := 6) rfl (by first | omega | simp)) (.cons (t := 11) rfl (.cons (t := 12) (look_int (t := 12) rfl (by first | omega | simp)) (.nil))))))), q46, (nw43.mono (by omega) (by omega)), rfl, by simp [hos], hlm.append (Lm.single (by omega) (by omega)), by omega, by omega, hv2⟩
 ·
  refine sx_exit ?_
  refine q_e (q_e (q_bx (q_n (k5 _ _ ?_))))
  refine sx_seq fun K47 k47 => ?_
  have ek : k = (dg m).length := by omega
  have hnm := len_le hle
  rw [ek, List.take_length, vl_dg, vl_take_ge (show (dg n).length ≤ (dg m).length from hnm), vl_dg] at hv
  have hend := sub_end hv hle (by have h9 := vl_lt hlm; rw [hos, ek] at h9; exact h9) hc
  have hvv := hend.2
  have hz := hlm
  refine sx_region ?_
  refine sm rfl rfl rfl rfl ?_
  refine sx_call rfl rfl Tryz.call87 (c_l02Trim hs_s (by assumption) (by first | omega | (simp only [List.length_append, List.length_set, List.length_replicate, List.length_cons, List.length_nil] at *; omega))) (fun v48 w48 p48 => ?_)
  obtain ⟨s48, rfl, os_48, c48⟩ := p48
  have zw48 := c48.size
  refine sa rfl rfl rfl rfl ?_
  refine wl_nil (q_n (k47 _ _ ?_))
  refine sx_retc ?_
  refine sx_ret1 Tryz.results89 rfl ?_
  have hr := Own.sv os_48
  rw [hvv] at hr
  have q49 := Chg.step (l := 0) (h := 0) (Chg.zero (l := 0) (h := 0) cs3) cwl8 (by omega)
  have q50 := Chg.step (l := 0) (h := 0) q49 c48 (by omega)
  exact ⟨_, rfl, hr.mono (by omega) (by omega), q50⟩

theorem c_l03Div {w : World} {va : Value} {lva uva : Nat} {m : Nat} {vb : Value} {lvb uvb : Nat} {n : Nat} (hva : Sl w lva uva va (dg m)) (hvb : Sl w lvb uvb vb (dg n)) (hbm : (dg m).length ≤ 400) (hbn : (dg n).length ≤ 400) (hn0 : 0 < n) :
  Ret Tryz.prog 59 [va, vb] w fun v w' => ∃ s t, v = .tuple #[s, t] ∧ Sl w' (w.heap.size) (w'.heap.size) s (dg (m / n)) ∧ Sl w' (w.heap.size) (w'.heap.size) t (dg (m % n)) ∧ Chg 0 0 w w' := by
 have hva0 := hva.fit
 have hvb0 := hvb.fit
 refine sx_enter Tryz.func59 rfl Tryz.ntmps59 (Nat.le_of_ble_eq_true rfl) ?_
 refine sx_seq fun K1 k1 => sx_region ?_
 refine sa rfl rfl rfl rfl ?_
 refine sa rfl rfl rfl rfl ?_
 refine wl_nil (q_n (k1 _ _ ?_))
 refine sx_seq fun K2 k2 => ?_
 refine sx_seq fun K3 k3 => sx_region ?_
 refine sm rfl rfl rfl rfl ?_
 refine sx_pure rfl rfl rfl (px_len rfl Tryz.underlying22 hvb0) ?_
 refine sx_pure rfl rfl rfl (px_eq rfl rfl) ?_
 refine wl_nil (q_n (k3 _ _ ?_))
 refine sx_condP rfl (fun h33 => ?_) (fun h33 => ?_)
 ·
  refine sx_seq fun K4 k4 => sx_region ?_
  refine sm rfl rfl rfl rfl ?_
  refine sm rfl rfl rfl rfl ?_
  refine sx_pure rfl rfl rfl (px_index1 (j := 0) rfl rfl (by omega) Tryz.underlying22 Tryz.sizeOf3 hvb0 (by omega)) ?_
  refine sx_pure rfl rfl rfl (px_load rfl (hvb0.load1 (at_int (by omega)) Tryz.isAgg3)) ?_
  refine sx_call rfl rfl Tryz.call86 (c_l03Small hva0 (by omega) (by have h9 := one_limb (n := n) (by omega); omega)) (fun v5 w5 p5 => ?_)
  obtain ⟨s5, rfl, os_5, c5⟩ := p5
  have zw5 := c5.size
  refine sm rfl rfl rfl rfl ?_
  refine sx_pure rfl rfl rfl (px_extract (vs := [s5, .int .i64 ((m % (((dg n).getD 0 0)).toNat : Nat) : Int)]) rfl rfl) ?_
  refine sx_pure rfl rfl rfl (px_extract (vs := [s5, .int .i64 ((m % (((dg n).getD 0 0)).toNat : Nat) : Int)]) rfl rfl) ?_
  refine sa rfl rfl rfl rfl ?_
  refine sa rfl rfl rfl rfl ?_
  refine wl_nil (q_n (k4 _ _ ?_))
  refine sx_sub (Sub.cons (t := 0) rfl (.cons (t := 1) rfl (.cons (t := 4) rfl (.cons (t := 5) rfl (.cons (t := 6) rfl (.cons (t := 7) rfl (.nil))))))) ?_
  refine sx_seq fun K6 k6 => sx_region ?_
  refine sm rfl rfl rfl rfl ?_
  refine sm rfl rfl rfl rfl ?_
  refine sx_call rfl rfl Tryz.call64 (c_sNatOf (by have h9 := one_limb (n := n) (by omega); have h8 := Nat.mod_lt m (show 0 < ((dg n).getD 0 0).toNat by omega); omega)) (fun v7 w7 p7 => ?_)
  obtain ⟨s7, rfl, os_7, c7⟩ := p7
  have zw7 := c7.size
  refine sa rfl rfl rfl rfl ?_
  refine sa rfl rfl rfl rfl ?_
  refine wl_nil (q_n (k6 _ _ ?_))
  refine sx_retc ?_
  refine q_r (sx_ret2 Tryz.results59 rfl rfl ?_)
  have e1 := (one_limb (n := n) (by omega)).1
  have f8 := os_5.ext c7
  have r1 := f8
  have r2 := os_7
  rw [Int.toNat_natCast] at r2
  rw [e1] at r1 r2
  exact ⟨_, _, rfl, r1.sv.mono (by omega) (by omega), r2.sv.mono (by omega) (by omega), (c5.t c7)⟩
 ·
  refine sx_skip ?_
  refine q_n (k2 _ _ ?_)
  refine sx_seq fun K9 k9 => sx_region ?_
  refine sm rfl rfl rfl rfl ?_
  refine sx_pure rfl rfl rfl (px_len rfl Tryz.underlying22 hva0) ?_
  refine sx_make (c := (dg m).length) rfl xelt22 (rfl) (rfl) (by omega) (by unfold maxLen; omega) (fun s10 ws10 fs10 cs10 ls10 => ?_)
  have ns10 := fs10.made
  have zws10 := cs10.size
  refine sa rfl rfl rfl rfl ?_
  refine wl_nil (q_n (k9 _ _ ?_))
  refine sx_seq fun K11 k11 => sx_region ?_
  refine sx_lit0 rfl xelt22 (fun s12 ws12 ss12 fs12 cs12 => ?_)
  have zws12 := cs12.size
  refine sa rfl rfl rfl rfl ?_
  refine wl_nil (q_n (k11 _ _ ?_))
  refine sx_seq fun K13 k13 => ?_
  refine sx_seq fun K14 k14 => sx_region ?_
  refine sm rfl rfl rfl rfl ?_
  have f15 := hva0.ext cs10
  have f16 := f15.ext cs12
  refine sx_pure rfl rfl rfl (px_len rfl Tryz.underlying22 f16) ?_
  refine sx_pure rfl rfl rfl (px_sub rfl rfl (by omega)) ?_
  refine sa rfl rfl rfl rfl ?_
  refine wl_nil (q_n (k14 _ _ ?_))
  refine sx_sub (Sub.cons (t := 0) rfl (.cons (t := 1) rfl (.cons (t := 4) rfl (.cons (t := 5) rfl (.cons (t := 8) rfl (.cons (t := 9) rfl (.cons (t := 10) rfl (.nil)))))))) ?_
  refine sx_block ?_
  have f18 := ns10.ext cs12
  refine sx_loop (fun mm aa w' => ∃ (k : Nat) (os : List Int) (rs : Value) (R : Nat), Agr 65 [(0, va), (1, vb), (8, s10), (9, rs), (10, .int .i64 (↑k - 1))] aa ∧ Chg w.heap.size ws10.heap.size ws12 w' ∧ Own w' w.heap.size ws10.heap.size s10 intT os.length 1 (os.map (Value.int .i64)) ∧ Sv w' ws10.heap.size w'.heap.size rs ((dg R).length) 1 ((dg R).map (Value.int .i64)) ∧ (mm = k) ∧ (k ≤ (dg m).length) ∧ (os.length = (dg m).length) ∧ (Lm os) ∧ (∀ i, i < k → os.getD i 0 = 0) ∧ (R < n) ∧ ((dg R).length ≤ (dg n).length) ∧ (vl ((dg m).drop k) = n * vl (os.drop k) + R)) (_) (fun a ha => ⟨(dg m).length, List.replicate (dg m).length 0, s12, 0, ha.sub (Sub.cons (t := 0) rfl (.cons (t := 1) rfl (.cons (t := 8) rfl (.cons (t := 9) rfl (.cons (t := 10) (look_int (t := 10) rfl (by first | omega | simp)) (.nil)))))), Chg.refl _ _ _, f18, (by rw [dg_zero]; exact (fs12.sv).mono (by omega) (by omega)), rfl, by omega, by simp, Lm.replicate _, zero_rep' _ _, by omega, by rw [dg_zero]; simp, by simp [vl]⟩) ?_
  rintro mm aa wl17 ⟨k, os, rs, R, hAwl17, cwl17, hs_s10, hs_rs, hm, hk, hos, hlm, hz, hR, hlR, hv⟩
  refine (show cw Tryz.prog 65 _ _ _ wl17 from ?_) aa hAwl17
  clear hAwl17
  have zwl17 := cwl17.size
  have am := (Lm_dg m).getD (k - 1)
  have hzl : Lm ([(dg m).getD (k - 1) 0] ++ dg R) := (Lm.single am.1 am.2).append (Lm_dg R)
  have eV := head_vl ((dg m).getD (k - 1) 0) R
  have lX := len_lt_mul (X := vl ([(dg m).getD (k - 1) 0] ++ dg R)) (n := n) (by omega)
  have hqq := q_limb eV (by omega) hR
  have hqn : (0 : Int) ≤ ((vl ([(dg m).getD (k - 1) 0] ++ dg R) / n : Nat) : Int) := Int.natCast_nonneg _
  have lq := len_u64 (n := ((vl ([(dg m).getD (k - 1) 0] ++ dg R) / n : Nat) : Int)) (by omega)
  have lm := len_mul n (((vl ([(dg m).getD (k - 1) 0] ++ dg R) / n : Nat) : Int)).toNat
  have hme := Nat.mul_div_le (vl ([(dg m).getD (k - 1) 0] ++ dg R)) n
  refine sx_seq fun K19 k19 => ?_
  refine sx_seq fun K20 k20 => sx_region ?_
  refine sm rfl rfl rfl rfl ?_
  refine sx_pure rfl rfl rfl (px_ge rfl rfl) ?_
  refine wl_nil (q_n (k20 _ _ ?_))
  refine sx_condP rfl (fun h39 => ?_) (fun h39 => ?_)
  ·
   refine sx_skip ?_
   refine q_n (k19 _ _ ?_)
   refine sx_seq fun K21 k21 => ?_
   refine sx_block ?_
   refine sx_seq fun K22 k22 => sx_region ?_
   refine sm rfl rfl rfl rfl ?_
   refine sm rfl rfl rfl rfl ?_
   have f23 := f16.chg cwl17 (by omega)
   refine sx_pure rfl rfl rfl (px_index1 (j := (k - 1)) rfl rfl (by omega) Tryz.underlying22 Tryz.sizeOf3 f23 (by omega)) ?_
   refine sx_pure rfl rfl rfl (px_load rfl (f23.load1 (at_int (by omega)) Tryz.isAgg3)) ?_
   refine sx_lit1 rfl xelt22 rfl rfl (fun s24 ws24 ss24 fs24 cs24 => ?_)
   have ns24 := Own.norm (f := (Value.int .i64)) (zs := [(dg m).getD (k - 1) 0]) fs24
   have zws24 := cs24.size
   refine sm rfl rfl rfl rfl ?_
   have f26 := hs_rs.ext cs24
   refine sx_append rfl xelt22 rfl rfl ns24 f26 one_int (by omega) (by simp only [List.length_cons, List.length_nil]; omega) (by unfold maxLen; simp only [List.length_cons, List.length_nil]; omega) (fun a25 w25 fw25 cw25 => ?_)
   have nw25 := Own.app (f := (Value.int .i64)) (a := [(dg m).getD (k - 1) 0]) (b := dg R) fw25
   have zw25 := cw25.size
   refine sx_call rfl rfl Tryz.call87 (c_l02Trim nw25 (by assumption) (by first | omega | (simp only [List.length_append, List.length_set, List.length_replicate, List.length_cons, List.length_nil] at *; omega))) (fun v27 w27 p27 => ?_)
   obtain ⟨s27, rfl, os_27, c27⟩ := p27
   have zw27 := c27.size
   refine sa rfl rfl rfl rfl ?_
   refine wl_nil (q_n (k22 _ _ ?_))
   refine sx_sub (Sub.cons (t := 0) rfl (.cons (t := 1) rfl (.cons (t := 8) rfl (.cons (t := 9) rfl (.cons (t := 10) rfl (.nil)))))) ?_
   refine sx_seq fun K28 k28 => ?_
   refine sx_seq fun K29 k29 => sx_region ?_
   refine sm rfl rfl rfl rfl ?_
   refine sm rfl rfl rfl rfl ?_
   have f30 := hvb0.ext cs10
   have f31 := f30.ext cs12
   have f32 := f31.chg cwl17 (by omega)
   have f33 := f32.ext cs24
   have f34 := f33.chg cw25 (by omega)
   have f35 := f34.ext c27
   refine sx_call rfl rfl Tryz.call56 (c_l02Cmp os_27.sv f35 (by omega)) (fun v36 w36 p36 => ?_)
   obtain ⟨rfl, c36⟩ := p36
   have zw36 := c36.size
   refine sx_pure rfl rfl rfl (px_lt rfl rfl) ?_
   refine wl_nil (q_n (k29 _ _ ?_))
   refine sx_condP rfl (fun h41 => ?_) (fun h41 => ?_)
   ·
    rw [cmpL_dg] at h41
    have hlt := cmpN_neg.1 h41
    refine sx_exit ?_
    refine q_e (q_bx (q_n (k21 _ _ ?_)))
    refine sx_region ?_
    refine sm rfl rfl rfl rfl ?_
    refine sx_pure rfl rfl rfl (px_sub rfl rfl (by omega)) ?_
    refine sa rfl rfl rfl rfl ?_
    refine wl_nil ?_
    have q37 := Chg.step (l := w.heap.size) (h := ws10.heap.size) cwl17 cs24 (by omega)
    have q38 := Chg.step (l := w.heap.size) (h := ws10.heap.size) q37 cw25 (by omega)
    have q39 := Chg.step (l := w.heap.size) (h := ws10.heap.size) q38 (c27.t c36) (by omega)
    have f40 := hs_s10.ext cs24
    have f41 := f40.chg cw25 (by omega)
    have f42 := f41.ext c27
    have f43 := f42.ext c36
    have f44 := os_27.ext c36
    exact fun a ha => ⟨_, by omega, (k - 1), os, v27, (vl (([(dg m).getD (k - 1) 0]) ++ (dg R))), ha.sub (Sub.cons (t := 0) rfl (.cons (t := 1) rfl (.cons (t := 8) rfl (.cons (t := 9) rfl (.cons (t := 10) (look_int (t := 10) rfl (by first | omega | simp)) (.nil)))))), q39, (f43.mono (by omega) (by omega)), (f44.sv.mono (by omega) (by omega)), rfl, by omega, by simpa using hos, hlm, fun i hi => hz i (by omega), by omega, by have h9 := len_le (m := (vl (([(dg m).getD (k - 1) 0]) ++ (dg R)))) (n := n) (by have h8 := sub_mod (X := vl ([(dg m).getD (k - 1) 0] ++ dg R)) hn0; omega); omega, down_step (by omega) (by omega) (by omega) (hz _ (by omega)) eV hv⟩
   ·
    rw [cmpL_dg] at h41
    have hge := Nat.le_of_not_lt (mt cmpN_neg.2 h41)
    refine sx_skip ?_
    refine q_n (k28 _ _ ?_)
    refine sx_seq fun K45 k45 => sx_region ?_
    refine sm rfl rfl rfl rfl ?_
    refine sm rfl rfl rfl rfl ?_
    have f46 := os_27.ext c36
    have f47 := f35.ext c36
    refine sx_call rfl rfl Tryz.call88 (c_l03Digit f46.sv f47 (by omega) (by omega) (by omega)) (fun v48 w48 p48 => ?_)
    obtain ⟨rfl, c48⟩ := p48
    have zw48 := c48.size
    refine sa rfl rfl rfl rfl ?_
    refine wl_nil (q_n (k45 _ _ ?_))
    refine sx_seq fun K49 k49 => sx_region ?_
    refine sm rfl rfl rfl rfl ?_
    refine sm rfl rfl rfl rfl ?_
    refine sm rfl rfl rfl rfl ?_
    have f50 := hs_s10.ext cs24
    have f51 := f50.chg cw25 (by omega)
    have f52 := f51.ext c27
    have f53 := f52.ext c36
    have f54 := f53.ext c48
    refine sx_pure rfl rfl rfl (px_index1 (j := (k - 1)) rfl rfl (by omega) Tryz.underlying22 Tryz.sizeOf3 f54.sv (by omega)) ?_
    refine sx_storeO rfl rfl f54 (by first | omega | (simp only [List.length_map]; omega)) Tryz.sizeOf3 rfl (fun w55 sw55 fw55 cw55 => ?_)
    have zw55 := cw55.size
    have nw55 := fw55.set
    refine wl_nil (q_n (k49 _ _ ?_))
    refine sx_sub (Sub.cons (t := 0) rfl (.cons (t := 1) rfl (.cons (t := 8) rfl (.cons (t := 9) rfl (.cons (t := 10) rfl (.cons (t := 11) rfl (.nil))))))) ?_
    refine sx_region ?_
    refine sm rfl rfl rfl rfl ?_
    refine sm rfl rfl rfl rfl ?_
    refine sm rfl rfl rfl rfl ?_
    refine sx_call rfl rfl Tryz.call64 (c_sNatOf (by omega)) (fun v56 w56 p56 => ?_)
    obtain ⟨s56, rfl, os_56, c56⟩ := p56
    have zw56 := c56.size
    have f57 := f47.ext c48
    have f58 := f57.chg cw55 (by omega)
    have f59 := f58.ext c56
    refine sx_call rfl rfl Tryz.call66 (c_l02Mul f59 os_56.sv (by omega) (by omega)) (fun v60 w60 p60 => ?_)
    obtain ⟨s60, rfl, os_60, c60⟩ := p60
    have zw60 := c60.size
    have f61 := f46.ext c48
    have f62 := f61.chg cw55 (by omega)
    have f63 := f62.ext c56
    have f64 := f63.ext c60
    refine sx_call rfl rfl Tryz.call89 (c_l02Sub f64.sv os_60 (by omega) (by omega) (by rw [Int.toNat_natCast]; exact hme)) (fun v65 w65 p65 => ?_)
    obtain ⟨s65, rfl, os_65, c65⟩ := p65
    have zw65 := c65.size
    refine sa rfl rfl rfl rfl ?_
    refine wl_nil ?_
    refine q_bn (q_n (k21 _ _ ?_))
    refine sx_region ?_
    refine sm rfl rfl rfl rfl ?_
    refine sx_pure rfl rfl rfl (px_sub rfl rfl (by omega)) ?_
    refine sa rfl rfl rfl rfl ?_
    refine wl_nil ?_
    have q66 := Chg.step (l := w.heap.size) (h := ws10.heap.size) cwl17 cs24 (by omega)
    have q67 := Chg.step (l := w.heap.size) (h := ws10.heap.size) q66 cw25 (by omega)
    have q68 := Chg.step (l := w.heap.size) (h := ws10.heap.size) q67 ((c27.t c36).t c48) (by omega)
    have q69 := Chg.step (l := w.heap.size) (h := ws10.heap.size) q68 cw55 (by omega)
    have q70 := Chg.step (l := w.heap.size) (h := ws10.heap.size) q69 ((c56.t c60).t c65) (by omega)
    have f71 := nw55.ext c56
    have f72 := f71.ext c60
    have f73 := f72.ext c65
    exact fun a ha => ⟨_, by omega, (k - 1), ((os).set (k - 1) (((vl (([(dg m).getD (k - 1) 0]) ++ (dg R))) / n : Nat) : Int)), v65, ((vl (([(dg m).getD (k - 1) 0]) ++ (dg R))) - (n * (((((vl (([(dg m).getD (k - 1) 0]) ++ (dg R))) / n : Nat) : Int)).toNat))), ha.sub (Sub.cons (t := 0) rfl (.cons (t := 1) rfl (.cons (t := 8) rfl (.cons (t := 9) rfl (.cons (t := 10) (look_int (t := 10) rfl (by first | omega | simp)) (.nil)))))), q70, (f73.mono (by omega) (by omega)), (os_65.mono (by omega) (by omega)), rfl, by omega, by simpa using hos, hlm.set _ (by omega) (by omega), zero_below hz, sub_mod hn0, by have h9 := len_le (m := ((vl (([(dg m).getD (k - 1) 0]) ++ (dg R))) - (n * (((((vl (([(dg m).getD (k - 1) 0]) ++ (dg R))) / n : Nat) : Int)).toNat)))) (n := n) (by have h8 := sub_mod (X := vl ([(dg m).getD (k - 1) 0] ++ dg R)) hn0; omega); omega, div_step (by omega) (by omega) (by omega) eV hn0 hv⟩
  ·
   refine sx_exit ?_
   refine q_e (q_e (q_bx (q_n (k13 _ _ ?_))))
   refine sx_seq fun K74 k74 => sx_region ?_
   refine sm rfl rfl rfl rfl ?_
   refine sx_call rfl rfl Tryz.call87 (c_l02Trim hs_s10 (by assumption) (by first | omega | (simp only [List.length_append, List.length_set, List.length_replicate, List.length_cons, List.length_nil] at *; omega))) (fun v75 w75 p75 => ?_)
   obtain ⟨s75, rfl, os_75, c75⟩ := p75
   have zw75 := c75.size
   refine sm rfl rfl rfl rfl ?_
   refine sa rfl rfl rfl rfl ?_
   refine sa rfl rfl rfl rfl ?_
   refine wl_nil (q_n (k74 _ _ ?_))
   refine sx_retc ?_
   refine sx_ret2 Tryz.results59 rfl rfl ?_
   have e0 : k = 0 := by omega
   subst e0
   have he := div_end (m := m) (d := n) (v := vl os) (r := R) (by rw [List.drop_zero, List.drop_zero, vl_dg] at hv; exact hv) hR
   have r1 := os_75
   have f76 := hs_rs.ext c75
   have r2 := f76
   rw [he.1] at r1
   rw [he.2] at r2
   have q77 := Chg.step (l := 0) (h := 0) (Chg.zero (l := 0) (h := 0) (cs10.t cs12)) cwl17 (by omega)
   have q78 := Chg.step (l := 0) (h := 0) q77 c75 (by omega)
   exact ⟨_, _, rfl, r1.sv.mono (by omega) (by omega), r2.mono (by omega) (by omega), q78⟩

theorem c_sNatGcd {w : World} {va : Value} {lva uva : Nat} {m : Nat} {vb : Value} {lvb uvb : Nat} {n : Nat} (hva : Sl w lva uva va (dg m)) (hvb : Sl w lvb uvb vb (dg n)) (hbm : (dg m).length ≤ 50) (hbn : (dg n).length ≤ 50) :
  Ret Tryz.prog 57 [va, vb] w fun v w' => ∃ s, v = s ∧ Sl w' (0) (w'.heap.size) s (dg (Nat.gcd m n)) ∧ Chg 0 0 w w' := by
 have hva0 := hva.fit
 have hvb0 := hvb.fit
 refine sx_enter Tryz.func57 rfl Tryz.ntmps57 (Nat.le_of_ble_eq_true rfl) ?_
 refine sx_seq fun K1 k1 => sx_region ?_
 refine sa rfl rfl rfl rfl ?_
 refine wl_nil (q_n (k1 _ _ ?_))
 refine sx_seq fun K2 k2 => ?_
 refine sx_seq fun K3 k3 => sx_region ?_
 refine sm rfl rfl rfl rfl ?_
 refine sx_call rfl rfl Tryz.call55 (c_sNatOk hva0 (by omega)) (fun v4 w4 p4 => ?_)
 obtain ⟨rfl, c4⟩ := p4
 have zw4 := c4.size
 refine sx_pure rfl rfl rfl (px_notP rfl) ?_
 refine sm rfl rfl rfl rfl ?_
 have h61 : ¬ (¬ (NOk (dg m))) := fun h => h (NOk_dg (by omega))
 refine sx_tmpPF (t := 12) rfl h61 ?_
 refine sx_guardT rfl rfl rfl ?_
 refine sm rfl rfl rfl rfl ?_
 refine sx_guardT rfl rfl rfl ?_
 have f5 := hvb0.ext c4
 refine sx_call rfl rfl Tryz.call55 (c_sNatOk f5 (by omega)) (fun v6 w6 p6 => ?_)
 obtain ⟨rfl, c6⟩ := p6
 have zw6 := c6.size
 refine sx_guardT rfl rfl rfl ?_
 refine sx_pure rfl rfl rfl (px_notP rfl) ?_
 refine sx_pure rfl rfl rfl (px_pick rfl rfl) ?_
 refine wl_nil (q_n (k3 _ _ ?_))
 have h61x1 : ¬ (¬ (NOk (dg n))) := fun h => h (NOk_dg (by omega))
 refine sx_condPF rfl h61x1 ?_
 refine sx_skip ?_
 refine q_n (k2 _ _ ?_)
 refine sx_seq fun K7 k7 => sx_region ?_
 refine sx_lit0 rfl xelt22 (fun s8 ws8 ss8 fs8 cs8 => ?_)
 have zws8 := cs8.size
 refine sm rfl rfl rfl rfl ?_
 have f10 := hva0.ext c4
 have f11 := f10.ext c6
 have f12 := f11.ext cs8
 refine sx_append rfl xelt22 rfl rfl fs8 f12 one_int (by omega) (by first | omega | (simp only [List.length_nil]; omega)) (by unfold maxLen; first | omega | (simp only [List.length_nil]; omega)) (fun a9 w9 fw9 cw9 => ?_)
 have nw9 := Own.norm (f := (Value.int .i64)) (zs := dg m) fw9
 have zw9 := cw9.size
 refine sa rfl rfl rfl rfl ?_
 refine wl_nil (q_n (k7 _ _ ?_))
 refine sx_sub (Sub.cons (t := 1) rfl (.cons (t := 4) rfl (.cons (t := 5) rfl (.nil)))) ?_
 refine sx_seq fun K13 k13 => sx_region ?_
 refine sx_lit0 rfl xelt22 (fun s14 ws14 ss14 fs14 cs14 => ?_)
 have zws14 := cs14.size
 refine sm rfl rfl rfl rfl ?_
 have f16 := f5.ext c6
 have f17 := f16.ext cs8
 have f18 := f17.chg cw9 (by omega)
 have f19 := f18.ext cs14
 refine sx_append rfl xelt22 rfl rfl fs14 f19 one_int (by omega) (by first | omega | (simp only [List.length_nil]; omega)) (by unfold maxLen; first | omega | (simp only [List.length_nil]; omega)) (fun a15 w15 fw15 cw15 => ?_)
 have nw15 := Own.norm (f := (Value.int .i64)) (zs := dg n) fw15
 have zw15 := cw15.size
 refine sa rfl rfl rfl rfl ?_
 refine wl_nil (q_n (k13 _ _ ?_))
 refine sx_seq fun K20 k20 => ?_
 refine sx_block ?_
 have f22 := nw9.ext cs14
 have f23 := f22.chg cw15 (by omega)
 refine sx_loop (fun mm aa w' => ∃ (xa : Value) (xb : Value) (m2 : Nat) (n2 : Nat), Agr 35 [(5, xa), (6, xb)] aa ∧ Chg 0 0 w15 w' ∧ Sv w' 0 w'.heap.size xa ((dg m2).length) 1 ((dg m2).map (Value.int .i64)) ∧ Sv w' 0 w'.heap.size xb ((dg n2).length) 1 ((dg n2).map (Value.int .i64)) ∧ (mm = n2) ∧ (Nat.gcd m2 n2 = Nat.gcd m n) ∧ ((dg m2).length ≤ 400 ∧ (dg n2).length ≤ 400)) (_) (fun a ha => ⟨a9, a15, m, n, ha.sub (Sub.cons (t := 5) rfl (.cons (t := 6) rfl (.nil))), Chg.refl _ _ _, (f23.sv.mono (by omega) (by omega)), (nw15.sv.mono (by omega) (by omega)), rfl, rfl, by omega⟩) ?_
 rintro mm aa wl21 ⟨xa, xb, m2, n2, hAwl21, cwl21, hs_xa, hs_xb, hm, hg, hl2⟩
 refine (show cw Tryz.prog 35 _ _ _ wl21 from ?_) aa hAwl21
 clear hAwl21
 have zwl21 := cwl21.size
 refine sx_seq fun K24 k24 => ?_
 refine sx_seq fun K25 k25 => sx_region ?_
 refine sm rfl rfl rfl rfl ?_
 refine sx_pure rfl rfl rfl (px_len rfl Tryz.underlying22 hs_xb) ?_
 refine sx_pure rfl rfl rfl (px_gt rfl rfl) ?_
 refine wl_nil (q_n (k25 _ _ ?_))
 refine sx_condP rfl (fun h66 => ?_) (fun h66 => ?_)
 ·
  have hn0 : 0 < n2 := len_pos.1 (by omega)
  refine sx_skip ?_
  refine q_n (k24 _ _ ?_)
  refine sx_block ?_
  refine sx_seq fun K26 k26 => sx_region ?_
  refine sm rfl rfl rfl rfl ?_
  refine sm rfl rfl rfl rfl ?_
  refine sx_call rfl rfl Tryz.call59 (c_l03Div hs_xa hs_xb (by omega) (by omega) (by omega)) (fun v27 w27 p27 => ?_)
  obtain ⟨s27, t27, rfl, os_27, ot_27, c27⟩ := p27
  have zw27 := c27.size
  refine sm rfl rfl rfl rfl ?_
  refine sx_pure rfl rfl rfl (px_extract (vs := [s27, t27]) rfl rfl) ?_
  refine sx_pure rfl rfl rfl (px_extract (vs := [s27, t27]) rfl rfl) ?_
  refine sa rfl rfl rfl rfl ?_
  refine sa rfl rfl rfl rfl ?_
  refine wl_nil (q_n (k26 _ _ ?_))
  refine sx_seq fun K28 k28 => sx_region ?_
  refine sm rfl rfl rfl rfl ?_
  refine sa rfl rfl rfl rfl ?_
  refine wl_nil (q_n (k28 _ _ ?_))
  refine sx_region ?_
  refine sm rfl rfl rfl rfl ?_
  refine sa rfl rfl rfl rfl ?_
  refine wl_nil ?_
  have f29 := hs_xb.ext c27
  have hml := Nat.mod_lt m2 hn0
  have hll := len_mod (m := m2) hn0
  exact q_bn (fun a ha => ⟨_, by omega, xb, t27, n2, (m2 % n2), ha.sub (Sub.cons (t := 5) rfl (.cons (t := 6) rfl (.nil))), (cwl21.t c27), (f29.mono (by omega) (by omega)), (ot_27.mono (by omega) (by omega)), rfl, gcd_next.trans hg, by omega⟩)
 ·
  refine sx_exit ?_
  refine q_e (q_e (q_bx (q_n (k20 _ _ ?_))))
  refine sx_seq fun K30 k30 => sx_region ?_
  refine sm rfl rfl rfl rfl ?_
  refine sa rfl rfl rfl rfl ?_
  refine wl_nil (q_n (k30 _ _ ?_))
  refine sx_retc ?_
  refine sx_ret1 Tryz.results57 rfl ?_
  have e0 : n2 = 0 := len_zero.1 (by omega)
  subst e0
  rw [Nat.gcd_zero_right] at hg
  rw [← hg]
  have q31 := Chg.step (l := 0) (h := 0) (Chg.zero (l := 0) (h := 0) ((c4.t c6).t cs8)) cw9 (by omega)
  have q32 := Chg.step (l := 0) (h := 0) q31 cs14 (by omega)
  have q33 := Chg.step (l := 0) (h := 0) q32 cw15 (by omega)
  have q34 := Chg.step (l := 0) (h := 0) q33 cwl21 (by omega)
  exact ⟨_, rfl, (Sv.mono hs_xa (by omega) (by omega)), q34⟩

theorem c_sRatOk {w : World} {n1 : Bool} {v1 : Value} {lv1 uv1 : Nat} {z1 : List Int} {d1 : Value} {ld1 ud1 : Nat} {y1 : List Int} (hv1 : Sl w lv1 uv1 v1 (z1)) (hd1 : Sl w ld1 ud1 d1 (y1)) (h63 : z1.length ≤ 4611686018427387904 ∧ y1.length ≤ 4611686018427387904) :
  Ret Tryz.prog 36 [.agg #[.bool n1, v1, d1]] w fun v w' => v = .bool (decide (ROk n1 z1 y1)) ∧ Chg 0 0 w w' := by
 have hv10 := hv1.fit
 have hd10 := hd1.fit
 refine sx_enter Tryz.func36 rfl Tryz.ntmps36 (Nat.le_of_ble_eq_true rfl) ?_
 refine sx_seq fun K1 k1 => sx_region ?_
 refine sx_box [.bool n1, v1, d1] rfl rfl rfl (fun b2 w3 eb2 sb2 fb2 cb2 => ?_)
 have zw3 := cb2.size
 refine sa rfl rfl rfl rfl ?_
 refine wl_nil (q_n (k1 _ _ ?_))
 refine sx_seq fun K4 k4 => ?_
 refine sx_seq fun K5 k5 => sx_region ?_
 refine sx_pure rfl rfl rfl (px_field rfl xfld32x0) ?_
 refine sx_pure rfl rfl rfl (px_load rfl (fb2.loadA (vs := [.bool n1, v1]) (look_lit rfl) Tryz.isAgg28 Tryz.sizeOf28)) ?_
 have f6 := hv10.ext cb2
 refine sx_call rfl rfl Tryz.call44 (c_sIntOk f6 (by omega)) (fun v7 w7 p7 => ?_)
 obtain ⟨rfl, c7⟩ := p7
 have zw7 := c7.size
 refine sx_pure rfl rfl rfl (px_notP rfl) ?_
 refine sm rfl rfl rfl rfl ?_
 refine sx_tmpP (t := 7) rfl (fun h7 => ?_) (fun h7 => ?_)
 ·
  refine sx_guardF rfl rfl rfl rfl rfl rfl ?_
  refine sx_guardF rfl rfl rfl rfl rfl rfl ?_
  refine sx_guardF rfl rfl rfl rfl rfl rfl ?_
  refine sx_guardF rfl rfl rfl rfl rfl rfl ?_
  refine sx_pure rfl rfl rfl (px_pick rfl rfl) ?_
  refine sm rfl rfl rfl rfl ?_
  refine sx_guardF rfl rfl rfl rfl rfl rfl ?_
  refine sx_guardF rfl rfl rfl rfl rfl rfl ?_
  refine sx_guardF rfl rfl rfl rfl rfl rfl ?_
  refine sx_guardF rfl rfl rfl rfl rfl rfl ?_
  refine sx_pure rfl rfl rfl (px_pick rfl rfl) ?_
  refine sm rfl rfl rfl rfl ?_
  refine sx_guardF rfl rfl rfl rfl rfl rfl ?_
  refine sx_guardF rfl rfl rfl rfl rfl rfl ?_
  refine sx_guardF rfl rfl rfl rfl rfl rfl ?_
  refine sx_guardF rfl rfl rfl rfl rfl rfl ?_
  refine sx_pure rfl rfl rfl (px_pick rfl rfl) ?_
  refine sm rfl rfl rfl rfl ?_
  refine sx_guardF rfl rfl rfl rfl rfl rfl ?_
  refine sx_guardF rfl rfl rfl rfl rfl rfl ?_
  refine sx_guardF rfl rfl rfl rfl rfl rfl ?_
  refine sx_guardF rfl rfl rfl rfl rfl rfl ?_
  refine sx_guardF rfl rfl rfl rfl rfl rfl ?_
  refine sx_pure rfl rfl rfl (px_pick rfl rfl) ?_
  refine wl_nil (q_n (k5 _ _ ?_))
  refine sx_sub (Sub.cons (t := 1) rfl (.cons (t := 2) rfl (.cons (t := 31) rfl (.nil)))) ?_
  refine sx_condT rfl ?_
  refine sx_seq fun K8 k8 => sx_region ?_
  refine sa rfl rfl rfl rfl ?_
  refine wl_nil (q_n (k8 _ _ ?_))
  refine sx_retc ?_
  refine q_r (sx_ret1 Tryz.results36 rfl ?_)
  exact ⟨(bFalse (by grind [ROk])), (cb2.t c7)⟩
 ·
  refine sx_guardT rfl rfl rfl ?_
  refine sx_pure rfl rfl rfl (px_field rfl xfld32x1) ?_
  refine sx_guardT rfl rfl rfl ?_
  have f9 := fb2.ext c7
  refine sx_pure rfl rfl rfl (px_load rfl (f9.load1 rfl Tryz.isAgg22)) ?_
  refine sx_guardT rfl rfl rfl ?_
  have f10 := hd10.ext cb2
  have f11 := f10.ext c7
  refine sx_call rfl rfl Tryz.call55 (c_sNatOk f11 (by omega)) (fun v12 w12 p12 => ?_)
  obtain ⟨rfl, c12⟩ := p12
  have zw12 := c12.size
  refine sx_guardT rfl rfl rfl ?_
  refine sx_pure rfl rfl rfl (px_notP rfl) ?_
  refine sx_pure rfl rfl rfl (px_pick rfl rfl) ?_
  refine sm rfl rfl rfl rfl ?_
  refine sx_tmpP (t := 13) rfl (fun h7x1 => ?_) (fun h7x1 => ?_)
  ·
   refine sx_guardF rfl rfl rfl rfl rfl rfl ?_
   refine sx_guardF rfl rfl rfl rfl rfl rfl ?_
   refine sx_guardF rfl rfl rfl rfl rfl rfl ?_
   refine sx_guardF rfl rfl rfl rfl rfl rfl ?_
   refine sx_pure rfl rfl rfl (px_pick rfl rfl) ?_
   refine sm rfl rfl rfl rfl ?_
   refine sx_guardF rfl rfl rfl rfl rfl rfl ?_
   refine sx_guardF rfl rfl rfl rfl rfl rfl ?_
   refine sx_guardF rfl rfl rfl rfl rfl rfl ?_
   refine sx_guardF rfl rfl rfl rfl rfl rfl ?_
   refine sx_pure rfl rfl rfl (px_pick rfl rfl) ?_
   refine sm rfl rfl rfl rfl ?_
   refine sx_guardF rfl rfl rfl rfl rfl rfl ?_
   refine sx_guardF rfl rfl rfl rfl rfl rfl ?_
   refine sx_guardF rfl rfl rfl rfl rfl rfl ?_
   refine sx_guardF rfl rfl rfl rfl rfl rfl ?_
   refine sx_guardF rfl rfl rfl rfl rfl rfl ?_
   refine sx_pure rfl rfl rfl (px_pick rfl rfl) ?_
   refine wl_nil (q_n (k5 _ _ ?_))
   refine sx_sub (Sub.cons (t := 1) rfl (.cons (t := 2) rfl (.cons (t := 31) rfl (.nil)))) ?_
   refine sx_condT rfl ?_
   refine sx_seq fun K13 k13 => sx_region ?_
   refine sa rfl rfl rfl rfl ?_
   refine wl_nil (q_n (k13 _ _ ?_))
   refine sx_retc ?_
   refine q_r (sx_ret1 Tryz.results36 rfl ?_)
   exact ⟨(bFalse (by grind [ROk])), ((cb2.t c7).t c12)⟩
  ·
   refine sx_guardT rfl rfl rfl ?_
   refine sx_pure rfl rfl rfl (px_field rfl xfld32x1) ?_
   refine sx_guardT rfl rfl rfl ?_
   have f14 := f9.ext c12
   refine sx_pure rfl rfl rfl (px_load rfl (f14.load1 rfl Tryz.isAgg22)) ?_
   refine sx_guardT rfl rfl rfl ?_
   have f15 := f11.ext c12
   refine sx_pure rfl rfl rfl (px_len rfl Tryz.underlying22 f15) ?_
   refine sx_guardT rfl rfl rfl ?_
   refine sx_pure rfl rfl rfl (px_eq rfl rfl) ?_
   refine sx_pure rfl rfl rfl (px_pick rfl rfl) ?_
   refine sm rfl rfl rfl rfl ?_
   refine sx_tmpP (t := 19) rfl (fun h7x2 => ?_) (fun h7x2 => ?_)
   ·
    refine sx_guardF rfl rfl rfl rfl rfl rfl ?_
    refine sx_guardF rfl rfl rfl rfl rfl rfl ?_
    refine sx_guardF rfl rfl rfl rfl rfl rfl ?_
    refine sx_guardF rfl rfl rfl rfl rfl rfl ?_
    refine sx_pure rfl rfl rfl (px_pick rfl rfl) ?_
    refine sm rfl rfl rfl rfl ?_
    refine sx_guardF rfl rfl rfl rfl rfl rfl ?_
    refine sx_guardF rfl rfl rfl rfl rfl rfl ?_
    refine sx_guardF rfl rfl rfl rfl rfl rfl ?_
    refine sx_guardF rfl rfl rfl rfl rfl rfl ?_
    refine sx_guardF rfl rfl rfl rfl rfl rfl ?_
    refine sx_pure rfl rfl rfl (px_pick rfl rfl) ?_
    refine wl_nil (q_n (k5 _ _ ?_))
    refine sx_sub (Sub.cons (t := 1) rfl (.cons (t := 2) rfl (.cons (t := 31) rfl (.nil)))) ?_
    refine sx_condT rfl ?_
    refine sx_seq fun K16 k16 => sx_region ?_
    refine sa rfl rfl rfl rfl ?_
    refine wl_nil (q_n (k16 _ _ ?_))
    refine sx_retc ?_
    refine q_r (sx_ret1 Tryz.results36 rfl ?_)
    exact ⟨(bFalse (by grind [ROk])), ((cb2.t c7).t c12)⟩
   ·
    refine sx_guardT rfl rfl rfl ?_
    refine sx_pure rfl rfl rfl (px_field rfl xfld32x1) ?_
    refine sx_guardT rfl rfl rfl ?_
    refine sx_pure rfl rfl rfl (px_load rfl (f14.load1 rfl Tryz.isAgg22)) ?_
    refine sx_guardT rfl rfl rfl ?_
    refine sx_pure rfl rfl rfl (px_len rfl Tryz.underlying22 f15) ?_
    refine sx_guardT rfl rfl rfl ?_
    refine sx_pure rfl rfl rfl (px_gt rfl rfl) ?_
    refine sx_pure rfl rfl rfl (px_pick rfl rfl) ?_
    refine sm rfl rfl rfl rfl ?_
    refine sx_tmpP (t := 25) rfl (fun h7x3 => ?_) (fun h7x3 => ?_)
    ·
     refine sx_guardF rfl rfl rfl rfl rfl rfl ?_
     refine sx_guardF rfl rfl rfl rfl rfl rfl ?_
     refine sx_guardF rfl rfl rfl rfl rfl rfl ?_
     refine sx_guardF rfl rfl rfl rfl rfl rfl ?_
     refine sx_guardF rfl rfl rfl rfl rfl rfl ?_
     refine sx_pure rfl rfl rfl (px_pick rfl rfl) ?_
     refine wl_nil (q_n (k5 _ _ ?_))
     refine sx_sub (Sub.cons (t := 1) rfl (.cons (t := 2) rfl (.cons (t := 31) rfl (.nil)))) ?_
     refine sx_condT rfl ?_
     refine sx_seq fun K17 k17 => sx_region ?_
     refine sa rfl rfl rfl rfl ?_
     refine wl_nil (q_n (k17 _ _ ?_))
     refine sx_retc ?_
     refine q_r (sx_ret1 Tryz.results36 rfl ?_)
     exact ⟨(bFalse (by grind [ROk])), ((cb2.t c7).t c12)⟩
    ·
     refine sx_guardT rfl rfl rfl ?_
     refine sx_pure rfl rfl rfl (px_field rfl xfld32x0) ?_
     refine sx_guardT rfl rfl rfl ?_
     refine sx_pure rfl rfl rfl (px_field rfl xfld28x1) ?_
     refine sx_guardT rfl rfl rfl ?_
     refine sx_pure rfl rfl rfl (px_load rfl (f14.load1 rfl Tryz.isAgg22)) ?_
     refine sx_guardT rfl rfl rfl ?_
     have f18 := f6.ext c7
     have f19 := f18.ext c12
     refine sx_pure rfl rfl rfl (px_len rfl Tryz.underlying22 f19) ?_
     refine sx_guardT rfl rfl rfl ?_
     refine sx_pure rfl rfl rfl (px_gt rfl rfl) ?_
     refine sx_pure rfl rfl rfl (px_pick rfl rfl) ?_
     refine wl_nil (q_n (k5 _ _ ?_))
     refine sx_sub (Sub.cons (t := 1) rfl (.cons (t := 2) rfl (.cons (t := 31) rfl (.nil)))) ?_
     refine sx_condP rfl (fun h7x4 => ?_) (fun h7x4 => ?_)
     ·
      refine sx_seq fun K20 k20 => sx_region ?_
      refine sa rfl rfl rfl rfl ?_
      refine wl_nil (q_n (k20 _ _ ?_))
      refine sx_retc ?_
      refine q_r (sx_ret1 Tryz.results36 rfl ?_)
      exact ⟨(bFalse (by grind [ROk])), ((cb2.t c7).t c12)⟩
     ·
      have hR1 := Decidable.not_not.1 h7
      have hR2 := Decidable.not_not.1 h7x1
      obtain ⟨x1, rfl, rfl, hx1⟩ := hR1.int
      obtain ⟨e1, rfl, he1⟩ := hR2.dg
      have he0 : 0 < e1 := len_pos.1 (by omega)
      have hk : ROk (ng x1) (dg x1.natAbs) (dg e1) ↔ dg (Nat.gcd x1.natAbs e1) = [1] := by rw [ROk_iff, dg_is_one]; exact ⟨fun h => h.2.2.2, fun h => ⟨he0, by omega, by omega, h⟩⟩
      refine sx_skip ?_
      refine q_n (k4 _ _ ?_)
      refine sx_seq fun K21 k21 => sx_region ?_
      refine sx_pure rfl rfl rfl (px_field rfl xfld32x0) ?_
      refine sx_pure rfl rfl rfl (px_field rfl xfld28x1) ?_
      refine sx_pure rfl rfl rfl (px_load rfl (f14.load1 rfl Tryz.isAgg22)) ?_
      refine sx_pure rfl rfl rfl (px_field rfl xfld32x1) ?_
      refine sx_pure rfl rfl rfl (px_load rfl (f14.load1 rfl Tryz.isAgg22)) ?_
      refine sx_call rfl rfl Tryz.call57 (c_sNatGcd f19 f15 (by omega) (by omega)) (fun v22 w22 p22 => ?_)
      obtain ⟨s22, rfl, os_22, c22⟩ := p22
      have zw22 := c22.size
      refine sx_lit1 rfl xelt22 rfl rfl (fun s23 ws23 ss23 fs23 cs23 => ?_)
      have ns23 := Own.norm (f := (Value.int .i64)) (zs := [1]) fs23
      have zws23 := cs23.size
      have f24 := os_22.ext cs23
      refine sx_call rfl rfl Tryz.call56 (c_l02Cmp f24 ns23.sv (by have h9 := gcd_le_left (m := x1.natAbs) (n := e1) (k := 50) (by omega) (by omega); simp only [List.length_cons, List.length_nil]; omega)) (fun v25 w25 p25 => ?_)
      obtain ⟨rfl, c25⟩ := p25
      have zw25 := c25.size
      refine sx_pure rfl rfl rfl (px_eq rfl rfl) ?_
      refine sa rfl rfl rfl rfl ?_
      refine wl_nil (q_n (k21 _ _ ?_))
      refine sx_retc ?_
      refine sx_ret1 Tryz.results36 rfl ?_
      exact ⟨(bIff ⟨fun h => hk.2 (cmpL_zero.1 h), fun h => cmpL_zero.2 (hk.1 h)⟩), (((((cb2.t c7).t c12).t c22).t cs23).t c25)⟩

theorem c_l06Mode {w : World} {m : Int} :
  Ret Tryz.prog 37 [.int .i64 m] w fun v w' => v = .bool (decide (0 ≤ m ∧ m ≤ 6)) ∧ Chg 0 0 w w' := by
 refine sx_enter Tryz.func37 rfl Tryz.ntmps37 (Nat.le_of_ble_eq_true rfl) ?_
 refine sx_seq fun K1 k1 => sx_region ?_
 refine sa rfl rfl rfl rfl ?_
 refine wl_nil (q_n (k1 _ _ ?_))
 refine sx_seq fun K2 k2 => sx_region ?_
 refine sm rfl rfl rfl rfl ?_
 refine sx_call rfl rfl Tryz.call58 (c_l01In) (fun v3 w3 p3 => ?_)
 obtain ⟨rfl, c3⟩ := p3
 have zw3 := c3.size
 refine sa rfl rfl rfl rfl ?_
 refine wl_nil (q_n (k2 _ _ ?_))
 refine sx_retc ?_
 refine sx_ret1 Tryz.results37 rfl ?_
 exact ⟨(by first | exact bTrue (by grind) | exact bFalse (by grind) | exact bIff (by grind)), c3⟩

theorem c_l02Add {w : World} {va : Value} {lva uva : Nat} {m : Nat} {vb : Value} {lvb uvb : Nat} {n : Nat} (hva : Sl w lva uva va (dg m)) (hvb : Sl w lvb uvb vb (dg n)) (hbm : (dg m).length ≤ 1000) (hbn : (dg n).length ≤ 1000) :
  Ret Tryz.prog 61 [va, vb] w fun v w' => ∃ s, v = s ∧ Sl w' (w.heap.size) (w'.heap.size) s (dg (m + n)) ∧ Chg 0 0 w w' := by
 have hva0 := hva.fit
 have hvb0 := hvb.fit
 refine sx_enter Tryz.func61 rfl Tryz.ntmps61 (Nat.le_of_ble_eq_true rfl) ?_
 refine sx_seq fun K1 k1 => sx_region ?_
 refine sa rfl rfl rfl rfl ?_
 refine wl_nil (q_n (k1 _ _ ?_))
 refine sx_seq fun K2 k2 => sx_region ?_
 refine sx_lit0 rfl xelt22 (fun s3 ws3 ss3 fs3 cs3 => ?_)
 have zws3 := cs3.size
 refine sa rfl rfl rfl rfl ?_
 refine wl_nil (q_n (k2 _ _ ?_))
 refine sx_seq fun K4 k4 => sx_region ?_
 refine sa rfl rfl rfl rfl ?_
 refine wl_nil (q_n (k4 _ _ ?_))
 refine sx_seq fun K5 k5 => ?_
 refine sx_seq fun K6 k6 => sx_region ?_
 refine sa rfl rfl rfl rfl ?_
 refine wl_nil (q_n (k6 _ _ ?_))
 refine sx_block ?_
 refine sx_loop (fun mm aa w' => ∃ (k : Nat) (s : Value) (os : List Int) (c : Nat), Agr 55 [(0, va), (1, vb), (5, s), (6, .int .i64 ((c : Nat) : Int)), (7, .int .i64 ↑k)] aa ∧ Chg w.heap.size ws3.heap.size ws3 w' ∧ Own w' w.heap.size w'.heap.size s intT os.length 1 (os.map (Value.int .i64)) ∧ (mm = max (dg m).length (dg n).length + 1 - k) ∧ (os.length = k) ∧ (Lm os) ∧ (c ≤ 1) ∧ (vl os + Bs ^ k * c = vl ((dg m).take k) + vl ((dg n).take k)) ∧ (k ≤ max (dg m).length (dg n).length ∨ (c = 0 ∧ k = max (dg m).length (dg n).length + 1 ∧ Bs ^ (k - 1) ≤ vl os))) (_) (fun a ha => ⟨0, s3, [], 0, ha.sub (Sub.cons (t := 0) rfl (.cons (t := 1) rfl (.cons (t := 5) rfl (.cons (t := 6) (look_int (t := 6) rfl (by first | omega | simp)) (.cons (t := 7) (look_int (t := 7) rfl (by first | omega | simp)) (.nil)))))), Chg.refl _ _ _, (fs3.mono (by omega) (by omega)), rfl, rfl, Lm.nil, by omega, by simp [vl], .inl (Nat.zero_le _)⟩) ?_
 rintro mm aa wl7 ⟨k, s, os, c, hAwl7, cwl7, hs_s, hm, hos, hlm, hc, hv, hlast⟩
 refine (show cw Tryz.prog 55 _ _ _ wl7 from ?_) aa hAwl7
 clear hAwl7
 have zwl7 := cwl7.size
 have am := (Lm_dg m).getD k
 have bn := (Lm_dg n).getD k
 refine sx_seq fun K8 k8 => ?_
 refine sx_seq fun K9 k9 => sx_region ?_
 refine sm rfl rfl rfl rfl ?_
 refine sm rfl rfl rfl rfl ?_
 have f10 := hva0.ext cs3
 have f11 := f10.chg cwl7 (by omega)
 refine sx_pure rfl rfl rfl (px_len rfl Tryz.underlying22 f11) ?_
 refine sx_pure rfl rfl rfl (px_lt rfl rfl) ?_
 refine sm rfl rfl rfl rfl ?_
 refine sx_tmpP (t := 14) rfl (fun h82 => ?_) (fun h82 => ?_)
 ·
  refine sx_guardF rfl rfl rfl rfl rfl rfl ?_
  refine sx_guardF rfl rfl rfl rfl rfl rfl ?_
  refine sx_guardF rfl rfl rfl rfl rfl rfl ?_
  refine sx_guardF rfl rfl rfl rfl rfl rfl ?_
  refine sx_pure rfl rfl rfl (px_pick rfl rfl) ?_
  refine sm rfl rfl rfl rfl ?_
  refine sx_guardF rfl rfl rfl rfl rfl rfl ?_
  refine sx_guardF rfl rfl rfl rfl rfl rfl ?_
  refine sx_pure rfl rfl rfl (px_pick rfl rfl) ?_
  refine wl_nil (q_n (k9 _ _ ?_))
  refine sx_sub (Sub.cons (t := 0) rfl (.cons (t := 1) rfl (.cons (t := 5) rfl (.cons (t := 6) rfl (.cons (t := 7) rfl (.cons (t := 23) rfl (.nil))))))) ?_
  refine sx_condT rfl ?_
  refine sx_skip ?_
  refine q_n (k8 _ _ ?_)
  refine sx_seq fun K12 k12 => ?_
  refine sx_block ?_
  refine sx_seq fun K13 k13 => sx_region ?_
  refine sm rfl rfl rfl rfl ?_
  refine sa rfl rfl rfl rfl ?_
  refine wl_nil (q_n (k13 _ _ ?_))
  refine sx_seq fun K14 k14 => ?_
  refine sx_seq fun K15 k15 => sx_region ?_
  refine sm rfl rfl rfl rfl ?_
  refine sm rfl rfl rfl rfl ?_
  refine sx_pure rfl rfl rfl (px_len rfl Tryz.underlying22 f11) ?_
  refine sx_pure rfl rfl rfl (px_lt rfl rfl) ?_
  refine wl_nil (q_n (k15 _ _ ?_))
  refine sx_condP rfl (fun h84 => ?_) (fun h84 => ?_)
  ·
   refine sx_region ?_
   refine sm rfl rfl rfl rfl ?_
   refine sm rfl rfl rfl rfl ?_
   refine sm rfl rfl rfl rfl ?_
   refine sx_pure rfl rfl rfl (px_index1 (j := k) rfl rfl (by omega) Tryz.underlying22 Tryz.sizeOf3 f11 (by omega)) ?_
   refine sx_pure rfl rfl rfl (px_load rfl (f11.load1 (at_int (by omega)) Tryz.isAgg3)) ?_
   refine sx_pure rfl rfl rfl (px_add rfl rfl (by omega)) ?_
   refine sa rfl rfl rfl rfl ?_
   refine wl_nil (q_n (k14 _ _ ?_))
   refine sx_sub (Sub.cons (t := 0) rfl (.cons (t := 1) rfl (.cons (t := 5) rfl (.cons (t := 6) rfl (.cons (t := 7) rfl (.cons (t := 8) rfl (.nil))))))) ?_
   refine sx_seq fun K16 k16 => ?_
   refine sx_seq fun K17 k17 => sx_region ?_
   refine sm rfl rfl rfl rfl ?_
   refine sm rfl rfl rfl rfl ?_
   have f18 := hvb0.ext cs3
   have f19 := f18.chg cwl7 (by omega)
   refine sx_pure rfl rfl rfl (px_len rfl Tryz.underlying22 f19) ?_
   refine sx_pure rfl rfl rfl (px_lt rfl rfl) ?_
   refine wl_nil (q_n (k17 _ _ ?_))
   refine sx_condP rfl (fun h87 => ?_) (fun h87 => ?_)
   ·
    refine sx_region ?_
    refine sm rfl rfl rfl rfl ?_
    refine sm rfl rfl rfl rfl ?_
    refine sm rfl rfl rfl rfl ?_
    refine sx_pure rfl rfl rfl (px_index1 (j := k) rfl rfl (by omega) Tryz.underlying22 Tryz.sizeOf3 f19 (by omega)) ?_
    refine sx_pure rfl rfl rfl (px_load rfl (f19.load1 (at_int (by omega)) Tryz.isAgg3)) ?_
    refine sx_pure rfl rfl rfl (px_add rfl rfl (by omega)) ?_
    refine sa rfl rfl rfl rfl ?_
    refine wl_nil (q_n (k16 _ _ ?_))
    refine sx_sub (Sub.cons (t := 0) rfl (.cons (t := 1) rfl (.cons (t := 5) rfl (.cons (t := 6) rfl (.cons (t := 7) rfl (.cons (t := 8) rfl (.nil))))))) ?_
    refine sx_seq fun K20 k20 => sx_region ?_
    refine sm rfl rfl rfl rfl ?_
    refine sm rfl rfl rfl rfl ?_
    refine sx_pure rfl rfl rfl (px_rem rfl rfl (by omega) (by omega)) ?_
    refine sx_lit1 rfl xelt22 rfl rfl (fun s21 ws21 ss21 fs21 cs21 => ?_)
    have ns21 := Own.norm (f := (Value.int .i64)) (zs := [((((c : Nat) : Int) + ((dg m).getD k 0)) + ((dg n).getD k 0)) % 1000000000]) fs21
    have zws21 := cs21.size
    have f23 := hs_s.ext cs21
    refine sx_append rfl xelt22 rfl rfl f23 ns21.sv one_int (by omega) (by simp only [List.length_cons, List.length_nil]; omega) (by unfold maxLen; simp only [List.length_cons, List.length_nil]; omega) (fun a22 w22 fw22 cw22 => ?_)
    have nw22 := Own.app (f := (Value.int .i64)) (a := os) (b := [((((c : Nat) : Int) + ((dg m).getD k 0)) + ((dg n).getD k 0)) % 1000000000]) fw22
    have zw22 := cw22.size
    refine sa rfl rfl rfl rfl ?_
    refine wl_nil (q_n (k20 _ _ ?_))
    refine sx_region ?_
    refine sm rfl rfl rfl rfl ?_
    refine sx_pure rfl rfl rfl (px_quo rfl rfl (by omega) (by omega) (by omega)) ?_
    refine sa rfl rfl rfl rfl ?_
    refine wl_nil ?_
    refine q_bn (q_n (k12 _ _ ?_))
    refine sx_region ?_
    refine sm rfl rfl rfl rfl ?_
    refine sx_pure rfl rfl rfl (px_add rfl rfl (by omega)) ?_
    refine sa rfl rfl rfl rfl ?_
    refine wl_nil ?_
    have q24 := Chg.step (l := w.heap.size) (h := ws3.heap.size) cwl7 cs21 (by omega)
    have q25 := Chg.step (l := w.heap.size) (h := ws3.heap.size) q24 cw22 (by omega)
    have hs : (((((c : Nat) : Int) + ((dg m).getD k 0)) + ((dg n).getD k 0)) : Int) = ((c : Nat) : Int) + (((dg m).getD k 0).toNat : Nat) + (((dg n).getD k 0).toNat : Nat) := by omega
    have hv2 : vl (os ++ [(((((c : Nat) : Int) + ((dg m).getD k 0)) + ((dg n).getD k 0))) % 1000000000]) + Bs ^ (k + 1) * ((((((c : Nat) : Int) + ((dg m).getD k 0)) + ((dg n).getD k 0))) / 1000000000 : Int).toNat = vl ((dg m).take (k + 1)) + vl ((dg n).take (k + 1)) := by
     rw [vl_concat, hos, vl_take_succ', vl_take_succ', Nat.pow_succ]
     exact add_step hs hv
    have hX := mod_bd (s := ((((c : Nat) : Int) + ((dg m).getD k 0)) + ((dg n).getD k 0))) (by omega)
    have hl3 : k + 1 ≤ max (dg m).length (dg n).length ∨ (((((((c : Nat) : Int) + ((dg m).getD k 0)) + ((dg n).getD k 0))) / 1000000000 : Int).toNat = 0 ∧ k + 1 = max (dg m).length (dg n).length + 1 ∧ Bs ^ (k + 1 - 1) ≤ vl (os ++ [(((((c : Nat) : Int) + ((dg m).getD k 0)) + ((dg n).getD k 0))) % 1000000000])) := by
     by_cases hkM : k + 1 ≤ max (dg m).length (dg n).length
     · exact .inl hkM
     · first
      | (exfalso; omega)
      | (refine .inr ⟨by omega, by omega, ?_⟩; rw [vl_concat, hos, Nat.add_sub_cancel, show (((((c : Nat) : Int) + ((dg m).getD k 0)) + ((dg n).getD k 0))) % 1000000000 = 1 by omega]; exact Nat.le_trans (by simp) (Nat.le_add_left _ _))
    exact fun a ha => ⟨_, by omega, (k + 1), a22, (os ++ ([((((c : Nat) : Int) + ((dg m).getD k 0)) + ((dg n).getD k 0)) % 1000000000])), ((((((c : Nat) : Int) + ((dg m).getD k 0)) + ((dg n).getD k 0))) / 1000000000 : Int).toNat, ha.sub (Sub.cons (t := 0) rfl (.cons (t := 1) rfl (.cons (t := 5) rfl (.cons (t := 6) (look_int (t := 6) rfl (by first | omega | simp)) (.cons (t := 7) (look_int (t := 7) rfl (by first | omega | simp)) (.nil)))))), q25, (nw22.mono (by omega) (by omega)), rfl, by simp [hos], hlm.append (Lm.single hX.1 hX.2), by omega, hv2, hl3⟩
   ·
    have gn := getD_ge (zs := dg n) (k := k) (by omega)
    refine sx_skip ?_
    refine q_n (k16 _ _ ?_)
    refine sx_seq fun K26 k26 => sx_region ?_
    refine sm rfl rfl rfl rfl ?_
    refine sm rfl rfl rfl rfl ?_
    refine sx_pure rfl rfl rfl (px_rem rfl rfl (by omega) (by omega)) ?_
    refine sx_lit1 rfl xelt22 rfl rfl (fun s27 ws27 ss27 fs27 cs27 => ?_)
    have ns27 := Own.norm (f := (Value.int .i64)) (zs := [(((c : Nat) : Int) + ((dg m).getD k 0)) % 1000000000]) fs27
    have zws27 := cs27.size
    have f29 := hs_s.ext cs27
    refine sx_append rfl xelt22 rfl rfl f29 ns27.sv one_int (by omega) (by simp only [List.length_cons, List.length_nil]; omega) (by unfold maxLen; simp only [List.length_cons, List.length_nil]; omega) (fun a28 w28 fw28 cw28 => ?_)
    have nw28 := Own.app (f := (Value.int .i64)) (a := os) (b := [(((c : Nat) : Int) + ((dg m).getD k 0)) % 1000000000]) fw28
    have zw28 := cw28.size
    refine sa rfl rfl rfl rfl ?_
    refine wl_nil (q_n (k26 _ _ ?_))
    refine sx_sub (Sub.cons (t := 0) rfl (.cons (t := 1) rfl (.cons (t := 5) rfl (.cons (t := 6) rfl (.cons (t := 7) rfl (.cons (t := 8) rfl (.nil))))))) ?_
    refine sx_region ?_
    refine sm rfl rfl rfl rfl ?_
    refine sx_pure rfl rfl rfl (px_quo rfl rfl (by omega) (by omega) (by omega)) ?_
    refine sa rfl rfl rfl rfl ?_
    refine wl_nil ?_
    refine q_bn (q_n (k12 _ _ ?_))
    refine sx_region ?_
    refine sm rfl rfl rfl rfl ?_
    refine sx_pure rfl rfl rfl (px_add rfl rfl (by omega)) ?_
    refine sa rfl rfl rfl rfl ?_
    refine wl_nil ?_
    have q30 := Chg.step (l := w.heap.size) (h := ws3.heap.size) cwl7 cs27 (by omega)
    have q31 := Chg.step (l := w.heap.size) (h := ws3.heap.size) q30 cw28 (by omega)
    have hs : ((((c : Nat) : Int) + ((dg m).getD k 0)) : Int) = ((c : Nat) : Int) + (((dg m).getD k 0).toNat : Nat) + (((dg n).getD k 0).toNat : Nat) := by omega
    have hv2 : vl (os ++ [((((c : Nat) : Int) + ((dg m).getD k 0))) % 1000000000]) + Bs ^ (k + 1) * (((((c : Nat) : Int) + ((dg m).getD k 0))) / 1000000000 : Int).toNat = vl ((dg m).take (k + 1)) + vl ((dg n).take (k + 1)) := by
     rw [vl_concat, hos, vl_take_succ', vl_take_succ', Nat.pow_succ]
     exact add_step hs hv
    have hX := mod_bd (s := (((c : Nat) : Int) + ((dg m).getD k 0))) (by omega)
    have hl3 : k + 1 ≤ max (dg m).length (dg n).length ∨ ((((((c : Nat) : Int) + ((dg m).getD k 0))) / 1000000000 : Int).toNat = 0 ∧ k + 1 = max (dg m).length (dg n).length + 1 ∧ Bs ^ (k + 1 - 1) ≤ vl (os ++ [((((c : Nat) : Int) + ((dg m).getD k 0))) % 1000000000])) := by
     by_cases hkM : k + 1 ≤ max (dg m).length (dg n).length
     · exact .inl hkM
     · first
      | (exfalso; omega)
      | (refine .inr ⟨by omega, by omega, ?_⟩; rw [vl_concat, hos, Nat.add_sub_cancel, show ((((c : Nat) : Int) + ((dg m).getD k 0))) % 1000000000 = 1 by omega]; exact Nat.le_trans (by simp) (Nat.le_add_left _ _))
    exact fun a ha => ⟨_, by omega, (k + 1), a28, (os ++ ([(((c : Nat) : Int) + ((dg m).getD k 0)) % 1000000000])), (((((c : Nat) : Int) + ((dg m).getD k 0))) / 1000000000 : Int).toNat, ha.sub (Sub.cons (t := 0) rfl (.cons (t := 1) rfl (.cons (t := 5) rfl (.cons (t := 6) (look_int (t := 6) rfl (by first | omega | simp)) (.cons (t := 7) (look_int (t := 7) rfl (by first | omega | simp)) (.nil)))))), q31, (nw28.mono (by omega) (by omega)), rfl, by simp [hos], hlm.append (Lm.single hX.1 hX.2), by omega, hv2, hl3⟩
  ·
   have gm := getD_ge (zs := dg m) (k := k) (by omega)
   refine sx_skip ?_
   refine q_n (k14 _ _ ?_)
   refine sx_seq fun K32 k32 => ?_
   refine sx_seq fun K33 k33 => sx_region ?_
   refine sm rfl rfl rfl rfl ?_
   refine sm rfl rfl rfl rfl ?_
   have f34 := hvb0.ext cs3
   have f35 := f34.chg cwl7 (by omega)
   refine sx_pure rfl rfl rfl (px_len rfl Tryz.underlying22 f35) ?_
   refine sx_pure rfl rfl rfl (px_lt rfl rfl) ?_
   refine wl_nil (q_n (k33 _ _ ?_))
   refine sx_sub (Sub.cons (t := 0) rfl (.cons (t := 1) rfl (.cons (t := 5) rfl (.cons (t := 6) rfl (.cons (t := 7) rfl (.cons (t := 8) rfl (.cons (t := 40) rfl (.nil)))))))) ?_
   refine sx_condP rfl (fun h87 => ?_) (fun h87 => ?_)
   ·
    refine sx_region ?_
    refine sm rfl rfl rfl rfl ?_
    refine sm rfl rfl rfl rfl ?_
    refine sm rfl rfl rfl rfl ?_
    refine sx_pure rfl rfl rfl (px_index1 (j := k) rfl rfl (by omega) Tryz.underlying22 Tryz.sizeOf3 f35 (by omega)) ?_
    refine sx_pure rfl rfl rfl (px_load rfl (f35.load1 (at_int (by omega)) Tryz.isAgg3)) ?_
    refine sx_pure rfl rfl rfl (px_add rfl rfl (by omega)) ?_
    refine sa rfl rfl rfl rfl ?_
    refine wl_nil (q_n (k32 _ _ ?_))
    refine sx_seq fun K36 k36 => sx_region ?_
    refine sm rfl rfl rfl rfl ?_
    refine sm rfl rfl rfl rfl ?_
    refine sx_pure rfl rfl rfl (px_rem rfl rfl (by omega) (by omega)) ?_
    refine sx_lit1 rfl xelt22 rfl rfl (fun s37 ws37 ss37 fs37 cs37 => ?_)
    have ns37 := Own.norm (f := (Value.int .i64)) (zs := [(((c : Nat) : Int) + ((dg n).getD k 0)) % 1000000000]) fs37
    have zws37 := cs37.size
    have f39 := hs_s.ext cs37
    refine sx_append rfl xelt22 rfl rfl f39 ns37.sv one_int (by omega) (by simp only [List.length_cons, List.length_nil]; omega) (by unfold maxLen; simp only [List.length_cons, List.length_nil]; omega) (fun a38 w38 fw38 cw38 => ?_)
    have nw38 := Own.app (f := (Value.int .i64)) (a := os) (b := [(((c : Nat) : Int) + ((dg n).getD k 0)) % 1000000000]) fw38
    have zw38 := cw38.size
    refine sa rfl rfl rfl rfl ?_
    refine wl_nil (q_n (k36 _ _ ?_))
    refine sx_sub (Sub.cons (t := 0) rfl (.cons (t := 1) rfl (.cons (t := 5) rfl (.cons (t := 6) rfl (.cons (t := 7) rfl (.cons (t := 8) rfl (.nil))))))) ?_
    refine sx_region ?_
    refine sm rfl rfl rfl rfl ?_
    refine sx_pure rfl rfl rfl (px_quo rfl rfl (by omega) (by omega) (by omega)) ?_
    refine sa rfl rfl rfl rfl ?_
    refine wl_nil ?_
    refine q_bn (q_n (k12 _ _ ?_))
    refine sx_region ?_
    refine sm rfl rfl rfl rfl ?_
    refine sx_pure rfl rfl rfl (px_add rfl rfl (by omega)) ?_
    refine sa rfl rfl rfl rfl ?_
    refine wl_nil ?_
    have q40 := Chg.step (l := w.heap.size) (h := ws3.heap.size) cwl7 cs37 (by omega)
    have q41 := Chg.step (l := w.heap.size) (h := ws3.heap.size) q40 cw38 (by omega)
    have hs : ((((c : Nat) : Int) + ((dg n).getD k 0)) : Int) = ((c : Nat) : Int) + (((dg m).getD k 0).toNat : Nat) + (((dg n).getD k 0).toNat : Nat) := by omega
    have hv2 : vl (os ++ [((((c : Nat) : Int) + ((dg n).getD k 0))) % 1000000000]) + Bs ^ (k + 1) * (((((c : Nat) : Int) + ((dg n).getD k 0))) / 1000000000 : Int).toNat = vl ((dg m).take (k + 1)) + vl ((dg n).take (k + 1)) := by
     rw [vl_concat, hos, vl_take_succ', vl_take_succ', Nat.pow_succ]
     exact add_step hs hv
    have hX := mod_bd (s := (((c : Nat) : Int) + ((dg n).getD k 0))) (by omega)
    have hl3 : k + 1 ≤ max (dg m).length (dg n).length ∨ ((((((c : Nat) : Int) + ((dg n).getD k 0))) / 1000000000 : Int).toNat = 0 ∧ k + 1 = max (dg m).length (dg n).length + 1 ∧ Bs ^ (k + 1 - 1) ≤ vl (os ++ [((((c : Nat) : Int) + ((dg n).getD k 0))) % 1000000000])) := by
     by_cases hkM : k + 1 ≤ max (dg m).length (dg n).length
     · exact .inl hkM
     · first
      | (exfalso; omega)
      | (refine .inr ⟨by omega, by omega, ?_⟩; rw [vl_concat, hos, Nat.add_sub_cancel, show ((((c : Nat) : Int) + ((dg n).getD k 0))) % 1000000000 = 1 by omega]; exact Nat.le_trans (by simp) (Nat.le_add_left _ _))
    exact fun a ha => ⟨_, by omega, (k + 1), a38, (os ++ ([(((c : Nat) : Int) + ((dg n).getD k 0)) % 1000000000])), (((((c : Nat) : Int) + ((dg n).getD k 0))) / 1000000000 : Int).toNat, ha.sub (Sub.cons (t := 0) rfl (.cons (t := 1) rfl (.cons (t := 5) rfl (.cons (t := 6) (look_int (t := 6) rfl (by first | omega | simp)) (.cons (t := 7) (look_int (t := 7) rfl (by first | omega | simp)) (.nil)))))), q41, (nw38.mono (by omega) (by omega)), rfl, by simp [hos], hlm.append (Lm.single hX.1 hX.2), by omega, hv2, hl3⟩
   ·
    have gn := getD_ge (zs := dg n) (k := k) (by omega)
    refine sx_skip ?_
    refine q_n (k32 _ _ ?_)
    refine sx_seq fun K42 k42 => sx_region ?_
    refine sm rfl rfl rfl rfl ?_
    refine sm rfl rfl rfl rfl ?_
    refine sx_pure rfl rfl rfl (px_rem rfl rfl (by omega) (by omega)) ?_
    refine sx_lit1 rfl xelt22 rfl rfl (fun s43 ws43 ss43 fs43 cs43 => ?_)
    have ns43 := Own.norm (f := (Value.int .i64)) (zs := [((c : Nat) : Int) % 1000000000]) fs43
    have zws43 := cs43.size
    have f45 := hs_s.ext cs43
    refine sx_append rfl xelt22 rfl rfl f45 ns43.sv one_int (by omega) (by simp only [List.length_cons, List.length_nil]; omega) (by unfold maxLen; simp only [List.length_cons, List.length_nil]; omega) (fun a44 w44 fw44 cw44 => ?_)
    have nw44 := Own.app (f := (Value.int .i64)) (a := os) (b := [((c : Nat) : Int) % 1000000000]) fw44
    have zw44 := cw44.size
    refine sa rfl rfl rfl rfl ?_
    refine wl_nil (q_n (k42 _ _ ?_))
    refine sx_region ?_
    refine sm rfl rfl rfl rfl ?_
    refine sx_pure rfl rfl rfl (px_quo rfl rfl (by omega) (by omega) (by omega)) ?_
    refine sa rfl rfl rfl rfl ?_
    refine wl_nil ?_
    refine q_bn (q_n (k12 _ _ ?_))
    refine sx_region ?_
    refine sm rfl rfl rfl rfl ?_
    refine sx_pure rfl rfl rfl (px_add rfl rfl (by omega)) ?_
    refine sa rfl rfl rfl rfl ?_
    refine wl_nil ?_
    have q46 := Chg.step (l := w.heap.size) (h := ws3.heap.size) cwl7 cs43 (by omega)
    have q47 := Chg.step (l := w.heap.size) (h := ws3.heap.size) q46 cw44 (by omega)
    have hs : (((c : Nat) : Int) : Int) = ((c : Nat) : Int) + (((dg m).getD k 0).toNat : Nat) + (((dg n).getD k 0).toNat : Nat) := by omega
    have hv2 : vl (os ++ [(((c : Nat) : Int)) % 1000000000]) + Bs ^ (k + 1) * ((((c : Nat) : Int)) / 1000000000 : Int).toNat = vl ((dg m).take (k + 1)) + vl ((dg n).take (k + 1)) := by
     rw [vl_concat, hos, vl_take_succ', vl_take_succ', Nat.pow_succ]
     exact add_step hs hv
    have hX := mod_bd (s := ((c : Nat) : Int)) (by omega)
    have hl3 : k + 1 ≤ max (dg m).length (dg n).length ∨ (((((c : Nat) : Int)) / 1000000000 : Int).toNat = 0 ∧ k + 1 = max (dg m).length (dg n).length + 1 ∧ Bs ^ (k + 1 - 1) ≤ vl (os ++ [(((c : Nat) : Int)) % 1000000000])) := by
     by_cases hkM : k + 1 ≤ max (dg m).length (dg n).length
     · exact .inl hkM
     · first
      | (exfalso; omega)
      | (refine .inr ⟨by omega, by omega, ?_⟩; rw [vl_concat, hos, Nat.add_sub_cancel, show (((c : Nat) : Int)) % 1000000000 = 1 by omega]; exact Nat.le_trans (by simp) (Nat.le_add_left _ _))
    exact fun a ha => ⟨_, by omega, (k + 1), a44, (os ++ ([((c : Nat) : Int) % 1000000000])), ((((c : Nat) : Int)) / 1000000000 : Int).toNat, ha.sub (Sub.cons (t := 0) rfl (.cons (t := 1) rfl (.cons (t := 5) rfl (.cons (t := 6) (look_int (t := 6) rfl (by first | omega | simp)) (.cons (t := 7) (look_int (t := 7) rfl (by first | omega | simp)) (.nil)))))), q47, (nw44.mono (by omega) (by omega)), rfl, by simp [hos], hlm.append (Lm.single hX.1 hX.2), by omega, hv2, hl3⟩
 ·
  refine sx_guardT rfl rfl rfl ?_
  refine sm rfl rfl rfl rfl ?_
  refine sx_guardT rfl rfl rfl ?_
  refine sm rfl rfl rfl rfl ?_
  refine sx_guardT rfl rfl rfl ?_
  have f48 := hvb0.ext cs3
  have f49 := f48.chg cwl7 (by omega)
  refine sx_pure rfl rfl rfl (px_len rfl Tryz.underlying22 f49) ?_
  refine sx_guardT rfl rfl rfl ?_
  refine sx_pure rfl rfl rfl (px_lt rfl rfl) ?_
  refine sx_pure rfl rfl rfl (px_pick rfl rfl) ?_
  refine sm rfl rfl rfl rfl ?_
  refine sx_tmpP (t := 20) rfl (fun h82x1 => ?_) (fun h82x1 => ?_)
  ·
   refine sx_guardF rfl rfl rfl rfl rfl rfl ?_
   refine sx_guardF rfl rfl rfl rfl rfl rfl ?_
   refine sx_pure rfl rfl rfl (px_pick rfl rfl) ?_
   refine wl_nil (q_n (k9 _ _ ?_))
   refine sx_sub (Sub.cons (t := 0) rfl (.cons (t := 1) rfl (.cons (t := 5) rfl (.cons (t := 6) rfl (.cons (t := 7) rfl (.cons (t := 23) rfl (.nil))))))) ?_
   refine sx_condT rfl ?_
   refine sx_skip ?_
   refine q_n (k8 _ _ ?_)
   refine sx_seq fun K50 k50 => ?_
   refine sx_block ?_
   refine sx_seq fun K51 k51 => sx_region ?_
   refine sm rfl rfl rfl rfl ?_
   refine sa rfl rfl rfl rfl ?_
   refine wl_nil (q_n (k51 _ _ ?_))
   refine sx_seq fun K52 k52 => ?_
   refine sx_seq fun K53 k53 => sx_region ?_
   refine sm rfl rfl rfl rfl ?_
   refine sm rfl rfl rfl rfl ?_
   refine sx_pure rfl rfl rfl (px_len rfl Tryz.underlying22 f11) ?_
   refine sx_pure rfl rfl rfl (px_lt rfl rfl) ?_
   refine wl_nil (q_n (k53 _ _ ?_))
   refine sx_condP rfl (fun h84 => ?_) (fun h84 => ?_)
   ·
    refine sx_region ?_
    refine sm rfl rfl rfl rfl ?_
    refine sm rfl rfl rfl rfl ?_
    refine sm rfl rfl rfl rfl ?_
    refine sx_pure rfl rfl rfl (px_index1 (j := k) rfl rfl (by omega) Tryz.underlying22 Tryz.sizeOf3 f11 (by omega)) ?_
    refine sx_pure rfl rfl rfl (px_load rfl (f11.load1 (at_int (by omega)) Tryz.isAgg3)) ?_
    refine sx_pure rfl rfl rfl (px_add rfl rfl (by omega)) ?_
    refine sa rfl rfl rfl rfl ?_
    refine wl_nil (q_n (k52 _ _ ?_))
    refine sx_sub (Sub.cons (t := 0) rfl (.cons (t := 1) rfl (.cons (t := 5) rfl (.cons (t := 6) rfl (.cons (t := 7) rfl (.cons (t := 8) rfl (.nil))))))) ?_
    refine sx_seq fun K54 k54 => ?_
    refine sx_seq fun K55 k55 => sx_region ?_
    refine sm rfl rfl rfl rfl ?_
    refine sm rfl rfl rfl rfl ?_
    refine sx_pure rfl rfl rfl (px_len rfl Tryz.underlying22 f49) ?_
    refine sx_pure rfl rfl rfl (px_lt rfl rfl) ?_
    refine wl_nil (q_n (k55 _ _ ?_))
    refine sx_condP rfl (fun h87 => ?_) (fun h87 => ?_)
    ·
     refine sx_region ?_
     refine sm rfl rfl rfl rfl ?_
     refine sm rfl rfl rfl rfl ?_
     refine sm rfl rfl rfl rfl ?_
     refine sx_pure rfl rfl rfl (px_index1 (j := k) rfl rfl (by omega) Tryz.underlying22 Tryz.sizeOf3 f49 (by omega)) ?_
     refine sx_pure rfl rfl rfl (px_load rfl (f49.load1 (at_int (by omega)) Tryz.isAgg3)) ?_
     refine sx_pure rfl rfl rfl (px_add rfl rfl (by omega)) ?_
     refine sa rfl rfl rfl rfl ?_
     refine wl_nil (q_n (k54 _ _ ?_))
     refine sx_sub (Sub.cons (t := 0) rfl (.cons (t := 1) rfl (.cons (t := 5) rfl (.cons (t := 6) rfl (.cons (t := 7) rfl (.cons (t := 8) rfl (.nil))))))) ?_
     refine sx_seq fun K56 k56 => sx_region ?_
     refine sm rfl rfl rfl rfl ?_
     refine sm rfl rfl rfl rfl ?_
     refine sx_pure rfl rfl rfl (px_rem rfl rfl (by omega) (by omega)) ?_
     refine sx_lit1 rfl xelt22 rfl rfl (fun s57 ws57 ss57 fs57 cs57 => ?_)
     have ns57 := Own.norm (f := (Value.int .i64)) (zs := [((((c : Nat) : Int) + ((dg m).getD k 0)) + ((dg n).getD k 0)) % 1000000000]) fs57
     have zws57 := cs57.size
     have f59 := hs_s.ext cs57
     refine sx_append rfl xelt22 rfl rfl f59 ns57.sv one_int (by omega) (by simp only [List.length_cons, List.length_nil]; omega) (by unfold maxLen; simp only [List.length_cons, List.length_nil]; omega) (fun a58 w58 fw58 cw58 => ?_)
     have nw58 := Own.app (f := (Value.int .i64)) (a := os) (b := [((((c : Nat) : Int) + ((dg m).getD k 0)) + ((dg n).getD k 0)) % 1000000000]) fw58
     have zw58 := cw58.size
     refine sa rfl rfl rfl rfl ?_
     refine wl_nil (q_n (k56 _ _ ?_))
     refine sx_region ?_
     refine sm rfl rfl rfl rfl ?_
     refine sx_pure rfl rfl rfl (px_quo rfl rfl (by omega) (by omega) (by omega)) ?_
     refine sa rfl rfl rfl rfl ?_
     refine wl_nil ?_
     refine q_bn (q_n (k50 _ _ ?_))
     refine sx_region ?_
     refine sm rfl rfl rfl rfl ?_
     refine sx_pure rfl rfl rfl (px_add rfl rfl (by omega)) ?_
     refine sa rfl rfl rfl rfl ?_
     refine wl_nil ?_
     have q60 := Chg.step (l := w.heap.size) (h := ws3.heap.size) cwl7 cs57 (by omega)
     have q61 := Chg.step (l := w.heap.size) (h := ws3.heap.size) q60 cw58 (by omega)
     have hs : (((((c : Nat) : Int) + ((dg m).getD k 0)) + ((dg n).getD k 0)) : Int) = ((c : Nat) : Int) + (((dg m).getD k 0).toNat : Nat) + (((dg n).getD k 0).toNat : Nat) := by omega
     have hv2 : vl (os ++ [(((((c : Nat) : Int) + ((dg m).getD k 0)) + ((dg n).getD k 0))) % 1000000000]) + Bs ^ (k + 1) * ((((((c : Nat) : Int) + ((dg m).getD k 0)) + ((dg n).getD k 0))) / 1000000000 : Int).toNat = vl ((dg m).take (k + 1)) + vl ((dg n).take (k + 1)) := by
      rw [vl_concat, hos, vl_take_succ', vl_take_succ', Nat.pow_succ]
      exact add_step hs hv
     have hX := mod_bd (s := ((((c : Nat) : Int) + ((dg m).getD k 0)) + ((dg n).getD k 0))) (by omega)
     have hl3 : k + 1 ≤ max (dg m).length (dg n).length ∨ (((((((c : Nat) : Int) + ((dg m).getD k 0)) + ((dg n).getD k 0))) / 1000000000 : Int).toNat = 0 ∧ k + 1 = max (dg m).length (dg n).length + 1 ∧ Bs ^ (k + 1 - 1) ≤ vl (os ++ [(((((c : Nat) : Int) + ((dg m).getD k 0)) + ((dg n).getD k 0))) % 1000000000])) := by
      by_cases hkM : k + 1 ≤ max (dg m).length (dg n).length
      · exact .inl hkM
      · first
       | (exfalso; omega)
       | (refine .inr ⟨by omega, by omega, ?_⟩; rw [vl_concat, hos, Nat.add_sub_cancel, show (((((c : Nat) : Int) + ((dg m).getD k 0)) + ((dg n).getD k 0))) % 1000000000 = 1 by omega]; exact Nat.le_trans (by simp) (Nat.le_add_left _ _))
     exact fun a ha => ⟨_, by omega, (k + 1), a58, (os ++ ([((((c : Nat) : Int) + ((dg m).getD k 0)) + ((dg n).getD k 0)) % 1000000000])), ((((((c : Nat) : Int) + ((dg m).getD k 0)) + ((dg n).getD k 0))) / 1000000000 : Int).toNat, ha.sub (Sub.cons (t := 0) rfl (.cons (t := 1) rfl (.cons (t := 5) rfl (.cons (t := 6) (look_int (t := 6) rfl (by first | omega | simp)) (.cons (t := 7) (look_int (t := 7) rfl (by first | omega | simp)) (.nil)))))), q61, (nw58.mono (by omega) (by omega)), rfl, by simp [hos], hlm.append (Lm.single hX.1 hX.2), by omega, hv2, hl3⟩
    ·
     have gn := getD_ge (zs := dg n) (k := k) (by omega)
     refine sx_skip ?_
     refine q_n (k54 _ _ ?_)
     refine sx_seq fun K62 k62 => sx_region ?_
     refine sm rfl rfl rfl rfl ?_
     refine sm rfl rfl rfl rfl ?_
     refine sx_pure rfl rfl rfl (px_rem rfl rfl (by omega) (by omega)) ?_
     refine sx_lit1 rfl xelt22 rfl rfl (fun s63 ws63 ss63 fs63 cs63 => ?_)
     have ns63 := Own.norm (f := (Value.int .i64)) (zs := [(((c : Nat) : Int) + ((dg m).getD k 0)) % 1000000000]) fs63
     have zws63 := cs63.size
     have f65 := hs_s.ext cs63
     refine sx_append rfl xelt22 rfl rfl f65 ns63.sv one_int (by omega) (by simp only [List.length_cons, List.length_nil]; omega) (by unfold maxLen; simp only [List.length_cons, List.length_nil]; omega) (fun a64 w64 fw64 cw64 => ?_)
     have nw64 := Own.app (f := (Value.int .i64)) (a := os) (b := [(((c : Nat) : Int) + ((dg m).getD k 0)) % 1000000000]) fw64
     have zw64 := cw64.size
     refine sa rfl rfl rfl rfl ?_
     refine wl_nil (q_n (k62 _ _ ?_))
     refine sx_sub (Sub.cons (t := 0) rfl (.cons (t := 1) rfl (.cons (t := 5) rfl (.cons (t := 6) rfl (.cons (t := 7) rfl (.cons (t := 8) rfl (.nil))))))) ?_
     refine sx_region ?_
     refine sm rfl rfl rfl rfl ?_
     refine sx_pure rfl rfl rfl (px_quo rfl rfl (by omega) (by omega) (by omega)) ?_
     refine sa rfl rfl rfl rfl ?_
     refine wl_nil ?_
     refine q_bn (q_n (k50 _ _ ?_))
     refine sx_region ?_
     refine sm rfl rfl rfl rfl ?_
     refine sx_pure rfl rfl rfl (px_add rfl rfl (by omega)) ?_
     refine sa rfl rfl rfl rfl ?_
     refine wl_nil ?_
     have q66 := Chg.step (l := w.heap.size) (h := ws3.heap.size) cwl7 cs63 (by omega)
     have q67 := Chg.step (l := w.heap.size) (h := ws3.heap.size) q66 cw64 (by omega)
     have hs : ((((c : Nat) : Int) + ((dg m).getD k 0)) : Int) = ((c : Nat) : Int) + (((dg m).getD k 0).toNat : Nat) + (((dg n).getD k 0).toNat : Nat) := by omega
     have hv2 : vl (os ++ [((((c : Nat) : Int) + ((dg m).getD k 0))) % 1000000000]) + Bs ^ (k + 1) * (((((c : Nat) : Int) + ((dg m).getD k 0))) / 1000000000 : Int).toNat = vl ((dg m).take (k + 1)) + vl ((dg n).take (k + 1)) := by
      rw [vl_concat, hos, vl_take_succ', vl_take_succ', Nat.pow_succ]
      exact add_step hs hv
     have hX := mod_bd (s := (((c : Nat) : Int) + ((dg m).getD k 0))) (by omega)
     have hl3 : k + 1 ≤ max (dg m).length (dg n).length ∨ ((((((c : Nat) : Int) + ((dg m).getD k 0))) / 1000000000 : Int).toNat = 0 ∧ k + 1 = max (dg m).length (dg n).length + 1 ∧ Bs ^ (k + 1 - 1) ≤ vl (os ++ [((((c : Nat) : Int) + ((dg m).getD k 0))) % 1000000000])) := by
      by_cases hkM : k + 1 ≤ max (dg m).length (dg n).length
      · exact .inl hkM
      · first
       | (exfalso; omega)
       | (refine .inr ⟨by omega, by omega, ?_⟩; rw [vl_concat, hos, Nat.add_sub_cancel, show ((((c : Nat) : Int) + ((dg m).getD k 0))) % 1000000000 = 1 by omega]; exact Nat.le_trans (by simp) (Nat.le_add_left _ _))
     exact fun a ha => ⟨_, by omega, (k + 1), a64, (os ++ ([(((c : Nat) : Int) + ((dg m).getD k 0)) % 1000000000])), (((((c : Nat) : Int) + ((dg m).getD k 0))) / 1000000000 : Int).toNat, ha.sub (Sub.cons (t := 0) rfl (.cons (t := 1) rfl (.cons (t := 5) rfl (.cons (t := 6) (look_int (t := 6) rfl (by first | omega | simp)) (.cons (t := 7) (look_int (t := 7) rfl (by first | omega | simp)) (.nil)))))), q67, (nw64.mono (by omega) (by omega)), rfl, by simp [hos], hlm.append (Lm.single hX.1 hX.2), by omega, hv2, hl3⟩
   ·
    have gm := getD_ge (zs := dg m) (k := k) (by omega)
    refine sx_skip ?_
    refine q_n (k52 _ _ ?_)
    refine sx_seq fun K68 k68 => ?_
    refine sx_seq fun K69 k69 => sx_region ?_
    refine sm rfl rfl rfl rfl ?_
    refine sm rfl rfl rfl rfl ?_
    refine sx_pure rfl rfl rfl (px_len rfl Tryz.underlying22 f49) ?_
    refine sx_pure rfl rfl rfl (px_lt rfl rfl) ?_
    refine wl_nil (q_n (k69 _ _ ?_))
    refine sx_sub (Sub.cons (t := 0) rfl (.cons (t := 1) rfl (.cons (t := 5) rfl (.cons (t := 6) rfl (.cons (t := 7) rfl (.cons (t := 8) rfl (.cons (t := 40) rfl (.nil)))))))) ?_
    refine sx_condP rfl (fun h87 => ?_) (fun h87 => ?_)
    ·
     refine sx_region ?_
     refine sm rfl rfl rfl rfl ?_
     refine sm rfl rfl rfl rfl ?_
     refine sm rfl rfl rfl rfl ?_
     refine sx_pure rfl rfl rfl (px_index1 (j := k) rfl rfl (by omega) Tryz.underlying22 Tryz.sizeOf3 f49 (by omega)) ?_
     refine sx_pure rfl rfl rfl (px_load rfl (f49.load1 (at_int (by omega)) Tryz.isAgg3)) ?_
     refine sx_pure rfl rfl rfl (px_add rfl rfl (by omega)) ?_
     refine sa rfl rfl rfl rfl ?_
     refine wl_nil (q_n (k68 _ _ ?_))
     refine sx_seq fun K70 k70 => sx_region ?_
     refine sm rfl rfl rfl rfl ?_
     refine sm rfl rfl rfl rfl ?_
     refine sx_pure rfl rfl rfl (px_rem rfl rfl (by omega) (by omega)) ?_
     refine sx_lit1 rfl xelt22 rfl rfl (fun s71 ws71 ss71 fs71 cs71 => ?_)
     have ns71 := Own.norm (f := (Value.int .i64)) (zs := [(((c : Nat) : Int) + ((dg n).getD k 0)) % 1000000000]) fs71
     have zws71 := cs71.size
     have f73 := hs_s.ext cs71
     refine sx_append rfl xelt22 rfl rfl f73 ns71.sv one_int (by omega) (by simp only [List.length_cons, List.length_nil]; omega) (by unfold maxLen; simp only [List.length_cons, List.length_nil]; omega) (fun a72 w72 fw72 cw72 => ?_)
     have nw72 := Own.app (f := (Value.int .i64)) (a := os) (b := [(((c : Nat) : Int) + ((dg n).getD k 0)) % 1000000000]) fw72
     have zw72 := cw72.size
     refine sa rfl rfl rfl rfl ?_
     refine wl_nil (q_n (k70 _ _ ?_))
     refine sx_sub (Sub.cons (t := 0) rfl (.cons (t := 1) rfl (.cons (t := 5) rfl (.cons (t := 6) rfl (.cons (t := 7) rfl (.cons (t := 8) rfl (.nil))))))) ?_
     refine sx_region ?_
     refine sm rfl rfl rfl rfl ?_
     refine sx_pure rfl rfl rfl (px_quo rfl rfl (by omega) (by omega) (by omega)) ?_
     refine sa rfl rfl rfl rfl ?_
     refine wl_nil ?_
     refine q_bn (q_n (k50 _ _ ?_))
     refine sx_region ?_
     refine sm rfl rfl rfl rfl ?_
     refine sx_pure rfl rfl rfl (px_add rfl rfl (by omega)) ?_
     refine sa rfl rfl rfl rfl ?_
     refine wl_nil ?_
     have q74 := Chg.step (l := w.heap.size) (h := ws3.heap.size) cwl7 cs71 (by omega)
     have q75 := Chg.step (l := w.heap.size) (h := ws3.heap.size) q74 cw72 (by omega)
     have hs : ((((c : Nat) : Int) + ((dg n).getD k 0)) : Int) = ((c : Nat) : Int) + (((dg m).getD k 0).toNat : Nat) + (((dg n).getD k 0).toNat : Nat) := by omega
     have hv2 : vl (os ++ [((((c : Nat) : Int) + ((dg n).getD k 0))) % 1000000000]) + Bs ^ (k + 1) * (((((c : Nat) : Int) + ((dg n).getD k 0))) / 1000000000 : Int).toNat = vl ((dg m).take (k + 1)) + vl ((dg n).take (k + 1)) := by
      rw [vl_concat, hos, vl_take_succ', vl_take_succ', Nat.pow_succ]
      exact add_step hs hv
     have hX := mod_bd (s := (((c : Nat) : Int) + ((dg n).getD k 0))) (by omega)
     have hl3 : k + 1 ≤ max (dg m).length (dg n).length ∨ ((((((c : Nat) : Int) + ((dg n).getD k 0))) / 1000000000 : Int).toNat = 0 ∧ k + 1 = max (dg m).length (dg n).length + 1 ∧ Bs ^ (k + 1 - 1) ≤ vl (os ++ [((((c : Nat) : Int) + ((dg n).getD k 0))) % 1000000000])) := by
      by_cases hkM : k + 1 ≤ max (dg m).length (dg n).length
      · exact .inl hkM
      · first
       | (exfalso; omega)
       | (refine .inr ⟨by omega, by omega, ?_⟩; rw [vl_concat, hos, Nat.add_sub_cancel, show ((((c : Nat) : Int) + ((dg n).getD k 0))) % 1000000000 = 1 by omega]; exact Nat.le_trans (by simp) (Nat.le_add_left _ _))
     exact fun a ha => ⟨_, by omega, (k + 1), a72, (os ++ ([(((c : Nat) : Int) + ((dg n).getD k 0)) % 1000000000])), (((((c : Nat) : Int) + ((dg n).getD k 0))) / 1000000000 : Int).toNat, ha.sub (Sub.cons (t := 0) rfl (.cons (t := 1) rfl (.cons (t := 5) rfl (.cons (t := 6) (look_int (t := 6) rfl (by first | omega | simp)) (.cons (t := 7) (look_int (t := 7) rfl (by first | omega | simp)) (.nil)))))), q75, (nw72.mono (by omega) (by omega)), rfl, by simp [hos], hlm.append (Lm.single hX.1 hX.2), by omega, hv2, hl3⟩
    ·
     have gn := getD_ge (zs := dg n) (k := k) (by omega)
     refine sx_skip ?_
     refine q_n (k68 _ _ ?_)
     refine sx_seq fun K76 k76 => sx_region ?_
     refine sm rfl rfl rfl rfl ?_
     refine sm rfl rfl rfl rfl ?_
     refine sx_pure rfl rfl rfl (px_rem rfl rfl (by omega) (by omega)) ?_
     refine sx_lit1 rfl xelt22 rfl rfl (fun s77 ws77 ss77 fs77 cs77 => ?_)
     have ns77 := Own.norm (f := (Value.int .i64)) (zs := [((c : Nat) : Int) % 1000000000]) fs77
     have zws77 := cs77.size
     have f79 := hs_s.ext cs77
     refine sx_append rfl xelt22 rfl rfl f79 ns77.sv one_int (by omega) (by simp only [List.length_cons, List.length_nil]; omega) (by unfold maxLen; simp only [List.length_cons, List.length_nil]; omega) (fun a78 w78 fw78 cw78 => ?_)
     have nw78 := Own.app (f := (Value.int .i64)) (a := os) (b := [((c : Nat) : Int) % 1000000000]) fw78
     have zw78 := cw78.size
     refine sa rfl rfl rfl rfl ?_
     refine wl_nil (q_n (k76 _ _ ?_))
     refine sx_region ?_
     refine sm rfl rfl rfl rfl ?_
     refine sx_pure rfl rfl rfl (px_quo rfl rfl (by omega) (by omega) (by omega)) ?_
     refine sa rfl rfl rfl rfl ?_
     refine wl_nil ?_
     refine q_bn (q_n (k50 _ _ ?_))
     refine sx_region ?_
     refine sm rfl rfl rfl rfl ?_
     refine sx_pure rfl rfl rfl (px_add rfl rfl (by omega)) ?_
     refine sa rfl rfl rfl rfl ?_
     refine wl_nil ?_
     have q80 := Chg.step (l := w.heap.size) (h := ws3.heap.size) cwl7 cs77 (by omega)
     have q81 := Chg.step (l := w.heap.size) (h := ws3.heap.size) q80 cw78 (by omega)
     have hs : (((c : Nat) : Int) : Int) = ((c : Nat) : Int) + (((dg m).getD k 0).toNat : Nat) + (((dg n).getD k 0).toNat : Nat) := by omega
     have hv2 : vl (os ++ [(((c : Nat) : Int)) % 1000000000]) + Bs ^ (k + 1) * ((((c : Nat) : Int)) / 1000000000 : Int).toNat = vl ((dg m).take (k + 1)) + vl ((dg n).take (k + 1)) := by
      rw [vl_concat, hos, vl_take_succ', vl_take_succ', Nat.pow_succ]
      exact add_step hs hv
     have hX := mod_bd (s := ((c : Nat) : Int)) (by omega)
     have hl3 : k + 1 ≤ max (dg m).length (dg n).length ∨ (((((c : Nat) : Int)) / 1000000000 : Int).toNat = 0 ∧ k + 1 = max (dg m).length (dg n).length + 1 ∧ Bs ^ (k + 1 - 1) ≤ vl (os ++ [(((c : Nat) : Int)) % 1000000000])) := by
      by_cases hkM : k + 1 ≤ max (dg m).length (dg n).length
      · exact .inl hkM
      · first
       | (exfalso; omega)
       | (refine .inr ⟨by omega, by omega, ?_⟩; rw [vl_concat, hos, Nat.add_sub_cancel, show (((c : Nat) : Int)) % 1000000000 = 1 by omega]; exact Nat.le_trans (by simp) (Nat.le_add_left _ _))
     exact fun a ha => ⟨_, by omega, (k + 1), a78, (os ++ ([((c : Nat) : Int) % 1000000000])), ((((c : Nat) : Int)) / 1000000000 : Int).toNat, ha.sub (Sub.cons (t := 0) rfl (.cons (t := 1) rfl (.cons (t := 5) rfl (.cons (t := 6) (look_int (t := 6) rfl (by first | omega | simp)) (.cons (t := 7) (look_int (t := 7) rfl (by first | omega | simp)) (.nil)))))), q81, (nw78.mono (by omega) (by omega)), rfl, by simp [hos], hlm.append (Lm.single hX.1 hX.2), by omega, hv2, hl3⟩
  ·
   refine sx_guardT rfl rfl rfl ?_
   refine sm rfl rfl rfl rfl ?_
   refine sx_guardT rfl rfl rfl ?_
   refine sx_pure rfl rfl rfl (px_gt rfl rfl) ?_
   refine sx_pure rfl rfl rfl (px_pick rfl rfl) ?_
   refine wl_nil (q_n (k9 _ _ ?_))
   refine sx_sub (Sub.cons (t := 0) rfl (.cons (t := 1) rfl (.cons (t := 5) rfl (.cons (t := 6) rfl (.cons (t := 7) rfl (.cons (t := 23) rfl (.nil))))))) ?_
   refine sx_condP rfl (fun h82x2 => ?_) (fun h82x2 => ?_)
   ·
    refine sx_skip ?_
    refine q_n (k8 _ _ ?_)
    refine sx_seq fun K82 k82 => ?_
    refine sx_block ?_
    refine sx_seq fun K83 k83 => sx_region ?_
    refine sm rfl rfl rfl rfl ?_
    refine sa rfl rfl rfl rfl ?_
    refine wl_nil (q_n (k83 _ _ ?_))
    refine sx_seq fun K84 k84 => ?_
    refine sx_seq fun K85 k85 => sx_region ?_
    refine sm rfl rfl rfl rfl ?_
    refine sm rfl rfl rfl rfl ?_
    refine sx_pure rfl rfl rfl (px_len rfl Tryz.underlying22 f11) ?_
    refine sx_pure rfl rfl rfl (px_lt rfl rfl) ?_
    refine wl_nil (q_n (k85 _ _ ?_))
    refine sx_condP rfl (fun h84 => ?_) (fun h84 => ?_)
    ·
     refine sx_region ?_
     refine sm rfl rfl rfl rfl ?_
     refine sm rfl rfl rfl rfl ?_
     refine sm rfl rfl rfl rfl ?_
     refine sx_pure rfl rfl rfl (px_index1 (j := k) rfl rfl (by omega) Tryz.underlying22 Tryz.sizeOf3 f11 (by omega)) ?_
     refine sx_pure rfl rfl rfl (px_load rfl (f11.load1 (at_int (by omega)) Tryz.isAgg3)) ?_
     refine sx_pure rfl rfl rfl (px_add rfl rfl (by omega)) ?_
     refine sa rfl rfl rfl rfl ?_
     refine wl_nil (q_n (k84 _ _ ?_))
     refine sx_sub (Sub.cons (t := 0) rfl (.cons (t := 1) rfl (.cons (t := 5) rfl (.cons (t := 6) rfl (.cons (t := 7) rfl (.cons (t := 8) rfl (.nil))))))) ?_
     refine sx_seq fun K86 k86 => ?_
     refine sx_seq fun K87 k87 => sx_region ?_
     refine sm rfl rfl rfl rfl ?_
     refine sm rfl rfl rfl rfl ?_
     refine sx_pure rfl rfl rfl (px_len rfl Tryz.underlying22 f49) ?_
     refine sx_pure rfl rfl rfl (px_lt rfl rfl) ?_
     refine wl_nil (q_n (k87 _ _ ?_))
     refine sx_condP rfl (fun h87 => ?_) (fun h87 => ?_)
     ·
      refine sx_region ?_
      refine sm rfl rfl rfl rfl ?_
      refine sm rfl rfl rfl rfl ?_
      refine sm rfl rfl rfl rfl ?_
      refine sx_pure rfl rfl rfl (px_index1 (j := k) rfl rfl (by omega) Tryz.underlying22 Tryz.sizeOf3 f49 (by omega)) ?_
      refine sx_pure rfl rfl rfl (px_load rfl (f49.load1 (at_int (by omega)) Tryz.isAgg3)) ?_
      refine sx_pure rfl rfl rfl (px_add rfl rfl (by omega)) ?_
      refine sa rfl rfl rfl rfl ?_
      refine wl_nil (q_n (k86 _ _ ?_))
      refine sx_sub (Sub.cons (t := 0) rfl (.cons (t := 1) rfl (.cons (t := 5) rfl (.cons (t := 6) rfl (.cons (t := 7) rfl (.cons (t := 8) rfl (.nil))))))) ?_
      refine sx_seq fun K88 k88 => sx_region ?_
      refine sm rfl rfl rfl rfl ?_
      refine sm rfl rfl rfl rfl ?_
      refine sx_pure rfl rfl rfl (px_rem rfl rfl (by omega) (by omega)) ?_
      refine sx_lit1 rfl xelt22 rfl rfl (fun s89 ws89 ss89 fs89 cs89 => ?_)
      have ns89 := Own.norm (f := (Value.int .i64)) (zs := [((((c : Nat) : Int) + ((dg m).getD k 0)) + ((dg n).getD k 0)) % 1000000000]) fs89
      have zws89 := cs89.size
      have f91 := hs_s.ext cs89
      refine sx_append rfl xelt22 rfl rfl f91 ns89.sv one_int (by omega) (by simp only [List.length_cons, List.length_nil]; omega) (by unfold maxLen; simp only [List.length_cons, List.length_nil]; omega) (fun a90 w90 fw90 cw90 => ?_)
      have nw90 := Own.app (f := (Value.int .i64)) (a := os) (b := [((((c : Nat) : Int) + ((dg m).getD k 0)) + ((dg n).getD k 0)) % 1000000000]) fw90
      have zw90 := cw90.size
      refine sa rfl rfl rfl rfl ?_
      refine wl_nil (q_n (k88 _ _ ?_))
      refine sx_region ?_
      refine sm rfl rfl rfl rfl ?_
      refine sx_pure rfl rfl rfl (px_quo rfl rfl (by omega) (by omega) (by omega)) ?_
      refine sa rfl rfl rfl rfl ?_
      refine wl_nil ?_
      refine q_bn (q_n (k82 _ _ ?_))
      refine sx_region ?_
      refine sm rfl rfl rfl rfl ?_
      refine sx_pure rfl rfl rfl (px_add rfl rfl (by omega)) ?_
      refine sa rfl rfl rfl rfl ?_
      refine wl_nil ?_
      have q92 := Chg.step (l := w.heap.size) (h := ws3.heap.size) cwl7 cs89 (by omega)
      have q93 := Chg.step (l := w.heap.size) (h := ws3.heap.size) q92 cw90 (by omega)
      have hs : (((((c : Nat) : Int) + ((dg m).getD k 0)) + ((dg n).getD k 0)) : Int) = ((c : Nat) : Int) + (((dg m).getD k 0).toNat : Nat) + (((dg n).getD k 0).toNat : Nat) := by omega
      have hv2 : vl (os ++ [(((((c : Nat) : Int) + ((dg m).getD k 0)) + ((dg n).getD k 0))) % 1000000000]) + Bs ^ (k + 1) * ((((((c : Nat) : Int) + ((dg m).getD k 0)) + ((dg n).getD k 0))) / 1000000000 : Int).toNat = vl ((dg m).take (k + 1)) + vl ((dg n).take (k + 1)) := by
       rw [vl_concat, hos, vl_take_succ', vl_take_succ', Nat.pow_succ]
       exact add_step hs hv
      have hX := mod_bd (s := ((((c : Nat) : Int) + ((dg m).getD k 0)) + ((dg n).getD k 0))) (by omega)
      have hl3 : k + 1 ≤ max (dg m).length (dg n).length ∨ (((((((c : Nat) : Int) + ((dg m).getD k 0)) + ((dg n).getD k 0))) / 1000000000 : Int).toNat = 0 ∧ k + 1 = max (dg m).length (dg n).length + 1 ∧ Bs ^ (k + 1 - 1) ≤ vl (os ++ [(((((c : Nat) : Int) + ((dg m).getD k 0)) + ((dg n).getD k 0))) % 1000000000])) := by
       by_cases hkM : k + 1 ≤ max (dg m).length (dg n).length
       · exact .inl hkM
       · first
        | (exfalso; omega)
        | (refine .inr ⟨by omega, by omega, ?_⟩; rw [vl_concat, hos, Nat.add_sub_cancel, show (((((c : Nat) : Int) + ((dg m).getD k 0)) + ((dg n).getD k 0))) % 1000000000 = 1 by omega]; exact Nat.le_trans (by simp) (Nat.le_add_left _ _))
      exact fun a ha => ⟨_, by omega, (k + 1), a90, (os ++ ([((((c : Nat) : Int) + ((dg m).getD k 0)) + ((dg n).getD k 0)) % 1000000000])), ((((((c : Nat) : Int) + ((dg m).getD k 0)) + ((dg n).getD k 0))) / 1000000000 : Int).toNat, ha.sub (Sub.cons (t := 0) rfl (.cons (t := 1) rfl (.cons (t := 5) rfl (.cons (t := 6) (look_int (t := 6) rfl (by first | omega | simp)) (.cons (t := 7) (look_int (t := 7) rfl (by first | omega | simp)) (.nil)))))), q93, (nw90.mono (by omega) (by omega)), rfl, by simp [hos], hlm.append (Lm.single hX.1 hX.2), by omega, hv2, hl3⟩
     ·
      have gn := getD_ge (zs := dg n) (k := k) (by omega)
      refine sx_skip ?_
      refine q_n (k86 _ _ ?_)
      refine sx_seq fun K94 k94 => sx_region ?_
      refine sm rfl rfl rfl rfl ?_
      refine sm rfl rfl rfl rfl ?_
      refine sx_pure rfl rfl rfl (px_rem rfl rfl (by omega) (by omega)) ?_
      refine sx_lit1 rfl xelt22 rfl rfl (fun s95 ws95 ss95 fs95 cs95 => ?_)
      have ns95 := Own.norm (f := (Value.int .i64)) (zs := [(((c : Nat) : Int) + ((dg m).getD k 0)) % 1000000000]) fs95
      have zws95 := cs95.size
      have f97 := hs_s.ext cs95
      refine sx_append rfl xelt22 rfl rfl f97 ns95.sv one_int (by omega) (by simp only [List.length_cons, List.length_nil]; omega) (by unfold maxLen; simp only [List.length_cons, List.length_nil]; omega) (fun a96 w96 fw96 cw96 => ?_)
      have nw96 := Own.app (f := (Value.int .i64)) (a := os) (b := [(((c : Nat) : Int) + ((dg m).getD k 0)) % 1000000000]) fw96
      have zw96 := cw96.size
      refine sa rfl rfl rfl rfl ?_
      refine wl_nil (q_n (k94 _ _ ?_))
      refine sx_sub (Sub.cons (t := 0) rfl (.cons (t := 1) rfl (.cons (t := 5) rfl (.cons (t := 6) rfl (.cons (t := 7) rfl (.cons (t := 8) rfl (.nil))))))) ?_
      refine sx_region ?_
      refine sm rfl rfl rfl rfl ?_
      refine sx_pure rfl rfl rfl (px_quo rfl rfl (by omega) (by omega) (by omega)) ?_
      refine sa rfl rfl rfl rfl ?_
      refine wl_nil ?_
      refine q_bn (q_n (k82 _ _ ?_))
      refine sx_region ?_
      refine sm rfl rfl rfl rfl ?_
      refine sx_pure rfl rfl rfl (px_add rfl rfl (by omega)) ?_
      refine sa rfl rfl rfl rfl ?_
      refine wl_nil ?_
      have q98 := Chg.step (l := w.heap.size) (h := ws3.heap.size) cwl7 cs95 (by omega)
      have q99 := Chg.step (l := w.heap.size) (h := ws3.heap.size) q98 cw96 (by omega)
      have hs : ((((c : Nat) : Int) + ((dg m).getD k 0)) : Int) = ((c : Nat) : Int) + (((dg m).getD k 0).toNat : Nat) + (((dg n).getD k 0).toNat : Nat) := by omega
      have hv2 : vl (os ++ [((((c : Nat) : Int) + ((dg m).getD k 0))) % 1000000000]) + Bs ^ (k + 1) * (((((c : Nat) : Int) + ((dg m).getD k 0))) / 1000000000 : Int).toNat = vl ((dg m).take (k + 1)) + vl ((dg n).take (k + 1)) := by
       rw [vl_concat, hos, vl_take_succ', vl_take_succ', Nat.pow_succ]
       exact add_step hs hv
      have hX := mod_bd (s := (((c : Nat) : Int) + ((dg m).getD k 0))) (by omega)
      have hl3 : k + 1 ≤ max (dg m).length (dg n).length ∨ ((((((c : Nat) : Int) + ((dg m).getD k 0))) / 1000000000 : Int).toNat = 0 ∧ k + 1 = max (dg m).length (dg n).length + 1 ∧ Bs ^ (k + 1 - 1) ≤ vl (os ++ [((((c : Nat) : Int) + ((dg m).getD k 0))) % 1000000000])) := by
       by_cases hkM : k + 1 ≤ max (dg m).length (dg n).length
       · exact .inl hkM
       · first
        | (exfalso; omega)
        | (refine .inr ⟨by omega, by omega, ?_⟩; rw [vl_concat, hos, Nat.add_sub_cancel, show ((((c : Nat) : Int) + ((dg m).getD k 0))) % 1000000000 = 1 by omega]; exact Nat.le_trans (by simp) (Nat.le_add_left _ _))
      exact fun a ha => ⟨_, by omega, (k + 1), a96, (os ++ ([(((c : Nat) : Int) + ((dg m).getD k 0)) % 1000000000])), (((((c : Nat) : Int) + ((dg m).getD k 0))) / 1000000000 : Int).toNat, ha.sub (Sub.cons (t := 0) rfl (.cons (t := 1) rfl (.cons (t := 5) rfl (.cons (t := 6) (look_int (t := 6) rfl (by first | omega | simp)) (.cons (t := 7) (look_int (t := 7) rfl (by first | omega | simp)) (.nil)))))), q99, (nw96.mono (by omega) (by omega)), rfl, by simp [hos], hlm.append (Lm.single hX.1 hX.2), by omega, hv2, hl3⟩
    ·
     have gm := getD_ge (zs := dg m) (k := k) (by omega)
     refine sx_skip ?_
     refine q_n (k84 _ _ ?_)
     refine sx_seq fun K100 k100 => ?_
     refine sx_seq fun K101 k101 => sx_region ?_
     refine sm rfl rfl rfl rfl ?_
     refine sm rfl rfl rfl rfl ?_
     refine sx_pure rfl rfl rfl (px_len rfl Tryz.underlying22 f49) ?_
     refine sx_pure rfl rfl rfl (px_lt rfl rfl) ?_
     refine wl_nil (q_n (k101 _ _ ?_))
     refine sx_sub (Sub.cons (t := 0) rfl (.cons (t := 1) rfl (.cons (t := 5) rfl (.cons (t := 6) rfl (.cons (t := 7) rfl (.cons (t := 8) rfl (.cons (t := 40) rfl (.nil)))))))) ?_
     refine sx_condP rfl (fun h87 => ?_) (fun h87 => ?_)
     ·
      refine sx_region ?_
      refine sm rfl rfl rfl rfl ?_
      refine sm rfl rfl rfl rfl ?_
      refine sm rfl rfl rfl rfl ?_
      refine sx_pure rfl rfl rfl (px_index1 (j := k) rfl rfl (by omega) Tryz.underlying22 Tryz.sizeOf3 f49 (by omega)) ?_
      refine sx_pure rfl rfl rfl (px_load rfl (f49.load1 (at_int (by omega)) Tryz.isAgg3)) ?_
      refine sx_pure rfl rfl rfl (px_add rfl rfl (by omega)) ?_
      refine sa rfl rfl rfl rfl ?_
      refine wl_nil (q_n (k100 _ _ ?_))
      refine sx_seq fun K102 k102 => sx_region ?_
      refine sm rfl rfl rfl rfl ?_
      refine sm rfl rfl rfl rfl ?_
      refine sx_pure rfl rfl rfl (px_rem rfl rfl (by omega) (by omega)) ?_
      refine sx_lit1 rfl xelt22 rfl rfl (fun s103 ws103 ss103 fs103 cs103 => ?_)
      have ns103 := Own.norm (f := (Value.int .i64)) (zs := [(((c : Nat) : Int) + ((dg n).getD k 0)) % 1000000000]) fs103
      have zws103 := cs103.size
      have f105 := hs_s.ext cs103
      refine sx_append rfl xelt22 rfl rfl f105 ns103.sv one_int (by omega) (by simp only [List.length_cons, List.length_nil]; omega) (by unfold maxLen; simp only [List.length_cons, List.length_nil]; omega) (fun a104 w104 fw104 cw104 => ?_)
      have nw104 := Own.app (f := (Value.int .i64)) (a := os) (b := [(((c : Nat) : Int) + ((dg n).getD k 0)) % 1000000000]) fw104
      have zw104 := cw104.size
      refine sa rfl rfl rfl rfl ?_
      refine wl_nil (q_n (k102 _ _ ?_))
      refine sx_sub (Sub.cons (t := 0) rfl (.cons (t := 1) rfl (.cons (t := 5) rfl (.cons (t := 6) rfl (.cons (t := 7) rfl (.cons (t := 8) rfl (.nil))))))) ?_
      refine sx_region ?_
      refine sm rfl rfl rfl rfl ?_
      refine sx_pure rfl rfl rfl (px_quo rfl rfl (by omega) (by omega) (by omega)) ?_
      refine sa rfl rfl rfl rfl ?_
      refine wl_nil ?_
      refine q_bn (q_n (k82 _ _ ?_))
      refine sx_region ?_
      refine sm rfl rfl rfl rfl ?_
      refine sx_pure rfl rfl rfl (px_add rfl rfl (by omega)) ?_
      refine sa rfl rfl rfl rfl ?_
      refine wl_nil ?_
      have q106 := Chg.step (l := w.heap.size) (h := ws3.heap.size) cwl7 cs103 (by omega)
      have q107 := Chg.step (l := w.heap.size) (h := ws3.heap.size) q106 cw104 (by omega)
      have hs : ((((c : Nat) : Int) + ((dg n).getD k 0)) : Int) = ((c : Nat) : Int) + (((dg m).getD k 0).toNat : Nat) + (((dg n).getD k 0).toNat : Nat) := by omega
      have hv2 : vl (os ++ [((((c : Nat) : Int) + ((dg n).getD k 0))) % 1000000000]) + Bs ^ (k + 1) * (((((c : Nat) : Int) + ((dg n).getD k 0))) / 1000000000 : Int).toNat = vl ((dg m).take (k + 1)) + vl ((dg n).take (k + 1)) := by
       rw [vl_concat, hos, vl_take_succ', vl_take_succ', Nat.pow_succ]
       exact add_step hs hv
      have hX := mod_bd (s := (((c : Nat) : Int) + ((dg n).getD k 0))) (by omega)
      have hl3 : k + 1 ≤ max (dg m).length (dg n).length ∨ ((((((c : Nat) : Int) + ((dg n).getD k 0))) / 1000000000 : Int).toNat = 0 ∧ k + 1 = max (dg m).length (dg n).length + 1 ∧ Bs ^ (k + 1 - 1) ≤ vl (os ++ [((((c : Nat) : Int) + ((dg n).getD k 0))) % 1000000000])) := by
       by_cases hkM : k + 1 ≤ max (dg m).length (dg n).length
       · exact .inl hkM
       · first
        | (exfalso; omega)
        | (refine .inr ⟨by omega, by omega, ?_⟩; rw [vl_concat, hos, Nat.add_sub_cancel, show ((((c : Nat) : Int) + ((dg n).getD k 0))) % 1000000000 = 1 by omega]; exact Nat.le_trans (by simp) (Nat.le_add_left _ _))
      exact fun a ha => ⟨_, by omega, (k + 1), a104, (os ++ ([(((c : Nat) : Int) + ((dg n).getD k 0)) % 1000000000])), (((((c : Nat) : Int) + ((dg n).getD k 0))) / 1000000000 : Int).toNat, ha.sub (Sub.cons (t := 0) rfl (.cons (t := 1) rfl (.cons (t := 5) rfl (.cons (t := 6) (look_int (t := 6) rfl (by first | omega | simp)) (.cons (t := 7) (look_int (t := 7) rfl (by first | omega | simp)) (.nil)))))), q107, (nw104.mono (by omega) (by omega)), rfl, by simp [hos], hlm.append (Lm.single hX.1 hX.2), by omega, hv2, hl3⟩
     ·
      have gn := getD_ge (zs := dg n) (k := k) (by omega)
      refine sx_skip ?_
      refine q_n (k100 _ _ ?_)
      refine sx_seq fun K108 k108 => sx_region ?_
      refine sm rfl rfl rfl rfl ?_
      refine sm rfl rfl rfl rfl ?_
      refine sx_pure rfl rfl rfl (px_rem rfl rfl (by omega) (by omega)) ?_
      refine sx_lit1 rfl xelt22 rfl rfl (fun s109 ws109 ss109 fs109 cs109 => ?_)
      have ns109 := Own.norm (f := (Value.int .i64)) (zs := [((c : Nat) : Int) % 1000000000]) fs109
      have zws109 := cs109.size
      have f111 := hs_s.ext cs109
      refine sx_append rfl xelt22 rfl rfl f111 ns109.sv one_int (by omega) (by simp only [List.length_cons, List.length_nil]; omega) (by unfold maxLen; simp only [List.length_cons, List.length_nil]; omega) (fun a110 w110 fw110 cw110 => ?_)
      have nw110 := Own.app (f := (Value.int .i64)) (a := os) (b := [((c : Nat) : Int) % 1000000000]) fw110
      have zw110 := cw110.size
      refine sa rfl rfl rfl rfl ?_
      refine wl_nil (q_n (k108 _ _ ?_))
      refine sx_region ?_
      refine sm rfl rfl rfl rfl ?_
      refine sx_pure rfl rfl rfl (px_quo rfl rfl (by omega) (by omega) (by omega)) ?_
      refine sa rfl rfl rfl rfl ?_
      refine wl_nil ?_
      refine q_bn (q_n (k82 _ _ ?_))
      refine sx_region ?_
      refine sm rfl rfl rfl rfl ?_
      refine sx_pure rfl rfl rfl (px_add rfl rfl (by omega)) ?_
      refine sa rfl rfl rfl rfl ?_
      refine wl_nil ?_
      have q112 := Chg.step (l := w.heap.size) (h := ws3.heap.size) cwl7 cs109 (by omega)
      have q113 := Chg.step (l := w.heap.size) (h := ws3.heap.size) q112 cw110 (by omega)
      have hs : (((c : Nat) : Int) : Int) = ((c : Nat) : Int) + (((dg m).getD k 0).toNat : Nat) + (((dg n).getD k 0).toNat : Nat) := by omega
      have hv2 : vl (os ++ [(((c : Nat) : Int)) % 1000000000]) + Bs ^ (k + 1) * ((((c : Nat) : Int)) / 1000000000 : Int).toNat = vl ((dg m).take (k + 1)) + vl ((dg n).take (k + 1)) := by
       rw [vl_concat, hos, vl_take_succ', vl_take_succ', Nat.pow_succ]
       exact add_step hs hv
      have hX := mod_bd (s := ((c : Nat) : Int)) (by omega)
      have hl3 : k + 1 ≤ max (dg m).length (dg n).length ∨ (((((c : Nat) : Int)) / 1000000000 : Int).toNat = 0 ∧ k + 1 = max (dg m).length (dg n).length + 1 ∧ Bs ^ (k + 1 - 1) ≤ vl (os ++ [(((c : Nat) : Int)) % 1000000000])) := by
       by_cases hkM : k + 1 ≤ max (dg m).length (dg n).length
       · exact .inl hkM
       · first
        | (exfalso; omega)
        | (refine .inr ⟨by omega, by omega, ?_⟩; rw [vl_concat, hos, Nat.add_sub_cancel, show (((c : Nat) : Int)) % 1000000000 = 1 by omega]; exact Nat.le_trans (by simp) (Nat.le_add_left _ _))
      exact fun a ha => ⟨_, by omega, (k + 1), a110, (os ++ ([((c : Nat) : Int) % 1000000000])), ((((c : Nat) : Int)) / 1000000000 : Int).toNat, ha.sub (Sub.cons (t := 0) rfl (.cons (t := 1) rfl (.cons (t := 5) rfl (.cons (t := 6) (look_int (t := 6) rfl (by first | omega | simp)) (.cons (t := 7) (look_int (t := 7) rfl (by first | omega | simp)) (.nil)))))), q113, (nw110.mono (by omega) (by omega)), rfl, by simp [hos], hlm.append (Lm.single hX.1 hX.2), by omega, hv2, hl3⟩
   ·
    refine sx_exit ?_
    refine q_e (q_e (q_bx (q_n (k5 _ _ ?_))))
    refine sx_seq fun K114 k114 => ?_
    have hc0 : c = 0 := by omega
    subst hc0
    rw [Nat.mul_zero, Nat.add_zero, vl_take_ge (by omega), vl_take_ge (by omega), vl_dg, vl_dg] at hv
    have hd : os = dg (m + n) := add_end hlm hos hv hlast (by omega)
    subst hd
    refine sx_region ?_
    refine sm rfl rfl rfl rfl ?_
    refine sa rfl rfl rfl rfl ?_
    refine wl_nil (q_n (k114 _ _ ?_))
    refine sx_retc ?_
    refine sx_ret1 Tryz.results61 rfl ?_
    have q115 := Chg.step (l := 0) (h := 0) (Chg.zero (l := 0) (h := 0) cs3) cwl7 (by omega)
    exact ⟨_, rfl, (Own.sv hs_s).mono (by omega) (by omega), q115⟩

theorem c_l02Add1 {w : World} {va : Value} {lva uva : Nat} {m : Nat} {vb : Value} {lvb uvb : Nat} {ys : List Int} (hva : Sl w lva uva va (dg m)) (hvb : Sl w lvb uvb vb (ys)) (hbm : (dg m).length ≤ 1000) (hy : ys = [1]) :
  Ret Tryz.prog 61 [va, vb] w fun v w' => ∃ s, v = s ∧ Sl w' (w.heap.size) (w'.heap.size) s (dg (m + 1)) ∧ Chg 0 0 w w' := by
 rw [hy, ← dg_1] at hvb; exact c_l02Add hva hvb hbm (by rw [dg_1]; simp)

theorem c_sNatEven {w : World} {va : Value} {lva uva : Nat} {m : Nat} (hva : Sl w lva uva va (dg m)) (hbm : (dg m).length ≤ 50) :
  Ret Tryz.prog 90 [va] w fun v w' => v = .bool (decide (¬ m % 2 = 1)) ∧ Chg 0 0 w w' := by
 have hva0 := hva.fit
 refine sx_enter Tryz.func90 rfl Tryz.ntmps90 (Nat.le_of_ble_eq_true rfl) ?_
 refine sx_seq fun K1 k1 => sx_region ?_
 refine sa rfl rfl rfl rfl ?_
 refine wl_nil (q_n (k1 _ _ ?_))
 refine sx_seq fun K2 k2 => sx_region ?_
 refine sm rfl rfl rfl rfl ?_
 refine sx_call rfl rfl Tryz.call55 (c_sNatOk hva0 (by omega)) (fun v3 w3 p3 => ?_)
 obtain ⟨rfl, c3⟩ := p3
 have zw3 := c3.size
 refine sm rfl rfl rfl rfl ?_
 have h117 : NOk (dg m) := NOk_dg (by omega)
 refine sx_tmpPT (t := 5) rfl h117 ?_
 refine sx_guardT rfl rfl rfl ?_
 refine sm rfl rfl rfl rfl ?_
 refine sx_guardT rfl rfl rfl ?_
 have f4 := hva0.ext c3
 refine sx_pure rfl rfl rfl (px_len rfl Tryz.underlying22 f4) ?_
 refine sx_guardT rfl rfl rfl ?_
 refine sx_pure rfl rfl rfl (px_eq rfl rfl) ?_
 refine sx_guardT rfl rfl rfl ?_
 refine sm rfl rfl rfl rfl ?_
 refine sx_tmpP (t := 9) rfl (fun h117x1 => ?_) (fun h117x1 => ?_)
 ·
  refine sx_guardF rfl rfl rfl rfl rfl rfl ?_
  refine sx_guardF rfl rfl rfl rfl rfl rfl ?_
  refine sx_guardF rfl rfl rfl rfl rfl rfl ?_
  refine sx_guardF rfl rfl rfl rfl rfl rfl ?_
  refine sx_guardF rfl rfl rfl rfl rfl rfl ?_
  refine sx_guardT rfl rfl rfl ?_
  refine sx_pure rfl rfl rfl (px_pick rfl rfl) ?_
  refine sx_pure rfl rfl rfl (px_pick rfl rfl) ?_
  refine sa rfl rfl rfl rfl ?_
  refine wl_nil (q_n (k2 _ _ ?_))
  refine sx_sub (Sub.cons (t := 2) rfl (.nil)) ?_
  refine sx_retc ?_
  refine sx_ret1 Tryz.results90 rfl ?_
  exact ⟨(by have hk := odd_dg (q := m); first | exact bTrue (hk.1 (.inl (by omega))) | exact bIff ⟨fun h => hk.1 (.inr h), fun h => (hk.2 h).resolve_left (by omega)⟩), c3⟩
 ·
  refine sx_guardT rfl rfl rfl ?_
  refine sm rfl rfl rfl rfl ?_
  refine sx_guardT rfl rfl rfl ?_
  refine sx_pure rfl rfl rfl (px_index1 (j := 0) rfl rfl (by omega) Tryz.underlying22 Tryz.sizeOf3 f4 (by omega)) ?_
  refine sx_guardT rfl rfl rfl ?_
  refine sx_pure rfl rfl rfl (px_load rfl (f4.load1 (at_int (by omega)) Tryz.isAgg3)) ?_
  refine sx_guardT rfl rfl rfl ?_
  refine sx_pure rfl rfl rfl (px_rem rfl rfl (by have := (Lm_dg m).getD 0; omega) (by omega)) ?_
  refine sx_guardT rfl rfl rfl ?_
  refine sx_pure rfl rfl rfl (px_eq rfl rfl) ?_
  refine sx_guardT rfl rfl rfl ?_
  refine sx_pure rfl rfl rfl (px_pick rfl rfl) ?_
  refine sx_pure rfl rfl rfl (px_pick rfl rfl) ?_
  refine sa rfl rfl rfl rfl ?_
  refine wl_nil (q_n (k2 _ _ ?_))
  refine sx_sub (Sub.cons (t := 2) rfl (.nil)) ?_
  refine sx_retc ?_
  refine sx_ret1 Tryz.results90 rfl ?_
  exact ⟨(by have hk := odd_dg (q := m); first | exact bTrue (hk.1 (.inl (by omega))) | exact bIff ⟨fun h => hk.1 (.inr h), fun h => (hk.2 h).resolve_left (by omega)⟩), c3⟩

theorem c_l06Away {w : World} {n : Bool} {vq : Value} {lvq uvq : Nat} {q : Nat} {vr : Value} {lvr uvr : Nat} {r : Nat} {vd : Value} {lvd uvd : Nat} {d : Nat} {m : Int} (hvq : Sl w lvq uvq vq (dg q)) (hvr : Sl w lvr uvr vr (dg r)) (hvd : Sl w lvd uvd vd (dg d)) (hbq : (dg q).length ≤ 50) (hbr : (dg r).length ≤ 390) (hbd : (dg d).length ≤ 390) (hm : 0 ≤ m ∧ m ≤ 6) :
  Ret Tryz.prog 60 [.bool n, vq, vr, vd, .int .i64 m] w fun v w' => v = .bool (awayB m n (cmpN (r + r) d) (decide (q % 2 = 1))) ∧ Chg 0 0 w w' := by
 have hvq0 := hvq.fit
 have hvr0 := hvr.fit
 have hvd0 := hvd.fit
 have lrr := len_add r r
 refine sx_enter Tryz.func60 rfl Tryz.ntmps60 (Nat.le_of_ble_eq_true rfl) ?_
 refine sx_seq fun K1 k1 => sx_region ?_
 refine sa rfl rfl rfl rfl ?_
 refine wl_nil (q_n (k1 _ _ ?_))
 refine sx_seq fun K2 k2 => sx_region ?_
 refine sm rfl rfl rfl rfl ?_
 refine sm rfl rfl rfl rfl ?_
 refine sx_call rfl rfl Tryz.call61 (c_l02Add hvr0 hvr0 (by omega) (by omega)) (fun v3 w3 p3 => ?_)
 obtain ⟨s3, rfl, os_3, c3⟩ := p3
 have zw3 := c3.size
 refine sm rfl rfl rfl rfl ?_
 have f4 := hvd0.ext c3
 refine sx_call rfl rfl Tryz.call56 (c_l02Cmp os_3 f4 (by omega)) (fun v5 w5 p5 => ?_)
 obtain ⟨rfl, c5⟩ := p5
 have zw5 := c5.size
 refine sa rfl rfl rfl rfl ?_
 refine wl_nil (q_n (k2 _ _ ?_))
 refine sx_seq fun K6 k6 => ?_
 refine sx_seq fun K7 k7 => sx_region ?_
 refine sm rfl rfl rfl rfl ?_
 refine wl_nil (q_n (k7 _ _ ?_))
 refine sx_block ?_
 refine sx_seq fun K8 k8 => sx_region ?_
 refine sx_pure rfl rfl rfl (px_eq rfl rfl) ?_
 refine sa rfl rfl rfl rfl ?_
 refine wl_nil (q_n (k8 _ _ ?_))
 refine sx_sub (Sub.cons (t := 0) rfl (.cons (t := 1) rfl (.cons (t := 10) rfl (.cons (t := 11) rfl (.cons (t := 17) rfl (.cons (t := 18) rfl (.nil))))))) ?_
 refine sx_condP rfl (fun h29 => ?_) (fun h29 => ?_)
 ·
  refine sx_seq fun K9 k9 => sx_region ?_
  refine sa rfl rfl rfl rfl ?_
  refine wl_nil (q_n (k9 _ _ ?_))
  refine sx_retc ?_
  refine q_br (q_r (sx_ret1 Tryz.results60 rfl ?_))
  have hcd := cmpL_dg (r + r) d
  exact ⟨by rw [← hcd]; simp_all [awayB], (c3.t c5)⟩
 ·
  refine sx_seq fun K10 k10 => sx_region ?_
  refine sx_pure rfl rfl rfl (px_eq rfl rfl) ?_
  refine sa rfl rfl rfl rfl ?_
  refine wl_nil (q_n (k10 _ _ ?_))
  refine sx_condP rfl (fun h31 => ?_) (fun h31 => ?_)
  ·
   refine sx_seq fun K11 k11 => sx_region ?_
   refine sa rfl rfl rfl rfl ?_
   refine wl_nil (q_n (k11 _ _ ?_))
   refine sx_retc ?_
   refine q_br (q_r (sx_ret1 Tryz.results60 rfl ?_))
   have hcd := cmpL_dg (r + r) d
   exact ⟨by rw [← hcd]; simp_all [awayB], (c3.t c5)⟩
  ·
   refine sx_seq fun K12 k12 => sx_region ?_
   refine sx_pure rfl rfl rfl (px_eq rfl rfl) ?_
   refine sa rfl rfl rfl rfl ?_
   refine wl_nil (q_n (k12 _ _ ?_))
   refine sx_condP rfl (fun h33 => ?_) (fun h33 => ?_)
   ·
    refine sx_seq fun K13 k13 => sx_region ?_
    refine sm rfl rfl rfl rfl ?_
    refine sa rfl rfl rfl rfl ?_
    refine wl_nil (q_n (k13 _ _ ?_))
    refine sx_retc ?_
    refine q_br (q_r (sx_ret1 Tryz.results60 rfl ?_))
    have hcd := cmpL_dg (r + r) d
    exact ⟨by rw [← hcd]; simp_all [awayB], (c3.t c5)⟩
   ·
    refine sx_seq fun K14 k14 => sx_region ?_
    refine sx_pure rfl rfl rfl (px_eq rfl rfl) ?_
    refine sa rfl rfl rfl rfl ?_
    refine wl_nil (q_n (k14 _ _ ?_))
    refine sx_condP rfl (fun h35 => ?_) (fun h35 => ?_)
    ·
     refine sx_seq fun K15 k15 => sx_region ?_
     refine sm rfl rfl rfl rfl ?_
     refine sx_pure rfl rfl rfl (px_not rfl) ?_
     refine sa rfl rfl rfl rfl ?_
     refine wl_nil (q_n (k15 _ _ ?_))
     refine sx_retc ?_
     refine q_br (q_r (sx_ret1 Tryz.results60 rfl ?_))
     have hcd := cmpL_dg (r + r) d
     exact ⟨by rw [← hcd]; simp_all [awayB], (c3.t c5)⟩
    ·
     refine sx_seq fun K16 k16 => sx_region ?_
     refine sx_pure rfl rfl rfl (px_eq rfl rfl) ?_
     refine sa rfl rfl rfl rfl ?_
     refine wl_nil (q_n (k16 _ _ ?_))
     refine sx_condP rfl (fun h37 => ?_) (fun h37 => ?_)
     ·
      refine sx_seq fun K17 k17 => sx_region ?_
      refine sm rfl rfl rfl rfl ?_
      refine sx_pure rfl rfl rfl (px_gt rfl rfl) ?_
      refine sa rfl rfl rfl rfl ?_
      refine wl_nil (q_n (k17 _ _ ?_))
      refine sx_sub (Sub.cons (t := 1) rfl (.cons (t := 10) rfl (.cons (t := 11) rfl (.nil)))) ?_
      refine sx_retc ?_
      refine q_br (q_r (sx_ret1 Tryz.results60 rfl ?_))
      have hcd := cmpL_dg (r + r) d
      exact ⟨by rw [← hcd]; simp_all [awayB], (c3.t c5)⟩
     ·
      refine sx_seq fun K18 k18 => sx_region ?_
      refine sx_pure rfl rfl rfl (px_eq rfl rfl) ?_
      refine sa rfl rfl rfl rfl ?_
      refine wl_nil (q_n (k18 _ _ ?_))
      refine sx_sub (Sub.cons (t := 1) rfl (.cons (t := 10) rfl (.cons (t := 11) rfl (.cons (t := 33) rfl (.nil))))) ?_
      refine sx_condP rfl (fun h39 => ?_) (fun h39 => ?_)
      ·
       refine sx_seq fun K19 k19 => sx_region ?_
       refine sm rfl rfl rfl rfl ?_
       refine sx_pure rfl rfl rfl (px_ge rfl rfl) ?_
       refine sa rfl rfl rfl rfl ?_
       refine wl_nil (q_n (k19 _ _ ?_))
       refine sx_retc ?_
       refine q_br (q_r (sx_ret1 Tryz.results60 rfl ?_))
       have hcd := cmpL_dg (r + r) d
       exact ⟨by rw [← hcd]; simp_all [awayB], (c3.t c5)⟩
      ·
       refine sx_skip ?_
       refine q_bn (q_n (k6 _ _ ?_))
       refine sx_seq fun K20 k20 => sx_region ?_
       refine sm rfl rfl rfl rfl ?_
       refine sx_pure rfl rfl rfl (px_gt rfl rfl) ?_
       refine sm rfl rfl rfl rfl ?_
       refine sx_tmpP (t := 39) rfl (fun h42 => ?_) (fun h42 => ?_)
       ·
        refine sx_guardF rfl rfl rfl rfl rfl rfl ?_
        refine sx_guardF rfl rfl rfl rfl rfl rfl ?_
        refine sx_guardF rfl rfl rfl rfl rfl rfl ?_
        refine sx_guardFU rfl rfl rfl rfl rfl ?_
        refine sx_guardFU rfl rfl rfl rfl rfl ?_
        refine sx_guardFU rfl rfl rfl rfl rfl ?_
        refine sx_guardF rfl rfl rfl rfl rfl rfl ?_
        refine sx_pure rfl rfl rfl (px_pick rfl rfl) ?_
        refine sa rfl rfl rfl rfl ?_
        refine wl_nil (q_n (k20 _ _ ?_))
        refine sx_sub (Sub.cons (t := 10) rfl (.nil)) ?_
        refine sx_retc ?_
        refine sx_ret1 Tryz.results60 rfl ?_
        have hcd := cmpL_dg (r + r) d
        exact ⟨by rw [← hcd]; simp_all [awayB], (c3.t c5)⟩
       ·
        refine sx_guardT rfl rfl rfl ?_
        refine sm rfl rfl rfl rfl ?_
        refine sx_guardT rfl rfl rfl ?_
        refine sx_pure rfl rfl rfl (px_eq rfl rfl) ?_
        refine sx_guardT rfl rfl rfl ?_
        refine sm rfl rfl rfl rfl ?_
        refine sx_tmpP (t := 42) rfl (fun h42x1 => ?_) (fun h42x1 => ?_)
        ·
         refine sx_guardT rfl rfl rfl ?_
         refine sm rfl rfl rfl rfl ?_
         refine sx_guardT rfl rfl rfl ?_
         have f21 := hvq0.ext c3
         have f22 := f21.ext c5
         refine sx_call rfl rfl Tryz.call90 (c_sNatEven f22 (by omega)) (fun v23 w23 p23 => ?_)
         obtain ⟨rfl, c23⟩ := p23
         have zw23 := c23.size
         refine sx_guardT rfl rfl rfl ?_
         refine sx_pure rfl rfl rfl (px_notP rfl) ?_
         refine sx_guardT rfl rfl rfl ?_
         refine sx_pure rfl rfl rfl (px_pick rfl rfl) ?_
         refine sx_pure rfl rfl rfl (px_pick rfl rfl) ?_
         refine sa rfl rfl rfl rfl ?_
         refine wl_nil (q_n (k20 _ _ ?_))
         refine sx_sub (Sub.cons (t := 10) rfl (.nil)) ?_
         refine sx_retc ?_
         refine sx_ret1 Tryz.results60 rfl ?_
         have hcd := cmpL_dg (r + r) d
         exact ⟨by rw [← hcd]; simp_all [awayB], ((c3.t c5).t c23)⟩
        ·
         refine sx_guardF rfl rfl rfl rfl rfl rfl ?_
         refine sx_guardF rfl rfl rfl rfl rfl rfl ?_
         refine sx_guardF rfl rfl rfl rfl rfl rfl ?_
         refine sx_guardT rfl rfl rfl ?_
         refine sx_pure rfl rfl rfl (px_pick rfl rfl) ?_
         refine sx_pure rfl rfl rfl (px_pick rfl rfl) ?_
         refine sa rfl rfl rfl rfl ?_
         refine wl_nil (q_n (k20 _ _ ?_))
         refine sx_sub (Sub.cons (t := 10) rfl (.nil)) ?_
         refine sx_retc ?_
         refine sx_ret1 Tryz.results60 rfl ?_
         have hcd := cmpL_dg (r + r) d
         exact ⟨by rw [← hcd]; simp_all [awayB], (c3.t c5)⟩

theorem c_l02Cap {w : World} {va : Value} {lva uva : Nat} {m : Nat} (hva : Sl w lva uva va (dg m)) (h63 : (dg m).length ≤ 1000000) :
  Ret Tryz.prog 91 [va] w fun v w' => ∃ s, v = s ∧ Sl w' (lva) (uva) s (dg (capN m)) ∧ Chg 0 0 w w' := by
 refine sx_enter Tryz.func91 rfl Tryz.ntmps91 (Nat.le_of_ble_eq_true rfl) ?_
 refine sx_seq fun K1 k1 => sx_region ?_
 refine sa rfl rfl rfl rfl ?_
 refine wl_nil (q_n (k1 _ _ ?_))
 refine sx_seq fun K2 k2 => sx_region ?_
 refine sm rfl rfl rfl rfl ?_
 refine sx_call rfl rfl Tryz.call87 (c_l02TrimD hva (by omega)) (fun v3 w3 p3 => ?_)
 obtain ⟨s3, rfl, os_3, c3⟩ := p3
 have zw3 := c3.size
 refine sa rfl rfl rfl rfl ?_
 refine wl_nil (q_n (k2 _ _ ?_))
 refine sx_seq fun K4 k4 => ?_
 refine sx_seq fun K5 k5 => sx_region ?_
 refine sm rfl rfl rfl rfl ?_
 refine sx_pure rfl rfl rfl (px_len rfl Tryz.underlying22 os_3) ?_
 refine sx_pure rfl rfl rfl (px_gt rfl rfl) ?_
 refine wl_nil (q_n (k5 _ _ ?_))
 refine sx_condP rfl (fun h25 => ?_) (fun h25 => ?_)
 ·
  refine sx_seq fun K6 k6 => sx_region ?_
  refine sa rfl rfl rfl rfl ?_
  refine wl_nil (q_n (k6 _ _ ?_))
  refine sx_retc ?_
  refine q_r (sx_ret1 Tryz.results91 rfl ?_)
  rw [capN_no (by omega), dg_zero]
  exact ⟨_, rfl, Sv.nil _ _ _ _, c3⟩
 ·
  refine sx_skip ?_
  refine q_n (k4 _ _ ?_)
  refine sx_seq fun K7 k7 => sx_region ?_
  refine sm rfl rfl rfl rfl ?_
  refine sa rfl rfl rfl rfl ?_
  refine wl_nil (q_n (k7 _ _ ?_))
  refine sx_retc ?_
  refine sx_ret1 Tryz.results91 rfl ?_
  rw [capN_ok (by omega)]
  exact ⟨_, rfl, (Sv.mono os_3 (by omega) (by omega)), c3⟩

end Go.Proofs.YtfoceofnldnbgaaGreatDoor
