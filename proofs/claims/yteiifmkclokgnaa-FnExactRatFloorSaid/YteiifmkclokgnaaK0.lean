/- Contracts of functions of the program: what each call returns, and that it changes nothing that was. Conditions: as each says. -/
import Derived.Test.YteiifmkclokgnaaTy
import Derived.Test.YteiifmkclokgnaaNatH
import Derived.Test.YteiifmkclokgnaaSxB
import Derived.Test.YteiifmkclokgnaaRm
set_option linter.unusedVariables false
set_option linter.unusedSimpArgs false
namespace Go.Proofs.Yteiifmkclokgnaa
open Go Go.RowKit
set_option maxRecDepth 100000
theorem c_szIntS {w : World} {va : Value} {lva uva : Nat} {zs : List Int} {n : Int} (hva : Sl w lva uva va (zs)) (bzs : zs.length ≤ 9223372036854775807) (hn : 0 ≤ n ∧ n ≤ 1048576) :
  Ret Try.prog 74 [va, .int .i64 n] w fun v w' => ∃ r, v = .int .i64 (r) ∧ (r < 0 ∨ (0 ≤ r ∧ r = n - (zs).length)) ∧ Chg 0 0 w w' := by
 have hva0 := hva.fit
 refine sx_enter Try.func74 rfl Try.ntmps74 (Nat.le_of_ble_eq_true rfl) ?_
 refine sx_seq fun K1 k1 => sx_region ?_
 refine sa rfl rfl rfl rfl ?_
 refine wl_nil (q_n (k1 _ _ ?_))
 refine sx_seq fun K2 k2 => sx_region ?_
 refine sm rfl rfl rfl rfl ?_
 refine sm rfl rfl rfl rfl ?_
 refine sx_pure rfl rfl rfl (px_len rfl Try.underlying22 hva0) ?_
 refine sx_pure rfl rfl rfl (px_sub rfl rfl (by omega)) ?_
 refine sa rfl rfl rfl rfl ?_
 refine wl_nil (q_n (k2 _ _ ?_))
 refine sx_seq fun K3 k3 => ?_
 refine sx_seq fun K4 k4 => sx_region ?_
 refine sm rfl rfl rfl rfl ?_
 refine sx_pure rfl rfl rfl (px_lt rfl rfl) ?_
 refine wl_nil (q_n (k4 _ _ ?_))
 refine sx_condP rfl (fun h248 => ?_) (fun h248 => ?_)
 ·
  refine sx_seq fun K5 k5 => sx_region ?_
  refine sa rfl rfl rfl rfl ?_
  refine wl_nil (q_n (k5 _ _ ?_))
  refine sx_retc ?_
  refine q_r (sx_ret1 Try.results74 rfl ?_)
  exact ⟨_, rfl, by omega, (Chg.refl 0 0 _)⟩
 ·
  refine sx_skip ?_
  refine q_n (k3 _ _ ?_)
  refine sx_seq fun K6 k6 => sx_region ?_
  refine sm rfl rfl rfl rfl ?_
  refine sa rfl rfl rfl rfl ?_
  refine wl_nil (q_n (k6 _ _ ?_))
  refine sx_retc ?_
  refine sx_ret1 Try.results74 rfl ?_
  exact ⟨_, rfl, by omega, (Chg.refl 0 0 _)⟩

theorem c_szSigned {w : World} {n1 : Bool} {v1 : Value} {lv1 uv1 : Nat} {z1 : List Int} {n : Int} (hv1 : Sl w lv1 uv1 v1 (z1)) (bz1 : z1.length ≤ 9223372036854775807) (hn : 0 ≤ n ∧ n ≤ 1048576) :
  Ret Try.prog 40 [.agg #[.bool n1, v1], .int .i64 n] w fun v w' => ∃ r, v = .int .i64 (r) ∧ (r < 0 ∨ (0 ≤ r ∧ r = n - (z1).length)) ∧ Chg 0 0 w w' := by
 have hv10 := hv1.fit
 refine sx_enter Try.func40 rfl Try.ntmps40 (Nat.le_of_ble_eq_true rfl) ?_
 refine sx_seq fun K1 k1 => sx_region ?_
 refine sx_box [.bool n1, v1] rfl rfl rfl (fun b2 w3 eb2 sb2 fb2 cb2 => ?_)
 have zw3 := cb2.size
 refine sa rfl rfl rfl rfl ?_
 refine wl_nil (q_n (k1 _ _ ?_))
 refine sx_seq fun K4 k4 => sx_region ?_
 refine sx_pure rfl rfl rfl (px_field rfl xfld24x1) ?_
 refine sx_pure rfl rfl rfl (px_load rfl (fb2.load1 rfl Try.isAgg22)) ?_
 refine sm rfl rfl rfl rfl ?_
 have f5 := hv10.ext cb2
 refine sx_call rfl rfl Try.call74 (c_szIntS f5 (by omega) (by omega)) (fun v6 w6 p6 => ?_)
 obtain ⟨r6, rfl, hr6, c6⟩ := p6
 have zw6 := c6.size
 refine sa rfl rfl rfl rfl ?_
 refine wl_nil (q_n (k4 _ _ ?_))
 refine sx_seq fun K7 k7 => ?_
 refine sx_seq fun K8 k8 => sx_region ?_
 refine sm rfl rfl rfl rfl ?_
 refine sx_pure rfl rfl rfl (px_lt rfl rfl) ?_
 refine wl_nil (q_n (k8 _ _ ?_))
 refine sx_condP rfl (fun h256 => ?_) (fun h256 => ?_)
 ·
  refine sx_seq fun K9 k9 => sx_region ?_
  refine sa rfl rfl rfl rfl ?_
  refine wl_nil (q_n (k9 _ _ ?_))
  refine sx_retc ?_
  refine q_r (sx_ret1 Try.results40 rfl ?_)
  exact ⟨_, rfl, by omega, (cb2.t c6)⟩
 ·
  refine sx_skip ?_
  refine q_n (k7 _ _ ?_)
  refine sx_seq fun K10 k10 => sx_region ?_
  refine sm rfl rfl rfl rfl ?_
  refine sa rfl rfl rfl rfl ?_
  refine wl_nil (q_n (k10 _ _ ?_))
  refine sx_retc ?_
  refine sx_ret1 Try.results40 rfl ?_
  exact ⟨_, rfl, by omega, (cb2.t c6)⟩

theorem c_szDec {w : World} {n1 : Bool} {v1 : Value} {lv1 uv1 : Nat} {z1 : List Int} {p1 : Int} {n : Int} (hv1 : Sl w lv1 uv1 v1 (z1)) (bz1 : z1.length ≤ 9223372036854775807) (hn : 0 ≤ n ∧ n ≤ 1048576) :
  Ret Try.prog 15 [.agg #[.bool n1, v1, .int .i64 p1], .int .i64 n] w fun v w' => ∃ r, v = .int .i64 (r) ∧ (r < 0 ∨ (0 ≤ r ∧ r = n - (z1).length)) ∧ Chg 0 0 w w' := by
 have hv10 := hv1.fit
 refine sx_enter Try.func15 rfl Try.ntmps15 (Nat.le_of_ble_eq_true rfl) ?_
 refine sx_seq fun K1 k1 => sx_region ?_
 refine sx_box [.bool n1, v1, .int .i64 p1] rfl rfl rfl (fun b2 w3 eb2 sb2 fb2 cb2 => ?_)
 have zw3 := cb2.size
 refine sa rfl rfl rfl rfl ?_
 refine wl_nil (q_n (k1 _ _ ?_))
 refine sx_seq fun K4 k4 => sx_region ?_
 refine sx_pure rfl rfl rfl (px_field rfl xfld26x0) ?_
 refine sx_pure rfl rfl rfl (px_load rfl (fb2.loadA (vs := [.bool n1, v1]) (look_lit rfl) Try.isAgg24 Try.sizeOf24)) ?_
 refine sm rfl rfl rfl rfl ?_
 have f5 := hv10.ext cb2
 refine sx_call rfl rfl Try.call40 (c_szSigned f5 (by omega) (by omega)) (fun v6 w6 p6 => ?_)
 obtain ⟨r6, rfl, hr6, c6⟩ := p6
 have zw6 := c6.size
 refine sa rfl rfl rfl rfl ?_
 refine wl_nil (q_n (k4 _ _ ?_))
 refine sx_seq fun K7 k7 => ?_
 refine sx_seq fun K8 k8 => sx_region ?_
 refine sm rfl rfl rfl rfl ?_
 refine sx_pure rfl rfl rfl (px_lt rfl rfl) ?_
 refine wl_nil (q_n (k8 _ _ ?_))
 refine sx_condP rfl (fun h398 => ?_) (fun h398 => ?_)
 ·
  refine sx_seq fun K9 k9 => sx_region ?_
  refine sa rfl rfl rfl rfl ?_
  refine wl_nil (q_n (k9 _ _ ?_))
  refine sx_retc ?_
  refine q_r (sx_ret1 Try.results15 rfl ?_)
  exact ⟨_, rfl, by omega, (cb2.t c6)⟩
 ·
  refine sx_skip ?_
  refine q_n (k7 _ _ ?_)
  refine sx_seq fun K10 k10 => sx_region ?_
  refine sm rfl rfl rfl rfl ?_
  refine sa rfl rfl rfl rfl ?_
  refine wl_nil (q_n (k10 _ _ ?_))
  refine sx_retc ?_
  refine sx_ret1 Try.results15 rfl ?_
  exact ⟨_, rfl, by omega, (cb2.t c6)⟩

theorem c_toIntS {w : World} {va : Value} {lva uva : Nat} {zs : List Int} (hva : Sl w lva uva va (zs)) (h63 : zs.length ≤ 1048576) :
  Ret Try.prog 43 [va] w fun v w' => ∃ s, v = s ∧ OwnI w' w.heap.size w'.heap.size s intT (zs) ∧ Chg 0 0 w w' := by
 have hva0 := hva.fit
 refine sx_enter Try.func43 rfl Try.ntmps43 (Nat.le_of_ble_eq_true rfl) ?_
 refine sx_seq fun K1 k1 => sx_region ?_
 refine sa rfl rfl rfl rfl ?_
 refine wl_nil (q_n (k1 _ _ ?_))
 refine sx_seq fun K2 k2 => sx_region ?_
 refine sm rfl rfl rfl rfl ?_
 refine sx_pure rfl rfl rfl (px_len rfl Try.underlying22 hva0) ?_
 refine sx_make (c := (zs).length) rfl xelt22 (rfl) (rfl) (by omega) (by unfold maxLen; omega) (fun s3 ws3 fs3 cs3 ls3 => ?_)
 have ns3 := fs3.made
 have zws3 := cs3.size
 refine sa rfl rfl rfl rfl ?_
 refine wl_nil (q_n (k2 _ _ ?_))
 refine sx_seq fun K4 k4 => ?_
 refine sx_seq fun K5 k5 => sx_region ?_
 refine sa rfl rfl rfl rfl ?_
 refine wl_nil (q_n (k5 _ _ ?_))
 refine sx_block ?_
 refine sx_loop (fun mm aa w' => ∃ (k : Nat) (os : List Int), Agr 22 [(0, va), (3, s3), (4, .int .i64 ↑k)] aa ∧ Chg w.heap.size ws3.heap.size ws3 w' ∧ Own w' w.heap.size ws3.heap.size s3 3 os.length 1 (os.map (Value.int .i64)) ∧ (mm = zs.length - k) ∧ (k ≤ zs.length) ∧ (os.length = zs.length) ∧ (os.take k = zs.take k)) (_) (fun a ha => ⟨0, List.replicate zs.length 0, ha.sub (Sub.cons (t := 0) rfl (.cons (t := 3) rfl (.cons (t := 4) (look_int (t := 4) rfl (by first | omega | simp)) (.nil)))), Chg.refl _ _ _, (ns3.mono (by omega) (by omega)), rfl, by omega, by simp, by simp⟩) ?_
 rintro mm aa wl6 ⟨k, os, hAwl6, cwl6, hs_s3, hm, hk, ho, he⟩
 refine (show cw Try.prog 22 _ _ _ wl6 from ?_) aa hAwl6
 clear hAwl6
 have zwl6 := cwl6.size
 refine sx_seq fun K7 k7 => ?_
 refine sx_seq fun K8 k8 => sx_region ?_
 refine sm rfl rfl rfl rfl ?_
 refine sm rfl rfl rfl rfl ?_
 have f9 := hva0.ext cs3
 have f10 := f9.chg cwl6 (by omega)
 refine sx_pure rfl rfl rfl (px_len rfl Try.underlying22 f10) ?_
 refine sx_pure rfl rfl rfl (px_lt rfl rfl) ?_
 refine wl_nil (q_n (k8 _ _ ?_))
 refine sx_condP rfl (fun h203 => ?_) (fun h203 => ?_)
 ·
  refine sx_skip ?_
  refine q_n (k7 _ _ ?_)
  refine sx_seq fun K11 k11 => ?_
  refine sx_block ?_
  refine sx_region ?_
  refine sm rfl rfl rfl rfl ?_
  refine sm rfl rfl rfl rfl ?_
  refine sm rfl rfl rfl rfl ?_
  refine sm rfl rfl rfl rfl ?_
  refine sx_pure rfl rfl rfl (px_index1 (j := k) rfl rfl (by omega) Try.underlying22 Try.sizeOf3 f10 (by omega)) ?_
  refine sx_pure rfl rfl rfl (px_load rfl (f10.load1 (at_int (by omega)) Try.isAgg3)) ?_
  refine sx_pure rfl rfl rfl (px_index1 (j := k) rfl rfl (by omega) Try.underlying22 Try.sizeOf3 hs_s3.sv (by omega)) ?_
  refine sx_storeO rfl rfl hs_s3 (by simp only [List.length_map]; omega) Try.sizeOf3 rfl (fun w12 sw12 fw12 cw12 => ?_)
  have zw12 := cw12.size
  have nw12 := fw12.set
  refine wl_nil ?_
  refine q_bn (q_n (k11 _ _ ?_))
  refine sx_region ?_
  refine sm rfl rfl rfl rfl ?_
  refine sx_pure rfl rfl rfl (px_add rfl rfl (by omega)) ?_
  refine sa rfl rfl rfl rfl ?_
  refine wl_nil ?_
  have q13 := Chg.step (l := w.heap.size) (h := ws3.heap.size) cwl6 cw12 (by omega)
  exact fun a ha => ⟨_, by omega, (k + 1), (os.set k (zs.getD k 0)), ha.sub (Sub.cons (t := 0) rfl (.cons (t := 3) rfl (.cons (t := 4) (look_int (t := 4) rfl (by first | omega | simp)) (.nil)))), q13, (nw12.mono (by omega) (by omega)), rfl, by omega, by simp [ho], take_set_succ he (by omega) (by omega)⟩
 ·
  refine sx_exit ?_
  refine q_e (q_e (q_bx (q_n (k4 _ _ ?_))))
  refine sx_seq fun K14 k14 => sx_region ?_
  refine sm rfl rfl rfl rfl ?_
  refine sa rfl rfl rfl rfl ?_
  refine wl_nil (q_n (k14 _ _ ?_))
  refine sx_retc ?_
  refine sx_ret1 Try.results43 rfl ?_
  have e1 : k = zs.length := by omega
  rw [e1, List.take_length, List.take_of_length_le (by omega)] at he
  subst he
  have q15 := Chg.step (l := 0) (h := 0) (Chg.zero (l := 0) (h := 0) cs3) cwl6 (by omega)
  exact ⟨_, rfl, Own.mono hs_s3 (by omega) (by omega), q15⟩

theorem c_toSigned {w : World} {n1 : Bool} {v1 : Value} {lv1 uv1 : Nat} {z1 : List Int} (hv1 : Sl w lv1 uv1 v1 (z1)) (bz1 : z1.length ≤ 1048576) :
  Ret Try.prog 42 [.agg #[.bool n1, v1]] w fun v w' => ∃ s1, v = .agg #[.bool (n1), s1] ∧ OwnI w' w.heap.size w'.heap.size s1 intT (z1) ∧ Chg 0 0 w w' := by
 have hv10 := hv1.fit
 refine sx_enter Try.func42 rfl Try.ntmps42 (Nat.le_of_ble_eq_true rfl) ?_
 refine sx_seq fun K1 k1 => sx_region ?_
 refine sx_box [.bool n1, v1] rfl rfl rfl (fun b2 w3 eb2 sb2 fb2 cb2 => ?_)
 have zw3 := cb2.size
 refine sx_alloc [.bool false, (.slice none 0 0)] rfl Try.zeroValue29 rfl (fun b4 w5 eb4 sb4 fb4 cb4 => ?_)
 have zw5 := cb4.size
 refine wl_nil (q_n (k1 _ _ ?_))
 refine sx_seq fun K6 k6 => sx_region ?_
 refine sx_alloc [.bool false, (.slice none 0 0)] rfl Try.zeroValue29 rfl (fun b7 w8 eb7 sb7 fb7 cb7 => ?_)
 have zw8 := cb7.size
 refine wl_nil (q_n (k6 _ _ ?_))
 refine sx_seq fun K9 k9 => sx_region ?_
 refine sx_pure rfl rfl rfl (px_field rfl xfld24x0) ?_
 have f10 := fb2.ext cb4
 have f11 := f10.ext cb7
 refine sx_pure rfl rfl rfl (px_load rfl (f11.load1 rfl Try.isAgg4)) ?_
 refine sx_pure rfl rfl rfl (px_field rfl xfld29x0) ?_
 refine sx_store (vs := [.bool n1]) rfl rfl fb7 rfl Try.sizeOf4 (Nat.le_of_ble_eq_true rfl) (one_cons rfl one_nil) (fun w12 sw12 fw12 cw12 => ?_)
 have zw12 := cw12.size
 have gw12 : Blk w12 b7 [.bool n1, (.slice none 0 0)] 29 := fw12
 refine wl_nil (q_n (k9 _ _ ?_))
 refine sx_seq fun K13 k13 => sx_region ?_
 refine sx_pure rfl rfl rfl (px_field rfl xfld24x1) ?_
 have f14 := f11.chg cw12 (by omega)
 refine sx_pure rfl rfl rfl (px_load rfl (f14.load1 rfl Try.isAgg22)) ?_
 have f15 := hv10.ext cb2
 have f16 := f15.ext cb4
 have f17 := f16.ext cb7
 have f18 := f17.chg cw12 (by omega)
 refine sx_call rfl rfl Try.call43 (c_toIntS f18 (by omega)) (fun v19 w19 p19 => ?_)
 obtain ⟨s19, rfl, os_19, c19⟩ := p19
 have zw19 := c19.size
 refine sx_pure rfl rfl rfl (px_field rfl xfld29x1) ?_
 have f21 := gw12.ext c19
 refine sx_store (vs := [v19]) rfl rfl f21 (cells_one os_19.one) Try.sizeOf22 (Nat.le_of_ble_eq_true rfl) (one_cons os_19.one one_nil) (fun w20 sw20 fw20 cw20 => ?_)
 have zw20 := cw20.size
 have gw20 : Blk w20 b7 [.bool n1, v19] 29 := fw20
 refine wl_nil (q_n (k13 _ _ ?_))
 refine sx_seq fun K22 k22 => sx_region ?_
 refine sx_pure rfl rfl rfl (px_load rfl (gw20.loadA (vs := [.bool n1, v19]) (look_lit rfl) Try.isAgg29 Try.sizeOf29)) ?_
 have f24 := fb4.ext cb7
 have f25 := f24.chg cw12 (by omega)
 have f26 := f25.ext c19
 have f27 := f26.chg cw20 (by omega)
 have f28 := os_19.chg cw20 (by omega)
 refine sx_store (vs := [.bool n1, v19]) rfl rfl f27 rfl Try.sizeOf29 (Nat.le_of_ble_eq_true rfl) (one_cons rfl (one_cons f28.one one_nil)) (fun w23 sw23 fw23 cw23 => ?_)
 have zw23 := cw23.size
 have gw23 : Blk w23 b4 [.bool n1, v19] 29 := fw23
 refine wl_nil (q_n (k22 _ _ ?_))
 refine sx_retc ?_
 refine sx_ret1 Try.results42 ⟨_, rfl, gw23.loadA (vs := [.bool n1, v19]) (look_lit rfl) Try.isAgg29 Try.sizeOf29⟩ ?_
 have q29 := Chg.step (l := 0) (h := 0) (Chg.zero (l := 0) (h := 0) ((cb2.t cb4).t cb7)) cw12 (by omega)
 have q30 := Chg.step (l := 0) (h := 0) q29 c19 (by omega)
 have q31 := Chg.step (l := 0) (h := 0) q30 cw20 (by omega)
 have q32 := Chg.step (l := 0) (h := 0) q31 cw23 (by omega)
 have f33 := f28.chg cw23 (by omega)
 exact ⟨_, rfl, Own.mono f33 (by omega) (by omega), q32⟩

theorem c_toDec {w : World} {n1 : Bool} {v1 : Value} {lv1 uv1 : Nat} {z1 : List Int} {p1 : Int} (hv1 : Sl w lv1 uv1 v1 (z1)) (bz1 : z1.length ≤ 1048576) :
  Ret Try.prog 17 [.agg #[.bool n1, v1, .int .i64 p1]] w fun v w' => ∃ s1, v = .agg #[.bool (n1), s1, .int .i64 (p1)] ∧ OwnI w' w.heap.size w'.heap.size s1 intT (z1) ∧ Chg 0 0 w w' := by
 have hv10 := hv1.fit
 refine sx_enter Try.func17 rfl Try.ntmps17 (Nat.le_of_ble_eq_true rfl) ?_
 refine sx_seq fun K1 k1 => sx_region ?_
 refine sx_box [.bool n1, v1, .int .i64 p1] rfl rfl rfl (fun b2 w3 eb2 sb2 fb2 cb2 => ?_)
 have zw3 := cb2.size
 refine sx_alloc [.bool false, (.slice none 0 0), .int .i64 0] rfl Try.zeroValue31 rfl (fun b4 w5 eb4 sb4 fb4 cb4 => ?_)
 have zw5 := cb4.size
 refine wl_nil (q_n (k1 _ _ ?_))
 refine sx_seq fun K6 k6 => sx_region ?_
 refine sx_alloc [.bool false, (.slice none 0 0), .int .i64 0] rfl Try.zeroValue31 rfl (fun b7 w8 eb7 sb7 fb7 cb7 => ?_)
 have zw8 := cb7.size
 refine wl_nil (q_n (k6 _ _ ?_))
 refine sx_seq fun K9 k9 => sx_region ?_
 refine sx_pure rfl rfl rfl (px_field rfl xfld26x0) ?_
 have f10 := fb2.ext cb4
 have f11 := f10.ext cb7
 refine sx_pure rfl rfl rfl (px_load rfl (f11.loadA (vs := [.bool n1, v1]) (look_lit rfl) Try.isAgg24 Try.sizeOf24)) ?_
 have f12 := hv10.ext cb2
 have f13 := f12.ext cb4
 have f14 := f13.ext cb7
 refine sx_call rfl rfl Try.call42 (c_toSigned f14 (by omega)) (fun v15 w15 p15 => ?_)
 obtain ⟨s115, rfl, os1_15, c15⟩ := p15
 have zw15 := c15.size
 refine sx_pure rfl rfl rfl (px_field rfl xfld31x0) ?_
 have f17 := fb7.ext c15
 refine sx_store (vs := [.bool n1, s115]) rfl rfl f17 rfl Try.sizeOf29 (Nat.le_of_ble_eq_true rfl) (one_cons rfl (one_cons os1_15.one one_nil)) (fun w16 sw16 fw16 cw16 => ?_)
 have zw16 := cw16.size
 have gw16 : Blk w16 b7 [.bool n1, s115, .int .i64 0] 31 := fw16
 refine wl_nil (q_n (k9 _ _ ?_))
 refine sx_seq fun K18 k18 => sx_region ?_
 refine sx_pure rfl rfl rfl (px_field rfl xfld26x1) ?_
 have f19 := f11.ext c15
 have f20 := f19.chg cw16 (by omega)
 refine sx_pure rfl rfl rfl (px_load rfl (f20.load1 rfl Try.isAgg3)) ?_
 refine sx_pure rfl rfl rfl (px_field rfl xfld31x1) ?_
 refine sx_store (vs := [.int .i64 p1]) rfl rfl gw16 rfl Try.sizeOf3 (Nat.le_of_ble_eq_true rfl) (one_cons rfl one_nil) (fun w21 sw21 fw21 cw21 => ?_)
 have zw21 := cw21.size
 have gw21 : Blk w21 b7 [.bool n1, s115, .int .i64 p1] 31 := fw21
 refine wl_nil (q_n (k18 _ _ ?_))
 refine sx_seq fun K22 k22 => sx_region ?_
 refine sx_pure rfl rfl rfl (px_load rfl (gw21.loadA (vs := [.bool n1, s115, .int .i64 p1]) (look_lit rfl) Try.isAgg31 Try.sizeOf31)) ?_
 have f24 := fb4.ext cb7
 have f25 := f24.ext c15
 have f26 := f25.chg cw16 (by omega)
 have f27 := f26.chg cw21 (by omega)
 have f28 := os1_15.chg cw16 (by omega)
 have f29 := f28.chg cw21 (by omega)
 refine sx_store (vs := [.bool n1, s115, .int .i64 p1]) rfl rfl f27 rfl Try.sizeOf31 (Nat.le_of_ble_eq_true rfl) (one_cons rfl (one_cons f29.one (one_cons rfl one_nil))) (fun w23 sw23 fw23 cw23 => ?_)
 have zw23 := cw23.size
 have gw23 : Blk w23 b4 [.bool n1, s115, .int .i64 p1] 31 := fw23
 refine wl_nil (q_n (k22 _ _ ?_))
 refine sx_retc ?_
 refine sx_ret1 Try.results17 ⟨_, rfl, gw23.loadA (vs := [.bool n1, s115, .int .i64 p1]) (look_lit rfl) Try.isAgg31 Try.sizeOf31⟩ ?_
 have q30 := Chg.step (l := 0) (h := 0) (Chg.zero (l := 0) (h := 0) (((cb2.t cb4).t cb7).t c15)) cw16 (by omega)
 have q31 := Chg.step (l := 0) (h := 0) q30 cw21 (by omega)
 have q32 := Chg.step (l := 0) (h := 0) q31 cw23 (by omega)
 have f33 := f29.chg cw23 (by omega)
 exact ⟨_, rfl, Own.mono f33 (by omega) (by omega), q32⟩

theorem c_l01In {w : World} {n : Int} {lo : Int} {hi : Int} :
  Ret Try.prog 61 [.int .i64 n, .int .i64 lo, .int .i64 hi] w fun v w' => v = .bool (decide (lo ≤ n ∧ n ≤ hi)) ∧ Chg 0 0 w w' := by
 refine sx_enter Try.func61 rfl Try.ntmps61 (Nat.le_of_ble_eq_true rfl) ?_
 refine sx_seq fun K1 k1 => sx_region ?_
 refine sa rfl rfl rfl rfl ?_
 refine wl_nil (q_n (k1 _ _ ?_))
 refine sx_seq fun K2 k2 => sx_region ?_
 refine sm rfl rfl rfl rfl ?_
 refine sm rfl rfl rfl rfl ?_
 refine sx_pure rfl rfl rfl (px_ge rfl rfl) ?_
 refine sm rfl rfl rfl rfl ?_
 refine sx_tmpP (t := 10) rfl (fun h5 => ?_) (fun h5 => ?_)
 ·
  refine sx_guardT rfl rfl rfl ?_
  refine sm rfl rfl rfl rfl ?_
  refine sx_guardT rfl rfl rfl ?_
  refine sm rfl rfl rfl rfl ?_
  refine sx_guardT rfl rfl rfl ?_
  refine sx_pure rfl rfl rfl (px_le rfl rfl) ?_
  refine sx_pure rfl rfl rfl (px_pick rfl rfl) ?_
  refine sa rfl rfl rfl rfl ?_
  refine wl_nil (q_n (k2 _ _ ?_))
  refine sx_retc ?_
  refine sx_ret1 Try.results61 rfl ?_
  exact ⟨(by first | exact bIff (by omega) | exact bFalse (by omega) | exact bTrue (by omega)), (Chg.refl 0 0 _)⟩
 ·
  refine sx_guardF rfl rfl rfl rfl rfl rfl ?_
  refine sx_guardF rfl rfl rfl rfl rfl rfl ?_
  refine sx_guardF rfl rfl rfl rfl rfl rfl ?_
  refine sx_pure rfl rfl rfl (px_pick rfl rfl) ?_
  refine sa rfl rfl rfl rfl ?_
  refine wl_nil (q_n (k2 _ _ ?_))
  refine sx_retc ?_
  refine sx_ret1 Try.results61 rfl ?_
  exact ⟨(by first | exact bIff (by omega) | exact bFalse (by omega) | exact bTrue (by omega)), (Chg.refl 0 0 _)⟩

theorem c_sNatOk {w : World} {va : Value} {lva uva : Nat} {zs : List Int} (hva : Sl w lva uva va (zs)) (h63 : zs.length ≤ 4611686018427387904) :
  Ret Try.prog 103 [va] w fun v w' => v = .bool (decide (NOk zs)) ∧ Chg 0 0 w w' := by
 have hva0 := hva.fit
 refine sx_enter Try.func103 rfl Try.ntmps103 (Nat.le_of_ble_eq_true rfl) ?_
 refine sx_seq fun K1 k1 => sx_region ?_
 refine sa rfl rfl rfl rfl ?_
 refine wl_nil (q_n (k1 _ _ ?_))
 refine sx_seq fun K2 k2 => ?_
 refine sx_seq fun K3 k3 => sx_region ?_
 refine sm rfl rfl rfl rfl ?_
 refine sx_pure rfl rfl rfl (px_len rfl Try.underlying22 hva0) ?_
 refine sm rfl rfl rfl rfl ?_
 refine wl_nil (q_n (k3 _ _ ?_))
 refine sx_block ?_
 refine sx_loop (fun mm aa w' => ∃ (k : Nat), Agr 32 [(0, va), (5, va), (6, .int .i64 ↑zs.length), (7, .int .i64 ↑k)] aa ∧ Chg 0 0 w w' ∧ (mm = zs.length - k) ∧ (k ≤ zs.length) ∧ (∀ i, i < k → 0 ≤ zs.getD i 0 ∧ zs.getD i 0 < 1000000000)) (_) (fun a ha => ⟨0, ha.sub (Sub.cons (t := 0) rfl (.cons (t := 5) rfl (.cons (t := 6) (look_int (t := 6) rfl (by first | omega | simp)) (.cons (t := 7) (look_int (t := 7) rfl (by first | omega | simp)) (.nil))))), Chg.refl _ _ _, rfl, by omega, fun i h => by omega⟩) ?_
 rintro mm aa wl4 ⟨k, hAwl4, cwl4, hm, hk, hall⟩
 refine (show cw Try.prog 32 _ _ _ wl4 from ?_) aa hAwl4
 clear hAwl4
 have zwl4 := cwl4.size
 refine sx_seq fun K5 k5 => sx_region ?_
 refine sx_pure rfl rfl rfl (px_lt rfl rfl) ?_
 refine wl_nil (q_n (k5 _ _ ?_))
 refine sx_seq fun K6 k6 => ?_
 refine sx_condP rfl (fun h7 => ?_) (fun h7 => ?_)
 ·
  refine sx_skip ?_
  refine q_n (k6 _ _ ?_)
  refine sx_seq fun K7 k7 => ?_
  refine sx_block ?_
  refine sx_seq fun K8 k8 => sx_region ?_
  have f9 := hva0.ext cwl4
  refine sx_pure rfl rfl rfl (px_index1 (j := k) rfl rfl (by omega) Try.underlying22 Try.sizeOf3 f9 (by omega)) ?_
  refine sx_pure rfl rfl rfl (px_load rfl (f9.load1 (at_int (by omega)) Try.isAgg3)) ?_
  refine sa rfl rfl rfl rfl ?_
  refine wl_nil (q_n (k8 _ _ ?_))
  refine sx_seq fun K10 k10 => sx_region ?_
  refine sm rfl rfl rfl rfl ?_
  refine sx_call rfl rfl Try.call61 (c_l01In) (fun v11 w11 p11 => ?_)
  obtain ⟨rfl, c11⟩ := p11
  have zw11 := c11.size
  refine sx_pure rfl rfl rfl (px_notP rfl) ?_
  refine wl_nil (q_n (k10 _ _ ?_))
  refine sx_condP rfl (fun h8 => ?_) (fun h8 => ?_)
  ·
   refine sx_seq fun K12 k12 => sx_region ?_
   refine sa rfl rfl rfl rfl ?_
   refine wl_nil (q_n (k12 _ _ ?_))
   refine sx_retc ?_
   refine q_br (q_r (q_r (q_br (q_r (sx_ret1 Try.results103 rfl ?_)))))
   exact ⟨bFalse (fun h => by have h1 := h.1.getD k; omega), (cwl4.t c11)⟩
  ·
   refine sx_skip ?_
   refine q_bn (q_n (k7 _ _ ?_))
   refine sx_region ?_
   refine sx_pure rfl rfl rfl (px_add rfl rfl (by omega)) ?_
   refine sm rfl rfl rfl rfl ?_
   refine wl_nil ?_
   exact fun a ha => ⟨_, by omega, (k + 1), ha.sub (Sub.cons (t := 0) rfl (.cons (t := 5) rfl (.cons (t := 6) rfl (.cons (t := 7) (look_int (t := 7) rfl (by first | omega | simp)) (.nil))))), (cwl4.t c11), rfl, by omega, lm_succ hall (by omega)⟩
 ·
  refine sx_exit ?_
  refine q_e (q_e (q_bx (q_n (k2 _ _ ?_))))
  refine sx_seq fun K13 k13 => ?_
  have ek : k = zs.length := by omega
  have hz : Lm zs := lm_mem (by rw [← ek]; exact hall)
  refine sx_region ?_
  refine sm rfl rfl rfl rfl ?_
  have f14 := hva0.ext cwl4
  refine sx_pure rfl rfl rfl (px_len rfl Try.underlying22 f14) ?_
  refine sx_pure rfl rfl rfl (px_le rfl rfl) ?_
  refine sm rfl rfl rfl rfl ?_
  refine sx_tmpP (t := 18) rfl (fun h12 => ?_) (fun h12 => ?_)
  ·
   refine sx_guardT rfl rfl rfl ?_
   refine sm rfl rfl rfl rfl ?_
   refine sx_guardT rfl rfl rfl ?_
   refine sx_pure rfl rfl rfl (px_len rfl Try.underlying22 f14) ?_
   refine sx_guardT rfl rfl rfl ?_
   refine sx_pure rfl rfl rfl (px_eq rfl rfl) ?_
   refine sx_guardT rfl rfl rfl ?_
   refine sm rfl rfl rfl rfl ?_
   refine sx_tmpP (t := 22) rfl (fun h12x1 => ?_) (fun h12x1 => ?_)
   ·
    refine sx_guardF rfl rfl rfl rfl rfl rfl ?_
    refine sx_guardF rfl rfl rfl rfl rfl rfl ?_
    refine sx_guardF rfl rfl rfl rfl rfl rfl ?_
    refine sx_guardF rfl rfl rfl rfl rfl rfl ?_
    refine sx_guardF rfl rfl rfl rfl rfl rfl ?_
    refine sx_guardF rfl rfl rfl rfl rfl rfl ?_
    refine sx_guardF rfl rfl rfl rfl rfl rfl ?_
    refine sx_guardT rfl rfl rfl ?_
    refine sx_pure rfl rfl rfl (px_pick rfl rfl) ?_
    refine sx_pure rfl rfl rfl (px_pick rfl rfl) ?_
    refine sa rfl rfl rfl rfl ?_
    refine wl_nil (q_n (k13 _ _ ?_))
    refine sx_sub (Sub.cons (t := 2) rfl (.nil)) ?_
    refine sx_retc ?_
    refine sx_ret1 Try.results103 rfl ?_
    exact ⟨(by first | exact bFalse (fun h => by have h1 := h.2.1; omega) | exact bTrue (NOk_mk hz (by omega) (.inl (by omega))) | exact bIff (NOk_iff hz (by omega) (by omega))), cwl4⟩
   ·
    refine sx_guardT rfl rfl rfl ?_
    refine sm rfl rfl rfl rfl ?_
    refine sx_guardT rfl rfl rfl ?_
    refine sm rfl rfl rfl rfl ?_
    refine sx_guardT rfl rfl rfl ?_
    refine sx_pure rfl rfl rfl (px_len rfl Try.underlying22 f14) ?_
    refine sx_guardT rfl rfl rfl ?_
    refine sx_pure rfl rfl rfl (px_sub rfl rfl (by omega)) ?_
    refine sx_guardT rfl rfl rfl ?_
    refine sx_pure rfl rfl rfl (px_index1 (j := (zs.length - 1)) rfl rfl (by omega) Try.underlying22 Try.sizeOf3 f14 (by omega)) ?_
    refine sx_guardT rfl rfl rfl ?_
    refine sx_pure rfl rfl rfl (px_load rfl (f14.load1 (at_int (by omega)) Try.isAgg3)) ?_
    refine sx_guardT rfl rfl rfl ?_
    refine sx_pure rfl rfl rfl (px_ne rfl rfl) ?_
    refine sx_guardT rfl rfl rfl ?_
    refine sx_pure rfl rfl rfl (px_pick rfl rfl) ?_
    refine sx_pure rfl rfl rfl (px_pick rfl rfl) ?_
    refine sa rfl rfl rfl rfl ?_
    refine wl_nil (q_n (k13 _ _ ?_))
    refine sx_sub (Sub.cons (t := 2) rfl (.nil)) ?_
    refine sx_retc ?_
    refine sx_ret1 Try.results103 rfl ?_
    exact ⟨(by first | exact bFalse (fun h => by have h1 := h.2.1; omega) | exact bTrue (NOk_mk hz (by omega) (.inl (by omega))) | exact bIff (NOk_iff hz (by omega) (by omega))), cwl4⟩
  ·
   refine sx_guardF rfl rfl rfl rfl rfl rfl ?_
   refine sx_guardF rfl rfl rfl rfl rfl rfl ?_
   refine sx_guardF rfl rfl rfl rfl rfl rfl ?_
   refine sx_guardF rfl rfl rfl rfl rfl rfl ?_
   refine sx_guardFU rfl rfl rfl rfl rfl ?_
   refine sx_guardFU rfl rfl rfl rfl rfl ?_
   refine sx_guardFU rfl rfl rfl rfl rfl ?_
   refine sx_guardFU rfl rfl rfl rfl rfl ?_
   refine sx_guardFU rfl rfl rfl rfl rfl ?_
   refine sx_guardFU rfl rfl rfl rfl rfl ?_
   refine sx_guardFU rfl rfl rfl rfl rfl ?_
   refine sx_guardF rfl rfl rfl rfl rfl rfl ?_
   refine sx_pure rfl rfl rfl (px_pick rfl rfl) ?_
   refine sa rfl rfl rfl rfl ?_
   refine wl_nil (q_n (k13 _ _ ?_))
   refine sx_sub (Sub.cons (t := 2) rfl (.nil)) ?_
   refine sx_retc ?_
   refine sx_ret1 Try.results103 rfl ?_
   exact ⟨(by first | exact bFalse (fun h => by have h1 := h.2.1; omega) | exact bTrue (NOk_mk hz (by omega) (.inl (by omega))) | exact bIff (NOk_iff hz (by omega) (by omega))), cwl4⟩

theorem c_sIntOk {w : World} {n1 : Bool} {v1 : Value} {lv1 uv1 : Nat} {z1 : List Int} (hv1 : Sl w lv1 uv1 v1 (z1)) (h63 : z1.length ≤ 4611686018427387904) :
  Ret Try.prog 60 [.agg #[.bool n1, v1]] w fun v w' => v = .bool (decide (IOk n1 z1)) ∧ Chg 0 0 w w' := by
 have hv10 := hv1.fit
 refine sx_enter Try.func60 rfl Try.ntmps60 (Nat.le_of_ble_eq_true rfl) ?_
 refine sx_seq fun K1 k1 => sx_region ?_
 refine sx_box [.bool n1, v1] rfl rfl rfl (fun b2 w3 eb2 sb2 fb2 cb2 => ?_)
 have zw3 := cb2.size
 refine sa rfl rfl rfl rfl ?_
 refine wl_nil (q_n (k1 _ _ ?_))
 refine sx_seq fun K4 k4 => sx_region ?_
 refine sx_pure rfl rfl rfl (px_field rfl xfld29x1) ?_
 refine sx_pure rfl rfl rfl (px_load rfl (fb2.load1 rfl Try.isAgg22)) ?_
 have f5 := hv10.ext cb2
 refine sx_call rfl rfl Try.call103 (c_sNatOk f5 (by omega)) (fun v6 w6 p6 => ?_)
 obtain ⟨rfl, c6⟩ := p6
 have zw6 := c6.size
 refine sm rfl rfl rfl rfl ?_
 refine sx_tmpP (t := 6) rfl (fun h6 => ?_) (fun h6 => ?_)
 ·
  refine sx_guardT rfl rfl rfl ?_
  refine sx_pure rfl rfl rfl (px_field rfl xfld29x0) ?_
  refine sx_guardT rfl rfl rfl ?_
  have f7 := fb2.ext c6
  refine sx_pure rfl rfl rfl (px_load rfl (f7.load1 rfl Try.isAgg4)) ?_
  refine sx_guardT rfl rfl rfl ?_
  refine sx_pure rfl rfl rfl (px_not rfl) ?_
  refine sx_guardT rfl rfl rfl ?_
  refine sm rfl rfl rfl rfl ?_
  refine sx_tmpB (t := 10) rfl (fun h6x1 => ?_) (fun h6x1 => ?_)
  ·
   refine sx_guardF rfl rfl rfl rfl rfl rfl ?_
   refine sx_guardF rfl rfl rfl rfl rfl rfl ?_
   refine sx_guardF rfl rfl rfl rfl rfl rfl ?_
   refine sx_guardF rfl rfl rfl rfl rfl rfl ?_
   refine sx_guardT rfl rfl rfl ?_
   refine sx_pure rfl rfl rfl (px_pick rfl rfl) ?_
   refine sx_pure rfl rfl rfl (px_pick rfl rfl) ?_
   refine sa rfl rfl rfl rfl ?_
   refine wl_nil (q_n (k4 _ _ ?_))
   refine sx_sub (Sub.cons (t := 2) rfl (.nil)) ?_
   refine sx_retc ?_
   refine sx_ret1 Try.results60 rfl ?_
   exact ⟨(by first | exact bTrue (by grind [IOk]) | exact bFalse (by grind [IOk]) | exact bIff (by grind [IOk])), (cb2.t c6)⟩
  ·
   refine sx_guardT rfl rfl rfl ?_
   refine sx_pure rfl rfl rfl (px_field rfl xfld29x1) ?_
   refine sx_guardT rfl rfl rfl ?_
   refine sx_pure rfl rfl rfl (px_load rfl (f7.load1 rfl Try.isAgg22)) ?_
   refine sx_guardT rfl rfl rfl ?_
   have f8 := f5.ext c6
   refine sx_pure rfl rfl rfl (px_len rfl Try.underlying22 f8) ?_
   refine sx_guardT rfl rfl rfl ?_
   refine sx_pure rfl rfl rfl (px_gt rfl rfl) ?_
   refine sx_guardT rfl rfl rfl ?_
   refine sx_pure rfl rfl rfl (px_pick rfl rfl) ?_
   refine sx_pure rfl rfl rfl (px_pick rfl rfl) ?_
   refine sa rfl rfl rfl rfl ?_
   refine wl_nil (q_n (k4 _ _ ?_))
   refine sx_sub (Sub.cons (t := 2) rfl (.nil)) ?_
   refine sx_retc ?_
   refine sx_ret1 Try.results60 rfl ?_
   exact ⟨(by first | exact bTrue (by grind [IOk]) | exact bFalse (by grind [IOk]) | exact bIff (by grind [IOk])), (cb2.t c6)⟩
 ·
  refine sx_guardF rfl rfl rfl rfl rfl rfl ?_
  refine sx_guardF rfl rfl rfl rfl rfl rfl ?_
  refine sx_guardF rfl rfl rfl rfl rfl rfl ?_
  refine sx_guardF rfl rfl rfl rfl rfl rfl ?_
  refine sx_guardFU rfl rfl rfl rfl rfl ?_
  refine sx_guardFU rfl rfl rfl rfl rfl ?_
  refine sx_guardFU rfl rfl rfl rfl rfl ?_
  refine sx_guardFU rfl rfl rfl rfl rfl ?_
  refine sx_guardF rfl rfl rfl rfl rfl rfl ?_
  refine sx_pure rfl rfl rfl (px_pick rfl rfl) ?_
  refine sa rfl rfl rfl rfl ?_
  refine wl_nil (q_n (k4 _ _ ?_))
  refine sx_sub (Sub.cons (t := 2) rfl (.nil)) ?_
  refine sx_retc ?_
  refine sx_ret1 Try.results60 rfl ?_
  exact ⟨(by first | exact bTrue (by grind [IOk]) | exact bFalse (by grind [IOk]) | exact bIff (by grind [IOk])), (cb2.t c6)⟩

theorem c_sDecOk {w : World} {n1 : Bool} {v1 : Value} {lv1 uv1 : Nat} {z1 : List Int} {p1 : Int} (hv1 : Sl w lv1 uv1 v1 (z1)) (h63 : z1.length ≤ 4611686018427387904) :
  Ret Try.prog 16 [.agg #[.bool n1, v1, .int .i64 p1]] w fun v w' => v = .bool (decide (DOk n1 z1 p1)) ∧ Chg 0 0 w w' := by
 have hv10 := hv1.fit
 refine sx_enter Try.func16 rfl Try.ntmps16 (Nat.le_of_ble_eq_true rfl) ?_
 refine sx_seq fun K1 k1 => sx_region ?_
 refine sx_box [.bool n1, v1, .int .i64 p1] rfl rfl rfl (fun b2 w3 eb2 sb2 fb2 cb2 => ?_)
 have zw3 := cb2.size
 refine sa rfl rfl rfl rfl ?_
 refine wl_nil (q_n (k1 _ _ ?_))
 refine sx_seq fun K4 k4 => sx_region ?_
 refine sx_pure rfl rfl rfl (px_field rfl xfld31x0) ?_
 refine sx_pure rfl rfl rfl (px_load rfl (fb2.loadA (vs := [.bool n1, v1]) (look_lit rfl) Try.isAgg29 Try.sizeOf29)) ?_
 have f5 := hv10.ext cb2
 refine sx_call rfl rfl Try.call60 (c_sIntOk f5 (by omega)) (fun v6 w6 p6 => ?_)
 obtain ⟨rfl, c6⟩ := p6
 have zw6 := c6.size
 refine sm rfl rfl rfl rfl ?_
 refine sx_tmpP (t := 6) rfl (fun h7 => ?_) (fun h7 => ?_)
 ·
  refine sx_guardT rfl rfl rfl ?_
  refine sx_pure rfl rfl rfl (px_field rfl xfld31x0) ?_
  refine sx_guardT rfl rfl rfl ?_
  refine sx_pure rfl rfl rfl (px_field rfl xfld29x1) ?_
  refine sx_guardT rfl rfl rfl ?_
  have f7 := fb2.ext c6
  refine sx_pure rfl rfl rfl (px_load rfl (f7.load1 rfl Try.isAgg22)) ?_
  refine sx_guardT rfl rfl rfl ?_
  have f8 := f5.ext c6
  refine sx_pure rfl rfl rfl (px_len rfl Try.underlying22 f8) ?_
  refine sx_guardT rfl rfl rfl ?_
  refine sx_pure rfl rfl rfl (px_le rfl rfl) ?_
  refine sx_pure rfl rfl rfl (px_pick rfl rfl) ?_
  refine sm rfl rfl rfl rfl ?_
  refine sx_tmpP (t := 13) rfl (fun h7x1 => ?_) (fun h7x1 => ?_)
  ·
   refine sx_guardT rfl rfl rfl ?_
   refine sx_pure rfl rfl rfl (px_field rfl xfld31x1) ?_
   refine sx_guardT rfl rfl rfl ?_
   refine sx_pure rfl rfl rfl (px_load rfl (f7.load1 rfl Try.isAgg3)) ?_
   refine sx_guardT rfl rfl rfl ?_
   refine sx_call rfl rfl Try.call61 (c_l01In) (fun v9 w9 p9 => ?_)
   obtain ⟨rfl, c9⟩ := p9
   have zw9 := c9.size
   refine sx_pure rfl rfl rfl (px_pick rfl rfl) ?_
   refine sa rfl rfl rfl rfl ?_
   refine wl_nil (q_n (k4 _ _ ?_))
   refine sx_sub (Sub.cons (t := 2) rfl (.nil)) ?_
   refine sx_retc ?_
   refine sx_ret1 Try.results16 rfl ?_
   exact ⟨(by first | exact bTrue (by grind [DOk]) | exact bFalse (by grind [DOk]) | exact bIff (by grind [DOk])), ((cb2.t c6).t c9)⟩
  ·
   refine sx_guardF rfl rfl rfl rfl rfl rfl ?_
   refine sx_guardF rfl rfl rfl rfl rfl rfl ?_
   refine sx_guardF rfl rfl rfl rfl rfl rfl ?_
   refine sx_pure rfl rfl rfl (px_pick rfl rfl) ?_
   refine sa rfl rfl rfl rfl ?_
   refine wl_nil (q_n (k4 _ _ ?_))
   refine sx_sub (Sub.cons (t := 2) rfl (.nil)) ?_
   refine sx_retc ?_
   refine sx_ret1 Try.results16 rfl ?_
   exact ⟨(by first | exact bTrue (by grind [DOk]) | exact bFalse (by grind [DOk]) | exact bIff (by grind [DOk])), (cb2.t c6)⟩
 ·
  refine sx_guardF rfl rfl rfl rfl rfl rfl ?_
  refine sx_guardF rfl rfl rfl rfl rfl rfl ?_
  refine sx_guardF rfl rfl rfl rfl rfl rfl ?_
  refine sx_guardF rfl rfl rfl rfl rfl rfl ?_
  refine sx_guardF rfl rfl rfl rfl rfl rfl ?_
  refine sx_pure rfl rfl rfl (px_pick rfl rfl) ?_
  refine sm rfl rfl rfl rfl ?_
  refine sx_guardF rfl rfl rfl rfl rfl rfl ?_
  refine sx_guardF rfl rfl rfl rfl rfl rfl ?_
  refine sx_guardF rfl rfl rfl rfl rfl rfl ?_
  refine sx_pure rfl rfl rfl (px_pick rfl rfl) ?_
  refine sa rfl rfl rfl rfl ?_
  refine wl_nil (q_n (k4 _ _ ?_))
  refine sx_sub (Sub.cons (t := 2) rfl (.nil)) ?_
  refine sx_retc ?_
  refine sx_ret1 Try.results16 rfl ?_
  exact ⟨(by first | exact bTrue (by grind [DOk]) | exact bFalse (by grind [DOk]) | exact bIff (by grind [DOk])), (cb2.t c6)⟩

theorem c_sNatTen {w : World} {k : Int} (hk : 0 ≤ k ∧ k ≤ 449) :
  Ret Try.prog 123 [.int .i64 k] w fun v w' => ∃ s, v = s ∧ OwnI w' w.heap.size w'.heap.size s intT (dg (10 ^ (k).toNat)) ∧ Chg 0 0 w w' := by
 refine sx_enter Try.func123 rfl Try.ntmps123 (Nat.le_of_ble_eq_true rfl) ?_
 refine sx_seq fun K1 k1 => sx_region ?_
 refine sa rfl rfl rfl rfl ?_
 refine wl_nil (q_n (k1 _ _ ?_))
 refine sx_seq fun K2 k2 => ?_
 refine sx_seq fun K3 k3 => sx_region ?_
 refine sm rfl rfl rfl rfl ?_
 refine sx_call rfl rfl Try.call61 (c_l01In) (fun v4 w4 p4 => ?_)
 obtain ⟨rfl, c4⟩ := p4
 have zw4 := c4.size
 refine sx_pure rfl rfl rfl (px_notP rfl) ?_
 refine wl_nil (q_n (k3 _ _ ?_))
 have h76 : ¬ (¬ (0 ≤ k ∧ k ≤ 449)) := by omega
 refine sx_condPF rfl h76 ?_
 refine sx_skip ?_
 refine q_n (k2 _ _ ?_)
 refine sx_seq fun K5 k5 => sx_region ?_
 refine sm rfl rfl rfl rfl ?_
 refine sx_pure rfl rfl rfl (px_quo rfl rfl (by omega) (by omega) (by omega)) ?_
 refine sx_make (c := (k / 9).toNat) rfl xelt22 (look_int rfl (by omega)) (look_int rfl (by omega)) (by omega) (by unfold maxLen; omega) (fun s6 ws6 fs6 cs6 ls6 => ?_)
 have ns6 := fs6.made
 have zws6 := cs6.size
 refine sa rfl rfl rfl rfl ?_
 refine wl_nil (q_n (k5 _ _ ?_))
 refine sx_seq fun K7 k7 => sx_region ?_
 refine sa rfl rfl rfl rfl ?_
 refine wl_nil (q_n (k7 _ _ ?_))
 refine sx_seq fun K8 k8 => ?_
 refine sx_seq fun K9 k9 => sx_region ?_
 refine sa rfl rfl rfl rfl ?_
 refine wl_nil (q_n (k9 _ _ ?_))
 refine sx_block ?_
 refine sx_loop (fun mm aa w' => ∃ (j : Nat) (c : Nat), Agr 24 [(0, .int .i64 k), (3, s6), (4, .int .i64 ((c : Nat) : Int)), (5, .int .i64 ↑j)] aa ∧ Chg 0 0 ws6 w' ∧ Own w' w4.heap.size ws6.heap.size s6 3 ((List.replicate ((k / 9).toNat) 0).length) 1 ((List.replicate ((k / 9).toNat) 0).map (Value.int .i64)) ∧ (mm = (k % 9).toNat - j) ∧ ((j : Int) ≤ k % 9) ∧ (c = 10 ^ j)) (_) (fun a ha => ⟨0, 1, ha.sub (Sub.cons (t := 0) rfl (.cons (t := 3) rfl (.cons (t := 4) (look_int (t := 4) rfl (by first | omega | simp)) (.cons (t := 5) (look_int (t := 5) rfl (by first | omega | simp)) (.nil))))), Chg.refl _ _ _, (ns6.mono (by omega) (by omega)), rfl, by omega, rfl⟩) ?_
 rintro mm aa wl10 ⟨j, c, hAwl10, cwl10, hs_s6, hm, hj, hc⟩
 refine (show cw Try.prog 24 _ _ _ wl10 from ?_) aa hAwl10
 clear hAwl10
 have zwl10 := cwl10.size
 have hb9 := ten_le (j := j) (by omega)
 refine sx_seq fun K11 k11 => ?_
 refine sx_seq fun K12 k12 => sx_region ?_
 refine sm rfl rfl rfl rfl ?_
 refine sm rfl rfl rfl rfl ?_
 refine sx_pure rfl rfl rfl (px_rem rfl rfl (by omega) (by omega)) ?_
 refine sx_pure rfl rfl rfl (px_lt rfl rfl) ?_
 refine wl_nil (q_n (k12 _ _ ?_))
 refine sx_condP rfl (fun h81 => ?_) (fun h81 => ?_)
 ·
  refine sx_skip ?_
  refine q_n (k11 _ _ ?_)
  refine sx_seq fun K13 k13 => ?_
  refine sx_block ?_
  refine sx_region ?_
  refine sm rfl rfl rfl rfl ?_
  refine sx_pure rfl rfl rfl (px_mul rfl rfl (by omega)) ?_
  refine sa rfl rfl rfl rfl ?_
  refine wl_nil ?_
  refine q_bn (q_n (k13 _ _ ?_))
  refine sx_region ?_
  refine sm rfl rfl rfl rfl ?_
  refine sx_pure rfl rfl rfl (px_add rfl rfl (by omega)) ?_
  refine sa rfl rfl rfl rfl ?_
  refine wl_nil ?_
  exact fun a ha => ⟨_, by omega, (j + 1), (c * 10), ha.sub (Sub.cons (t := 0) rfl (.cons (t := 3) rfl (.cons (t := 4) (look_int (t := 4) rfl (by first | omega | simp)) (.cons (t := 5) (look_int (t := 5) rfl (by first | omega | simp)) (.nil))))), cwl10, (hs_s6.mono (by omega) (by omega)), rfl, by omega, by rw [hc, Nat.pow_succ]⟩
 ·
  refine sx_exit ?_
  refine q_e (q_e (q_bx (q_n (k8 _ _ ?_))))
  refine sx_seq fun K14 k14 => sx_region ?_
  refine sm rfl rfl rfl rfl ?_
  refine sm rfl rfl rfl rfl ?_
  refine sx_lit1 rfl xelt22 rfl rfl (fun s15 ws15 ss15 fs15 cs15 => ?_)
  have ns15 := Own.norm (f := (Value.int .i64)) (zs := [((c : Nat) : Int)]) fs15
  have zws15 := cs15.size
  have f17 := hs_s6.ext cs15
  refine sx_append rfl xelt22 rfl rfl f17 ns15.sv one_int (by omega) (by simp only [List.length_replicate, List.length_cons, List.length_nil]; omega) (by unfold maxLen; simp only [List.length_replicate, List.length_cons, List.length_nil]; omega) (fun a16 w16 fw16 cw16 => ?_)
  have nw16 := Own.app (f := (Value.int .i64)) (a := List.replicate ((k / 9).toNat) 0) (b := [((c : Nat) : Int)]) fw16
  have zw16 := cw16.size
  refine sa rfl rfl rfl rfl ?_
  refine wl_nil (q_n (k14 _ _ ?_))
  refine sx_retc ?_
  refine sx_ret1 Try.results123 rfl ?_
  have hd := ten_dg hk.1 (j := j) (by omega) hc
  rw [← hd]
  have q18 := Chg.step (l := 0) (h := 0) (Chg.zero (l := 0) (h := 0) (((c4.t cs6).t cwl10).t cs15)) cw16 (by omega)
  exact ⟨_, rfl, (Own.mono nw16 (by omega) (by omega)), q18⟩

theorem c_l07Ten {w : World} {k : Int} (hk : 0 ≤ k ∧ k ≤ 449) :
  Ret Try.prog 96 [.int .i64 k] w fun v w' => ∃ s, v = .agg #[.bool (ng (tenI k)), s] ∧ OwnI w' w.heap.size w'.heap.size s intT (dg (tenI k).natAbs) ∧ Chg 0 0 w w' := by
 refine sx_enter Try.func96 rfl Try.ntmps96 (Nat.le_of_ble_eq_true rfl) ?_
 refine sx_seq fun K1 k1 => sx_region ?_
 refine sx_alloc [.bool false, (.slice none 0 0)] rfl Try.zeroValue29 rfl (fun b2 w3 eb2 sb2 fb2 cb2 => ?_)
 have zw3 := cb2.size
 refine wl_nil (q_n (k1 _ _ ?_))
 refine sx_seq fun K4 k4 => sx_region ?_
 refine sm rfl rfl rfl rfl ?_
 refine sx_call rfl rfl Try.call123 (c_sNatTen (by omega)) (fun v5 w5 p5 => ?_)
 obtain ⟨s5, rfl, os_5, c5⟩ := p5
 have zw5 := c5.size
 refine sx_pure rfl rfl rfl (px_build rfl (xbld29x1 os_5.one _)) ?_
 have f7 := fb2.ext c5
 refine sx_store (vs := [.bool false, v5]) rfl rfl f7 rfl Try.sizeOf29 (Nat.le_of_ble_eq_true rfl) (one_cons rfl (one_cons os_5.one one_nil)) (fun w6 sw6 fw6 cw6 => ?_)
 have zw6 := cw6.size
 have gw6 : Blk w6 b2 [.bool false, v5] 29 := fw6
 refine wl_nil (q_n (k4 _ _ ?_))
 refine sx_retc ?_
 refine sx_ret1 Try.results96 ⟨_, rfl, gw6.loadA (vs := [.bool false, v5]) (look_lit rfl) Try.isAgg29 Try.sizeOf29⟩ ?_
 rw [← ten_ng, tenI_abs]
 have q8 := Chg.step (l := 0) (h := 0) (Chg.zero (l := 0) (h := 0) (cb2.t c5)) cw6 (by omega)
 have f9 := os_5.chg cw6 (by omega)
 exact ⟨_, rfl, (Own.mono f9 (by omega) (by omega)), q8⟩

theorem c_l02Trim {w : World} {va : Value} {lva uva : Nat} {zs : List Int} (hva : OwnI w lva uva va intT (zs)) (hz : Lm zs) (h63 : zs.length ≤ 1000000) :
  Ret Try.prog 117 [va] w fun v w' => ∃ s, v = s ∧ OwnI w' (lva) (uva) s intT (dg (vl zs)) ∧ Chg 0 0 w w' := by
 refine sx_enter Try.func117 rfl Try.ntmps117 (Nat.le_of_ble_eq_true rfl) ?_
 refine sx_seq fun K1 k1 => sx_region ?_
 refine sa rfl rfl rfl rfl ?_
 refine wl_nil (q_n (k1 _ _ ?_))
 refine sx_seq fun K2 k2 => sx_region ?_
 refine sm rfl rfl rfl rfl ?_
 refine sx_pure rfl rfl rfl (px_len rfl Try.underlying22 hva.sv) ?_
 refine sa rfl rfl rfl rfl ?_
 refine wl_nil (q_n (k2 _ _ ?_))
 refine sx_seq fun K3 k3 => ?_
 refine sx_block ?_
 refine sx_loop (fun mm aa w' => ∃ (k : Nat), Agr 21 [(0, va), (3, .int .i64 ↑k)] aa ∧ Chg 0 0 w w' ∧ (mm = k) ∧ (k ≤ zs.length) ∧ (vl (zs.take k) = vl zs)) (_) (fun a ha => ⟨zs.length, ha.sub (Sub.cons (t := 0) rfl (.cons (t := 3) (look_int (t := 3) rfl (by first | omega | simp)) (.nil))), Chg.refl _ _ _, rfl, by omega, vl_take_all zs⟩) ?_
 rintro mm aa wl4 ⟨k, hAwl4, cwl4, hm, hk, hv⟩
 refine (show cw Try.prog 21 _ _ _ wl4 from ?_) aa hAwl4
 clear hAwl4
 have zwl4 := cwl4.size
 refine sx_seq fun K5 k5 => ?_
 refine sx_seq fun K6 k6 => sx_region ?_
 refine sm rfl rfl rfl rfl ?_
 refine sx_pure rfl rfl rfl (px_gt rfl rfl) ?_
 refine sm rfl rfl rfl rfl ?_
 refine sx_tmpP (t := 8) rfl (fun h17 => ?_) (fun h17 => ?_)
 ·
  refine sx_guardT rfl rfl rfl ?_
  refine sm rfl rfl rfl rfl ?_
  refine sx_guardT rfl rfl rfl ?_
  refine sm rfl rfl rfl rfl ?_
  refine sx_guardT rfl rfl rfl ?_
  refine sx_pure rfl rfl rfl (px_sub rfl rfl (by omega)) ?_
  refine sx_guardT rfl rfl rfl ?_
  have f7 := hva.ext cwl4
  refine sx_pure rfl rfl rfl (px_index1 (j := (k - 1)) rfl rfl (by omega) Try.underlying22 Try.sizeOf3 f7.sv (by omega)) ?_
  refine sx_guardT rfl rfl rfl ?_
  refine sx_pure rfl rfl rfl (px_load rfl (f7.sv.load1 (at_int (by omega)) Try.isAgg3)) ?_
  refine sx_guardT rfl rfl rfl ?_
  refine sx_pure rfl rfl rfl (px_eq rfl rfl) ?_
  refine sx_pure rfl rfl rfl (px_pick rfl rfl) ?_
  refine wl_nil (q_n (k6 _ _ ?_))
  refine sx_condP rfl (fun h17x1 => ?_) (fun h17x1 => ?_)
  ·
   refine sx_skip ?_
   refine q_n (k5 _ _ ?_)
   refine sx_block ?_
   refine sx_region ?_
   refine sm rfl rfl rfl rfl ?_
   refine sx_pure rfl rfl rfl (px_sub rfl rfl (by omega)) ?_
   refine sa rfl rfl rfl rfl ?_
   refine wl_nil ?_
   exact q_bn (fun a ha => ⟨_, by omega, (k - 1), ha.sub (Sub.cons (t := 0) rfl (.cons (t := 3) (look_int (t := 3) rfl (by first | omega | simp)) (.nil))), cwl4, rfl, by omega, trim_step (by omega) hk (by rw [getD_take (by omega)]; exact h17x1) hv⟩)
  ·
   refine sx_exit ?_
   refine q_e (q_e (q_bx (q_n (k3 _ _ ?_))))
   refine sx_seq fun K8 k8 => sx_region ?_
   refine sm rfl rfl rfl rfl ?_
   refine sm rfl rfl rfl rfl ?_
   refine sx_pure rfl rfl rfl (px_sliceTo (h := k) rfl rfl (by omega) Try.underlying22 Try.sizeOf3 f7.sv (by omega)) ?_
   refine sa rfl rfl rfl rfl ?_
   refine wl_nil (q_n (k8 _ _ ?_))
   refine sx_sub (Sub.cons (t := 2) rfl (.nil)) ?_
   refine sx_retc ?_
   refine sx_ret1 Try.results117 rfl ?_
   have hd := trim_done hz hk hv (by first | exact .inl (by omega) | exact .inr (by rw [getD_take (by omega)]; assumption))
   rw [← hd]
   exact ⟨_, rfl, (Own.takeI f7 (h := k) (by omega)), cwl4⟩
 ·
  refine sx_guardF rfl rfl rfl rfl rfl rfl ?_
  refine sx_guardF rfl rfl rfl rfl rfl rfl ?_
  refine sx_guardF rfl rfl rfl rfl rfl rfl ?_
  refine sx_guardF rfl rfl rfl rfl rfl rfl ?_
  refine sx_guardF rfl rfl rfl rfl rfl rfl ?_
  refine sx_guardF rfl rfl rfl rfl rfl rfl ?_
  refine sx_pure rfl rfl rfl (px_pick rfl rfl) ?_
  refine wl_nil (q_n (k6 _ _ ?_))
  refine sx_condF rfl ?_
  refine sx_exit ?_
  refine q_e (q_e (q_bx (q_n (k3 _ _ ?_))))
  refine sx_seq fun K9 k9 => sx_region ?_
  refine sm rfl rfl rfl rfl ?_
  refine sm rfl rfl rfl rfl ?_
  have f10 := hva.ext cwl4
  refine sx_pure rfl rfl rfl (px_sliceTo (h := k) rfl rfl (by omega) Try.underlying22 Try.sizeOf3 f10.sv (by omega)) ?_
  refine sa rfl rfl rfl rfl ?_
  refine wl_nil (q_n (k9 _ _ ?_))
  refine sx_sub (Sub.cons (t := 2) rfl (.nil)) ?_
  refine sx_retc ?_
  refine sx_ret1 Try.results117 rfl ?_
  have hd := trim_done hz hk hv (by first | exact .inl (by omega) | exact .inr (by rw [getD_take (by omega)]; assumption))
  rw [← hd]
  exact ⟨_, rfl, (Own.takeI f10 (h := k) (by omega)), cwl4⟩

theorem c_l02TrimS {w : World} {va : Value} {lva uva : Nat} {zs : List Int} (hva : Sl w lva uva va (zs)) (hz : Lm zs) (h63 : zs.length ≤ 1000000) :
  Ret Try.prog 117 [va] w fun v w' => ∃ s, v = s ∧ Sl w' (lva) (uva) s (dg (vl zs)) ∧ Chg 0 0 w w' := by
 refine sx_enter Try.func117 rfl Try.ntmps117 (Nat.le_of_ble_eq_true rfl) ?_
 refine sx_seq fun K1 k1 => sx_region ?_
 refine sa rfl rfl rfl rfl ?_
 refine wl_nil (q_n (k1 _ _ ?_))
 refine sx_seq fun K2 k2 => sx_region ?_
 refine sm rfl rfl rfl rfl ?_
 refine sx_pure rfl rfl rfl (px_len rfl Try.underlying22 hva) ?_
 refine sa rfl rfl rfl rfl ?_
 refine wl_nil (q_n (k2 _ _ ?_))
 refine sx_seq fun K3 k3 => ?_
 refine sx_block ?_
 refine sx_loop (fun mm aa w' => ∃ (k : Nat), Agr 21 [(0, va), (3, .int .i64 ↑k)] aa ∧ Chg 0 0 w w' ∧ (mm = k) ∧ (k ≤ zs.length) ∧ (vl (zs.take k) = vl zs)) (_) (fun a ha => ⟨zs.length, ha.sub (Sub.cons (t := 0) rfl (.cons (t := 3) (look_int (t := 3) rfl (by first | omega | simp)) (.nil))), Chg.refl _ _ _, rfl, by omega, vl_take_all zs⟩) ?_
 rintro mm aa wl4 ⟨k, hAwl4, cwl4, hm, hk, hv⟩
 refine (show cw Try.prog 21 _ _ _ wl4 from ?_) aa hAwl4
 clear hAwl4
 have zwl4 := cwl4.size
 refine sx_seq fun K5 k5 => ?_
 refine sx_seq fun K6 k6 => sx_region ?_
 refine sm rfl rfl rfl rfl ?_
 refine sx_pure rfl rfl rfl (px_gt rfl rfl) ?_
 refine sm rfl rfl rfl rfl ?_
 refine sx_tmpP (t := 8) rfl (fun h17 => ?_) (fun h17 => ?_)
 ·
  refine sx_guardT rfl rfl rfl ?_
  refine sm rfl rfl rfl rfl ?_
  refine sx_guardT rfl rfl rfl ?_
  refine sm rfl rfl rfl rfl ?_
  refine sx_guardT rfl rfl rfl ?_
  refine sx_pure rfl rfl rfl (px_sub rfl rfl (by omega)) ?_
  refine sx_guardT rfl rfl rfl ?_
  have f7 := hva.ext cwl4
  refine sx_pure rfl rfl rfl (px_index1 (j := (k - 1)) rfl rfl (by omega) Try.underlying22 Try.sizeOf3 f7 (by omega)) ?_
  refine sx_guardT rfl rfl rfl ?_
  refine sx_pure rfl rfl rfl (px_load rfl (f7.load1 (at_int (by omega)) Try.isAgg3)) ?_
  refine sx_guardT rfl rfl rfl ?_
  refine sx_pure rfl rfl rfl (px_eq rfl rfl) ?_
  refine sx_pure rfl rfl rfl (px_pick rfl rfl) ?_
  refine wl_nil (q_n (k6 _ _ ?_))
  refine sx_condP rfl (fun h17x1 => ?_) (fun h17x1 => ?_)
  ·
   refine sx_skip ?_
   refine q_n (k5 _ _ ?_)
   refine sx_block ?_
   refine sx_region ?_
   refine sm rfl rfl rfl rfl ?_
   refine sx_pure rfl rfl rfl (px_sub rfl rfl (by omega)) ?_
   refine sa rfl rfl rfl rfl ?_
   refine wl_nil ?_
   exact q_bn (fun a ha => ⟨_, by omega, (k - 1), ha.sub (Sub.cons (t := 0) rfl (.cons (t := 3) (look_int (t := 3) rfl (by first | omega | simp)) (.nil))), cwl4, rfl, by omega, trim_step (by omega) hk (by rw [getD_take (by omega)]; exact h17x1) hv⟩)
  ·
   refine sx_exit ?_
   refine q_e (q_e (q_bx (q_n (k3 _ _ ?_))))
   refine sx_seq fun K8 k8 => sx_region ?_
   refine sm rfl rfl rfl rfl ?_
   refine sm rfl rfl rfl rfl ?_
   refine sx_pure rfl rfl rfl (px_sliceTo (h := k) rfl rfl (by omega) Try.underlying22 Try.sizeOf3 f7 (by omega)) ?_
   refine sa rfl rfl rfl rfl ?_
   refine wl_nil (q_n (k8 _ _ ?_))
   refine sx_sub (Sub.cons (t := 2) rfl (.nil)) ?_
   refine sx_retc ?_
   refine sx_ret1 Try.results117 rfl ?_
   have hd := trim_done hz hk hv (by first | exact .inl (by omega) | exact .inr (by rw [getD_take (by omega)]; assumption))
   rw [← hd]
   exact ⟨_, rfl, (Sv.takeI f7 (h := k) (by omega)), cwl4⟩
 ·
  refine sx_guardF rfl rfl rfl rfl rfl rfl ?_
  refine sx_guardF rfl rfl rfl rfl rfl rfl ?_
  refine sx_guardF rfl rfl rfl rfl rfl rfl ?_
  refine sx_guardF rfl rfl rfl rfl rfl rfl ?_
  refine sx_guardF rfl rfl rfl rfl rfl rfl ?_
  refine sx_guardF rfl rfl rfl rfl rfl rfl ?_
  refine sx_pure rfl rfl rfl (px_pick rfl rfl) ?_
  refine wl_nil (q_n (k6 _ _ ?_))
  refine sx_condF rfl ?_
  refine sx_exit ?_
  refine q_e (q_e (q_bx (q_n (k3 _ _ ?_))))
  refine sx_seq fun K9 k9 => sx_region ?_
  refine sm rfl rfl rfl rfl ?_
  refine sm rfl rfl rfl rfl ?_
  have f10 := hva.ext cwl4
  refine sx_pure rfl rfl rfl (px_sliceTo (h := k) rfl rfl (by omega) Try.underlying22 Try.sizeOf3 f10 (by omega)) ?_
  refine sa rfl rfl rfl rfl ?_
  refine wl_nil (q_n (k9 _ _ ?_))
  refine sx_sub (Sub.cons (t := 2) rfl (.nil)) ?_
  refine sx_retc ?_
  refine sx_ret1 Try.results117 rfl ?_
  have hd := trim_done hz hk hv (by first | exact .inl (by omega) | exact .inr (by rw [getD_take (by omega)]; assumption))
  rw [← hd]
  exact ⟨_, rfl, (Sv.takeI f10 (h := k) (by omega)), cwl4⟩

theorem c_l02TrimD {w : World} {va : Value} {lva uva : Nat} {m : Nat} (hva : Sl w lva uva va (dg m)) (h63 : (dg m).length ≤ 1000000) :
  Ret Try.prog 117 [va] w fun v w' => ∃ s, v = s ∧ Sl w' (lva) (uva) s (dg m) ∧ Chg 0 0 w w' := by
 simpa only [vl_dg] using c_l02TrimS hva (Lm_dg m) h63

theorem c_l02Mul {w : World} {va : Value} {lva uva : Nat} {m : Nat} {vb : Value} {lvb uvb : Nat} {n : Nat} (hva : Sl w lva uva va (dg m)) (hvb : Sl w lvb uvb vb (dg n)) (hbm : (dg m).length ≤ 1000) (hbn : (dg n).length ≤ 1000) :
  Ret Try.prog 85 [va, vb] w fun v w' => ∃ s, v = s ∧ Sl w' (w.heap.size) (w'.heap.size) s (dg (m * n)) ∧ Chg 0 0 w w' := by
 have hva0 := hva.fit
 have hvb0 := hvb.fit
 refine sx_enter Try.func85 rfl Try.ntmps85 (Nat.le_of_ble_eq_true rfl) ?_
 refine sx_seq fun K1 k1 => sx_region ?_
 refine sa rfl rfl rfl rfl ?_
 refine wl_nil (q_n (k1 _ _ ?_))
 refine sx_seq fun K2 k2 => ?_
 refine sx_seq fun K3 k3 => sx_region ?_
 refine sm rfl rfl rfl rfl ?_
 refine sx_pure rfl rfl rfl (px_len rfl Try.underlying22 hva0) ?_
 refine sx_pure rfl rfl rfl (px_eq rfl rfl) ?_
 refine sm rfl rfl rfl rfl ?_
 refine sx_tmpP (t := 15) rfl (fun h131 => ?_) (fun h131 => ?_)
 ·
  refine sx_guardF rfl rfl rfl rfl rfl rfl ?_
  refine sx_guardF rfl rfl rfl rfl rfl rfl ?_
  refine sx_guardF rfl rfl rfl rfl rfl rfl ?_
  refine sx_pure rfl rfl rfl (px_pick rfl rfl) ?_
  refine wl_nil (q_n (k3 _ _ ?_))
  refine sx_condT rfl ?_
  refine sx_seq fun K4 k4 => sx_region ?_
  refine sa rfl rfl rfl rfl ?_
  refine wl_nil (q_n (k4 _ _ ?_))
  refine sx_retc ?_
  refine q_r (sx_ret1 Try.results85 rfl ?_)
  have e0 : m * n = 0 := by first | (rw [dg_nil.1 (List.length_eq_zero_iff.1 (show (dg m).length = 0 by omega)), Nat.zero_mul]) | (rw [dg_nil.1 (List.length_eq_zero_iff.1 (show (dg n).length = 0 by omega)), Nat.mul_zero])
  rw [e0, dg_zero]
  exact ⟨_, rfl, Sv.nil _ _ _ _, (Chg.refl 0 0 _)⟩
 ·
  refine sx_guardT rfl rfl rfl ?_
  refine sm rfl rfl rfl rfl ?_
  refine sx_guardT rfl rfl rfl ?_
  refine sx_pure rfl rfl rfl (px_len rfl Try.underlying22 hvb0) ?_
  refine sx_guardT rfl rfl rfl ?_
  refine sx_pure rfl rfl rfl (px_eq rfl rfl) ?_
  refine sx_pure rfl rfl rfl (px_pick rfl rfl) ?_
  refine wl_nil (q_n (k3 _ _ ?_))
  refine sx_condP rfl (fun h131x1 => ?_) (fun h131x1 => ?_)
  ·
   refine sx_seq fun K5 k5 => sx_region ?_
   refine sa rfl rfl rfl rfl ?_
   refine wl_nil (q_n (k5 _ _ ?_))
   refine sx_retc ?_
   refine q_r (sx_ret1 Try.results85 rfl ?_)
   have e0 : m * n = 0 := by first | (rw [dg_nil.1 (List.length_eq_zero_iff.1 (show (dg m).length = 0 by omega)), Nat.zero_mul]) | (rw [dg_nil.1 (List.length_eq_zero_iff.1 (show (dg n).length = 0 by omega)), Nat.mul_zero])
   rw [e0, dg_zero]
   exact ⟨_, rfl, Sv.nil _ _ _ _, (Chg.refl 0 0 _)⟩
  ·
   refine sx_skip ?_
   refine q_n (k2 _ _ ?_)
   refine sx_seq fun K6 k6 => sx_region ?_
   refine sm rfl rfl rfl rfl ?_
   refine sx_pure rfl rfl rfl (px_len rfl Try.underlying22 hva0) ?_
   refine sm rfl rfl rfl rfl ?_
   refine sx_pure rfl rfl rfl (px_len rfl Try.underlying22 hvb0) ?_
   refine sx_pure rfl rfl rfl (px_add rfl rfl (by omega)) ?_
   refine sx_make (c := (dg m).length + (dg n).length) rfl xelt22 (look_int rfl (by omega)) (look_int rfl (by omega)) (by omega) (by unfold maxLen; omega) (fun s7 ws7 fs7 cs7 ls7 => ?_)
   have ns7 := fs7.made
   have zws7 := cs7.size
   refine sa rfl rfl rfl rfl ?_
   refine wl_nil (q_n (k6 _ _ ?_))
   refine sx_sub (Sub.cons (t := 0) rfl (.cons (t := 1) rfl (.cons (t := 4) rfl (.cons (t := 5) rfl (.nil))))) ?_
   refine sx_seq fun K8 k8 => ?_
   refine sx_seq fun K9 k9 => sx_region ?_
   refine sm rfl rfl rfl rfl ?_
   have f10 := hva0.ext cs7
   refine sx_pure rfl rfl rfl (px_len rfl Try.underlying22 f10) ?_
   refine sm rfl rfl rfl rfl ?_
   refine wl_nil (q_n (k9 _ _ ?_))
   refine sx_block ?_
   refine sx_loop (fun mm aa w' => ∃ (k : Nat) (os : List Int), Agr 72 [(1, vb), (5, s7), (26, va), (27, .int .i64 (↑(dg m).length)), (28, .int .i64 ↑k)] aa ∧ Chg w.heap.size ws7.heap.size ws7 w' ∧ Own w' w.heap.size ws7.heap.size s7 intT os.length 1 (os.map (Value.int .i64)) ∧ (mm = (dg m).length - k) ∧ (k ≤ (dg m).length) ∧ (os.length = (dg m).length + (dg n).length) ∧ (Lm os) ∧ (∀ i, k + (dg n).length ≤ i → os.getD i 0 = 0) ∧ (vl os = vl ((dg m).take k) * n)) (_) (fun a ha => ⟨0, List.replicate ((dg m).length + (dg n).length) 0, ha.sub (Sub.cons (t := 1) rfl (.cons (t := 5) rfl (.cons (t := 26) rfl (.cons (t := 27) (look_int (t := 27) rfl (by first | omega | simp)) (.cons (t := 28) (look_int (t := 28) rfl (by first | omega | simp)) (.nil)))))), Chg.refl _ _ _, (ns7.mono (by omega) (by omega)), rfl, by omega, by simp, Lm.replicate _, fun i _ => zero_rep _ i (Nat.zero_le _), by rw [vl_replicate, List.take_zero]; simp [vl]⟩) ?_
   rintro mm aa wl11 ⟨k, os, hAwl11, cwl11, hs_s7, hm, hk, hos, hlm, hz, hv⟩
   refine (show cw Try.prog 72 _ _ _ wl11 from ?_) aa hAwl11
   clear hAwl11
   have zwl11 := cwl11.size
   have am := (Lm_dg m).getD k
   refine sx_seq fun K12 k12 => sx_region ?_
   refine sx_pure rfl rfl rfl (px_lt rfl rfl) ?_
   refine wl_nil (q_n (k12 _ _ ?_))
   refine sx_seq fun K13 k13 => ?_
   refine sx_condP rfl (fun h135 => ?_) (fun h135 => ?_)
   ·
    refine sx_skip ?_
    refine q_n (k13 _ _ ?_)
    refine sx_seq fun K14 k14 => ?_
    refine sx_block ?_
    refine sx_seq fun K15 k15 => sx_region ?_
    refine sm rfl rfl rfl rfl ?_
    have f16 := f10.chg cwl11 (by omega)
    refine sx_pure rfl rfl rfl (px_index1 (j := k) rfl rfl (by omega) Try.underlying22 Try.sizeOf3 f16 (by first | omega | (simp only [List.length_set]; omega))) ?_
    refine sx_pure rfl rfl rfl (px_load rfl (f16.load1 (at_int (by omega)) Try.isAgg3)) ?_
    refine sa rfl rfl rfl rfl ?_
    refine sa rfl rfl rfl rfl ?_
    refine wl_nil (q_n (k15 _ _ ?_))
    refine sx_seq fun K17 k17 => sx_region ?_
    refine sa rfl rfl rfl rfl ?_
    refine wl_nil (q_n (k17 _ _ ?_))
    refine sx_seq fun K18 k18 => ?_
    refine sx_seq fun K19 k19 => sx_region ?_
    refine sm rfl rfl rfl rfl ?_
    have f20 := hvb0.ext cs7
    have f21 := f20.chg cwl11 (by omega)
    refine sx_pure rfl rfl rfl (px_len rfl Try.underlying22 f21) ?_
    refine sm rfl rfl rfl rfl ?_
    refine wl_nil (q_n (k19 _ _ ?_))
    refine sx_sub (Sub.cons (t := 1) rfl (.cons (t := 5) rfl (.cons (t := 6) rfl (.cons (t := 7) rfl (.cons (t := 8) rfl (.cons (t := 26) rfl (.cons (t := 27) rfl (.cons (t := 28) rfl (.cons (t := 33) rfl (.cons (t := 34) rfl (.cons (t := 35) rfl (.nil)))))))))))) ?_
    refine sx_block ?_
    refine sx_loop (fun mm aa w' => ∃ (j : Nat) (o2 : List Int) (c : Int), Agr 72 [(1, vb), (5, s7), (6, .int .i64 ↑k), (7, .int .i64 ((dg m).getD k 0)), (8, .int .i64 c), (26, va), (27, .int .i64 (↑(dg m).length)), (28, .int .i64 ↑k), (33, vb), (34, .int .i64 (↑(dg n).length)), (35, .int .i64 ↑j)] aa ∧ Chg w.heap.size ws7.heap.size wl11 w' ∧ Own w' w.heap.size ws7.heap.size s7 intT o2.length 1 (o2.map (Value.int .i64)) ∧ (mm = (dg n).length - j) ∧ (j ≤ (dg n).length) ∧ (o2.length = (dg m).length + (dg n).length) ∧ (Lm o2) ∧ (∀ i, k + (dg n).length ≤ i → o2.getD i 0 = 0) ∧ (0 ≤ c ∧ c < 1000000000) ∧ (vl o2 + Bs ^ (k + j) * c.toNat = vl os + Bs ^ k * (((dg m).getD k 0).toNat * vl ((dg n).take j)))) (_) (fun a ha => ⟨0, os, 0, ha.sub (Sub.cons (t := 1) rfl (.cons (t := 5) rfl (.cons (t := 6) rfl (.cons (t := 7) rfl (.cons (t := 8) (look_int (t := 8) rfl (by first | omega | simp)) (.cons (t := 26) rfl (.cons (t := 27) rfl (.cons (t := 28) rfl (.cons (t := 33) rfl (.cons (t := 34) (look_int (t := 34) rfl (by first | omega | simp)) (.cons (t := 35) (look_int (t := 35) rfl (by first | omega | simp)) (.nil)))))))))))), Chg.refl _ _ _, hs_s7, rfl, by omega, hos, hlm, hz, by omega, by simp [vl]⟩) ?_
    rintro mm aa wl22 ⟨j, o2, c, hAwl22, cwl22, hs_s7, hm, hj, hos2, hlm2, hz2, hc, hv2⟩
    refine (show cw Try.prog 72 _ _ _ wl22 from ?_) aa hAwl22
    clear hAwl22
    have zwl22 := cwl22.size
    have bn := (Lm_dg n).getD j
    have on := hlm2.getD (k + j)
    have hxy := mul_limb am.1 am.2 bn.1 bn.2
    refine sx_seq fun K23 k23 => sx_region ?_
    refine sx_pure rfl rfl rfl (px_lt rfl rfl) ?_
    refine wl_nil (q_n (k23 _ _ ?_))
    refine sx_seq fun K24 k24 => ?_
    refine sx_condP rfl (fun h137 => ?_) (fun h137 => ?_)
    ·
     refine sx_skip ?_
     refine q_n (k24 _ _ ?_)
     refine sx_seq fun K25 k25 => ?_
     refine sx_block ?_
     refine sx_seq fun K26 k26 => sx_region ?_
     refine sm rfl rfl rfl rfl ?_
     have f27 := f21.chg cwl22 (by omega)
     refine sx_pure rfl rfl rfl (px_index1 (j := j) rfl rfl (by omega) Try.underlying22 Try.sizeOf3 f27 (by first | omega | (simp only [List.length_set]; omega))) ?_
     refine sx_pure rfl rfl rfl (px_load rfl (f27.load1 (at_int (by omega)) Try.isAgg3)) ?_
     refine sa rfl rfl rfl rfl ?_
     refine sa rfl rfl rfl rfl ?_
     refine wl_nil (q_n (k26 _ _ ?_))
     refine sx_sub (Sub.cons (t := 1) rfl (.cons (t := 5) rfl (.cons (t := 6) rfl (.cons (t := 7) rfl (.cons (t := 8) rfl (.cons (t := 9) rfl (.cons (t := 10) rfl (.cons (t := 26) rfl (.cons (t := 27) rfl (.cons (t := 28) rfl (.cons (t := 33) rfl (.cons (t := 34) rfl (.cons (t := 35) rfl (.nil)))))))))))))) ?_
     refine sx_seq fun K28 k28 => sx_region ?_
     refine sm rfl rfl rfl rfl ?_
     refine sm rfl rfl rfl rfl ?_
     refine sm rfl rfl rfl rfl ?_
     refine sx_pure rfl rfl rfl (px_add rfl rfl (by omega)) ?_
     refine sx_pure rfl rfl rfl (px_index1 (j := (k + j)) rfl rfl (by omega) Try.underlying22 Try.sizeOf3 hs_s7.sv (by first | omega | (simp only [List.length_set]; omega))) ?_
     refine sx_pure rfl rfl rfl (px_load rfl (hs_s7.sv.load1 (at_int (by omega)) Try.isAgg3)) ?_
     refine sm rfl rfl rfl rfl ?_
     refine sm rfl rfl rfl rfl ?_
     refine sx_pure rfl rfl rfl (px_mul rfl rfl (by omega)) ?_
     refine sx_pure rfl rfl rfl (px_add rfl rfl (by omega)) ?_
     refine sm rfl rfl rfl rfl ?_
     refine sx_pure rfl rfl rfl (px_add rfl rfl (by omega)) ?_
     refine sa rfl rfl rfl rfl ?_
     refine wl_nil (q_n (k28 _ _ ?_))
     refine sx_sub (Sub.cons (t := 1) rfl (.cons (t := 5) rfl (.cons (t := 6) rfl (.cons (t := 7) rfl (.cons (t := 8) rfl (.cons (t := 9) rfl (.cons (t := 11) rfl (.cons (t := 26) rfl (.cons (t := 27) rfl (.cons (t := 28) rfl (.cons (t := 33) rfl (.cons (t := 34) rfl (.cons (t := 35) rfl (.nil)))))))))))))) ?_
     refine sx_seq fun K29 k29 => sx_region ?_
     refine sm rfl rfl rfl rfl ?_
     refine sm rfl rfl rfl rfl ?_
     refine sm rfl rfl rfl rfl ?_
     refine sx_pure rfl rfl rfl (px_add rfl rfl (by omega)) ?_
     refine sm rfl rfl rfl rfl ?_
     refine sx_pure rfl rfl rfl (px_rem rfl rfl (by omega) (by omega)) ?_
     refine sx_pure rfl rfl rfl (px_index1 (j := (k + j)) rfl rfl (by omega) Try.underlying22 Try.sizeOf3 hs_s7.sv (by first | omega | (simp only [List.length_set]; omega))) ?_
     refine sx_storeO rfl rfl hs_s7 (by first | omega | (simp only [List.length_map]; omega)) Try.sizeOf3 rfl (fun w30 sw30 fw30 cw30 => ?_)
     have zw30 := cw30.size
     have nw30 := fw30.set
     refine wl_nil (q_n (k29 _ _ ?_))
     refine sx_sub (Sub.cons (t := 1) rfl (.cons (t := 5) rfl (.cons (t := 6) rfl (.cons (t := 7) rfl (.cons (t := 8) rfl (.cons (t := 11) rfl (.cons (t := 26) rfl (.cons (t := 27) rfl (.cons (t := 28) rfl (.cons (t := 33) rfl (.cons (t := 34) rfl (.cons (t := 35) rfl (.nil))))))))))))) ?_
     refine sx_region ?_
     refine sm rfl rfl rfl rfl ?_
     refine sx_pure rfl rfl rfl (px_quo rfl rfl (by omega) (by omega) (by omega)) ?_
     refine sa rfl rfl rfl rfl ?_
     refine wl_nil ?_
     refine q_bn (q_n (k25 _ _ ?_))
     refine sx_region ?_
     refine sx_pure rfl rfl rfl (px_add rfl rfl (by omega)) ?_
     refine sm rfl rfl rfl rfl ?_
     refine wl_nil ?_
     have q31 := Chg.step (l := w.heap.size) (h := ws7.heap.size) cwl22 cw30 (by omega)
     have hs : ((((o2).getD (k + j) 0) + (((dg m).getD k 0) * ((dg n).getD j 0))) + c) = c + (o2.getD (k + j) 0 + (dg m).getD k 0 * (dg n).getD j 0) := by omega
     have hm2 := mul_step (V := vl os) hc.1 am.1 on.1 bn.1 (by omega) (by omega) hs hv2
     exact fun a ha => ⟨_, by omega, (j + 1), ((o2).set (k + j) (((((o2).getD (k + j) 0) + (((dg m).getD k 0) * ((dg n).getD j 0))) + c) % 1000000000)), (((((o2).getD (k + j) 0) + (((dg m).getD k 0) * ((dg n).getD j 0))) + c) / 1000000000), ha.sub (Sub.cons (t := 1) rfl (.cons (t := 5) rfl (.cons (t := 6) rfl (.cons (t := 7) rfl (.cons (t := 8) (look_int (t := 8) rfl (by first | omega | simp)) (.cons (t := 26) rfl (.cons (t := 27) rfl (.cons (t := 28) rfl (.cons (t := 33) rfl (.cons (t := 34) rfl (.cons (t := 35) (look_int (t := 35) rfl (by first | omega | simp)) (.nil)))))))))))), q31, (nw30.mono (by omega) (by omega)), rfl, by omega, by simpa using hos2, hlm2.set _ (by omega) (by omega), zero_set' hz2 (by omega), by omega, hm2⟩
    ·
     refine sx_exit ?_
     refine q_e (q_e (q_bx (q_n (k18 _ _ ?_))))
     have ej : j = (dg n).length := by omega
     rw [ej, List.take_length, vl_dg] at hv2
     refine sx_region ?_
     refine sm rfl rfl rfl rfl ?_
     refine sm rfl rfl rfl rfl ?_
     refine sm rfl rfl rfl rfl ?_
     have f32 := f21.chg cwl22 (by omega)
     refine sx_pure rfl rfl rfl (px_len rfl Try.underlying22 f32) ?_
     refine sx_pure rfl rfl rfl (px_add rfl rfl (by omega)) ?_
     refine sm rfl rfl rfl rfl ?_
     refine sx_pure rfl rfl rfl (px_index1 (j := (k + (dg n).length)) rfl rfl (by omega) Try.underlying22 Try.sizeOf3 hs_s7.sv (by first | omega | (simp only [List.length_set]; omega))) ?_
     refine sx_storeO rfl rfl hs_s7 (by first | omega | (simp only [List.length_map]; omega)) Try.sizeOf3 rfl (fun w33 sw33 fw33 cw33 => ?_)
     have zw33 := cw33.size
     have nw33 := fw33.set
     refine wl_nil ?_
     refine q_bn (q_n (k14 _ _ ?_))
     refine sx_sub (Sub.cons (t := 1) rfl (.cons (t := 5) rfl (.cons (t := 26) rfl (.cons (t := 27) rfl (.cons (t := 28) rfl (.nil)))))) ?_
     have oz := hz2 (k + (dg n).length) (Nat.le_refl _)
     have hosR : (o2.set (k + (dg n).length) c).length = (dg m).length + (dg n).length := by simpa using hos2
     have hlmR := hlm2.set (k + (dg n).length) hc.1 hc.2
     have hzR : ∀ i, k + (dg n).length + 1 ≤ i → (o2.set (k + (dg n).length) c).getD i 0 = 0 := zero_set hz2 (by omega)
     have hvR : vl (o2.set (k + (dg n).length) c) = vl os + Bs ^ k * (((dg m).getD k 0).toNat * n) := (carry_step (by omega) oz).trans hv2
     refine sx_region ?_
     refine sx_pure rfl rfl rfl (px_add rfl rfl (by omega)) ?_
     refine sm rfl rfl rfl rfl ?_
     refine wl_nil ?_
     have q34 := Chg.step (l := w.heap.size) (h := ws7.heap.size) cwl11 cwl22 (by omega)
     have q35 := Chg.step (l := w.heap.size) (h := ws7.heap.size) q34 cw33 (by omega)
     have hrow := mul_row (P := Bs ^ k) (a := ((dg m).getD k 0).toNat) hv
     rw [← vl_take_succ'] at hrow
     exact fun a ha => ⟨_, by omega, (k + 1), ((o2).set (k + (dg n).length) c), ha.sub (Sub.cons (t := 1) rfl (.cons (t := 5) rfl (.cons (t := 26) rfl (.cons (t := 27) rfl (.cons (t := 28) (look_int (t := 28) rfl (by first | omega | simp)) (.nil)))))), q35, (nw33.mono (by omega) (by omega)), rfl, by omega, by simpa using hosR, hlmR, fun i hi => hzR i (by omega), hvR.trans hrow⟩
   ·
    refine sx_exit ?_
    refine q_e (q_e (q_bx (q_n (k8 _ _ ?_))))
    refine sx_seq fun K36 k36 => ?_
    have ek : k = (dg m).length := by omega
    rw [ek, List.take_length, vl_dg] at hv
    have hzz := hlm
    refine sx_region ?_
    refine sm rfl rfl rfl rfl ?_
    refine sx_call rfl rfl Try.call117 (c_l02Trim hs_s7 (by assumption) (by first | omega | (simp only [List.length_append, List.length_set, List.length_replicate, List.length_cons, List.length_nil] at *; omega))) (fun v37 w37 p37 => ?_)
    obtain ⟨s37, rfl, os_37, c37⟩ := p37
    have zw37 := c37.size
    refine sa rfl rfl rfl rfl ?_
    refine wl_nil (q_n (k36 _ _ ?_))
    refine sx_retc ?_
    refine sx_ret1 Try.results85 rfl ?_
    have hr := Own.sv os_37
    rw [hv] at hr
    have q38 := Chg.step (l := 0) (h := 0) (Chg.zero (l := 0) (h := 0) cs7) cwl11 (by omega)
    have q39 := Chg.step (l := 0) (h := 0) q38 c37 (by omega)
    exact ⟨_, rfl, hr.mono (by omega) (by omega), q39⟩

theorem c_l02Cap {w : World} {va : Value} {lva uva : Nat} {m : Nat} (hva : Sl w lva uva va (dg m)) (h63 : (dg m).length ≤ 1000000) :
  Ret Try.prog 128 [va] w fun v w' => ∃ s, v = s ∧ Sl w' (lva) (uva) s (dg (capN m)) ∧ Chg 0 0 w w' := by
 refine sx_enter Try.func128 rfl Try.ntmps128 (Nat.le_of_ble_eq_true rfl) ?_
 refine sx_seq fun K1 k1 => sx_region ?_
 refine sa rfl rfl rfl rfl ?_
 refine wl_nil (q_n (k1 _ _ ?_))
 refine sx_seq fun K2 k2 => sx_region ?_
 refine sm rfl rfl rfl rfl ?_
 refine sx_call rfl rfl Try.call117 (c_l02TrimD hva (by omega)) (fun v3 w3 p3 => ?_)
 obtain ⟨s3, rfl, os_3, c3⟩ := p3
 have zw3 := c3.size
 refine sa rfl rfl rfl rfl ?_
 refine wl_nil (q_n (k2 _ _ ?_))
 refine sx_seq fun K4 k4 => ?_
 refine sx_seq fun K5 k5 => sx_region ?_
 refine sm rfl rfl rfl rfl ?_
 refine sx_pure rfl rfl rfl (px_len rfl Try.underlying22 os_3) ?_
 refine sx_pure rfl rfl rfl (px_gt rfl rfl) ?_
 refine wl_nil (q_n (k5 _ _ ?_))
 refine sx_condP rfl (fun h25 => ?_) (fun h25 => ?_)
 ·
  refine sx_seq fun K6 k6 => sx_region ?_
  refine sa rfl rfl rfl rfl ?_
  refine wl_nil (q_n (k6 _ _ ?_))
  refine sx_retc ?_
  refine q_r (sx_ret1 Try.results128 rfl ?_)
  rw [capN_no (by omega), dg_zero]
  exact ⟨_, rfl, Sv.nil _ _ _ _, c3⟩
 ·
  refine sx_skip ?_
  refine q_n (k4 _ _ ?_)
  refine sx_seq fun K7 k7 => sx_region ?_
  refine sm rfl rfl rfl rfl ?_
  refine sa rfl rfl rfl rfl ?_
  refine wl_nil (q_n (k7 _ _ ?_))
  refine sx_retc ?_
  refine sx_ret1 Try.results128 rfl ?_
  rw [capN_ok (by omega)]
  exact ⟨_, rfl, (Sv.mono os_3 (by omega) (by omega)), c3⟩

theorem c_l04Make {w : World} {n : Bool} {va : Value} {lva uva : Nat} {m : Nat} (hva : Sl w lva uva va (dg m)) (h63 : (dg m).length ≤ 1000000) :
  Ret Try.prog 106 [.bool n, va] w fun v w' => ∃ s, v = .agg #[.bool (ng (capI n m)), s] ∧ OwnI w' w.heap.size w'.heap.size s intT (dg (capI n m).natAbs) ∧ Chg 0 0 w w' := by
 have hva0 := hva.fit
 have hcap : (dg (capN m)).length ≤ 50 := by unfold capN; split; assumption; rw [dg_zero]; simp
 refine sx_enter Try.func106 rfl Try.ntmps106 (Nat.le_of_ble_eq_true rfl) ?_
 refine sx_seq fun K1 k1 => sx_region ?_
 refine sx_alloc [.bool false, (.slice none 0 0)] rfl Try.zeroValue29 rfl (fun b2 w3 eb2 sb2 fb2 cb2 => ?_)
 have zw3 := cb2.size
 refine wl_nil (q_n (k1 _ _ ?_))
 refine sx_seq fun K4 k4 => sx_region ?_
 refine sm rfl rfl rfl rfl ?_
 have f5 := hva0.ext cb2
 refine sx_call rfl rfl Try.call128 (c_l02Cap f5 (by omega)) (fun v6 w6 p6 => ?_)
 obtain ⟨s6, rfl, os_6, c6⟩ := p6
 have zw6 := c6.size
 refine sa rfl rfl rfl rfl ?_
 refine wl_nil (q_n (k4 _ _ ?_))
 refine sx_seq fun K7 k7 => sx_region ?_
 refine sm rfl rfl rfl rfl ?_
 refine sm rfl rfl rfl rfl ?_
 refine sx_tmpB (t := 9) rfl (fun h10 => ?_) (fun h10 => ?_)
 ·
  refine sx_guardT rfl rfl rfl ?_
  refine sm rfl rfl rfl rfl ?_
  refine sx_guardT rfl rfl rfl ?_
  refine sx_pure rfl rfl rfl (px_len rfl Try.underlying22 os_6) ?_
  refine sx_guardT rfl rfl rfl ?_
  refine sx_pure rfl rfl rfl (px_gt rfl rfl) ?_
  refine sx_pure rfl rfl rfl (px_pick rfl rfl) ?_
  refine sx_lit0 rfl xelt22 (fun s8 ws8 ss8 fs8 cs8 => ?_)
  have zws8 := cs8.size
  refine sm rfl rfl rfl rfl ?_
  have f10 := os_6.ext cs8
  refine sx_append rfl xelt22 rfl rfl fs8 f10 one_int (by omega) (by first | omega | (simp only [List.length_nil]; omega)) (by unfold maxLen; first | omega | (simp only [List.length_nil]; omega)) (fun a9 w9 fw9 cw9 => ?_)
  have nw9 := Own.norm (f := (Value.int .i64)) (zs := dg (capN m)) fw9
  have zw9 := cw9.size
  refine sx_pure rfl rfl rfl (px_build rfl (xbld29x0x1 rfl nw9.one _)) ?_
  have f12 := fb2.ext c6
  have f13 := f12.ext cs8
  have f14 := f13.chg cw9 (by omega)
  refine sx_store (vs := [.bool (decide ((0 : Int) < ↑((dg (capN m)).length))), a9]) rfl rfl f14 rfl Try.sizeOf29 (Nat.le_of_ble_eq_true rfl) (one_cons rfl (one_cons nw9.one one_nil)) (fun w11 sw11 fw11 cw11 => ?_)
  have zw11 := cw11.size
  have gw11 : Blk w11 b2 [.bool (decide ((0 : Int) < ↑((dg (capN m)).length))), a9] 29 := fw11
  refine wl_nil (q_n (k7 _ _ ?_))
  refine sx_sub (Sub.cons (t := 4) rfl (.nil)) ?_
  refine sx_retc ?_
  refine sx_ret1 Try.results106 ⟨_, rfl, gw11.loadA (vs := [.bool (decide ((0 : Int) < ↑((dg (capN m)).length))), a9]) (look_lit rfl) Try.isAgg29 Try.sizeOf29⟩ ?_
  have hh := cap_sg n m
  rw [← hh.1, ← hh.2]
  have q15 := Chg.step (l := 0) (h := 0) (Chg.zero (l := 0) (h := 0) ((cb2.t c6).t cs8)) cw9 (by omega)
  have q16 := Chg.step (l := 0) (h := 0) q15 cw11 (by omega)
  have f17 := nw9.chg cw11 (by omega)
  exact ⟨_, by simp [nz, h10], (Own.mono f17 (by omega) (by omega)), q16⟩
 ·
  refine sx_guardF rfl rfl rfl rfl rfl rfl ?_
  refine sx_guardF rfl rfl rfl rfl rfl rfl ?_
  refine sx_guardF rfl rfl rfl rfl rfl rfl ?_
  refine sx_pure rfl rfl rfl (px_pick rfl rfl) ?_
  refine sx_lit0 rfl xelt22 (fun s18 ws18 ss18 fs18 cs18 => ?_)
  have zws18 := cs18.size
  refine sm rfl rfl rfl rfl ?_
  have f20 := os_6.ext cs18
  refine sx_append rfl xelt22 rfl rfl fs18 f20 one_int (by omega) (by first | omega | (simp only [List.length_nil]; omega)) (by unfold maxLen; first | omega | (simp only [List.length_nil]; omega)) (fun a19 w19 fw19 cw19 => ?_)
  have nw19 := Own.norm (f := (Value.int .i64)) (zs := dg (capN m)) fw19
  have zw19 := cw19.size
  refine sx_pure rfl rfl rfl (px_build rfl (xbld29x0x1 rfl nw19.one _)) ?_
  have f22 := fb2.ext c6
  have f23 := f22.ext cs18
  have f24 := f23.chg cw19 (by omega)
  refine sx_store (vs := [.bool false, a19]) rfl rfl f24 rfl Try.sizeOf29 (Nat.le_of_ble_eq_true rfl) (one_cons rfl (one_cons nw19.one one_nil)) (fun w21 sw21 fw21 cw21 => ?_)
  have zw21 := cw21.size
  have gw21 : Blk w21 b2 [.bool false, a19] 29 := fw21
  refine wl_nil (q_n (k7 _ _ ?_))
  refine sx_sub (Sub.cons (t := 4) rfl (.nil)) ?_
  refine sx_retc ?_
  refine sx_ret1 Try.results106 ⟨_, rfl, gw21.loadA (vs := [.bool false, a19]) (look_lit rfl) Try.isAgg29 Try.sizeOf29⟩ ?_
  have hh := cap_sg n m
  rw [← hh.1, ← hh.2]
  have q25 := Chg.step (l := 0) (h := 0) (Chg.zero (l := 0) (h := 0) ((cb2.t c6).t cs18)) cw19 (by omega)
  have q26 := Chg.step (l := 0) (h := 0) q25 cw21 (by omega)
  have f27 := nw19.chg cw21 (by omega)
  exact ⟨_, by simp [nz, h10], (Own.mono f27 (by omega) (by omega)), q26⟩

theorem c_l04MakeMin {w : World} {n : Bool} {va : Value} {lva uva : Nat} {zs : List Int} (hva : Sl w lva uva va (zs)) (hz : zs = dg (-9223372036854775808 : Int).natAbs) :
  Ret Try.prog 106 [.bool n, va] w fun v w' => ∃ s, v = .agg #[.bool (ng (capI n (-9223372036854775808 : Int).natAbs)), s] ∧ OwnI w' w.heap.size w'.heap.size s intT (dg (capI n (-9223372036854775808 : Int).natAbs).natAbs) ∧ Chg 0 0 w w' := by
 subst hz; exact c_l04Make hva (by rw [dg_min]; simp)

theorem c_IntMul {w : World} {va : Value} {lva uva : Nat} {x : Int} {vb : Value} {lvb uvb : Nat} {y : Int} (hva : Sl w lva uva va (dg x.natAbs)) (hvb : Sl w lvb uvb vb (dg y.natAbs)) (hbx : (dg x.natAbs).length ≤ 50) (hby : (dg y.natAbs).length ≤ 50) :
  Ret Try.prog 67 [.agg #[.bool (ng x), va], .agg #[.bool (ng y), vb]] w fun v w' => ∃ s, v = .agg #[.bool (ng (cap (x * y))), s] ∧ OwnI w' w.heap.size w'.heap.size s intT (dg (cap (x * y)).natAbs) ∧ Chg 0 0 w w' := by
 have hva0 := hva.fit
 have hvb0 := hvb.fit
 have l1 := len_mul x.natAbs y.natAbs
 refine sx_enter Try.func67 rfl Try.ntmps67 (Nat.le_of_ble_eq_true rfl) ?_
 refine sx_seq fun K1 k1 => sx_region ?_
 refine sx_box [.bool (ng x), va] rfl rfl rfl (fun b2 w3 eb2 sb2 fb2 cb2 => ?_)
 have zw3 := cb2.size
 refine sx_box [.bool (ng y), vb] rfl rfl rfl (fun b4 w5 eb4 sb4 fb4 cb4 => ?_)
 have zw5 := cb4.size
 refine sx_alloc [.bool false, (.slice none 0 0)] rfl Try.zeroValue29 rfl (fun b6 w7 eb6 sb6 fb6 cb6 => ?_)
 have zw7 := cb6.size
 refine wl_nil (q_n (k1 _ _ ?_))
 refine sx_seq fun K8 k8 => ?_
 refine sx_seq fun K9 k9 => sx_region ?_
 have f10 := fb2.ext cb4
 have f11 := f10.ext cb6
 refine sx_pure rfl rfl rfl (px_load rfl (f11.loadA (vs := [.bool (ng x), va]) (look_lit rfl) Try.isAgg29 Try.sizeOf29)) ?_
 have f12 := hva0.ext cb2
 have f13 := f12.ext cb4
 have f14 := f13.ext cb6
 refine sx_call rfl rfl Try.call60 (c_sIntOk f14 (by omega)) (fun v15 w15 p15 => ?_)
 obtain ⟨rfl, c15⟩ := p15
 have zw15 := c15.size
 refine sx_pure rfl rfl rfl (px_notP rfl) ?_
 refine sm rfl rfl rfl rfl ?_
 have h80 : ¬ (¬ (IOk (ng x) (dg x.natAbs))) := by first | exact fun h => h (IOk_ng (by omega)) | exact fun h => h (IOk_ng (by assumption))
 refine sx_tmpPF (t := 8) rfl h80 ?_
 refine sx_guardT rfl rfl rfl ?_
 have f16 := fb4.ext cb6
 have f17 := f16.ext c15
 refine sx_pure rfl rfl rfl (px_load rfl (f17.loadA (vs := [.bool (ng y), vb]) (look_lit rfl) Try.isAgg29 Try.sizeOf29)) ?_
 refine sx_guardT rfl rfl rfl ?_
 have f18 := hvb0.ext cb2
 have f19 := f18.ext cb4
 have f20 := f19.ext cb6
 have f21 := f20.ext c15
 refine sx_call rfl rfl Try.call60 (c_sIntOk f21 (by omega)) (fun v22 w22 p22 => ?_)
 obtain ⟨rfl, c22⟩ := p22
 have zw22 := c22.size
 refine sx_guardT rfl rfl rfl ?_
 refine sx_pure rfl rfl rfl (px_notP rfl) ?_
 refine sx_pure rfl rfl rfl (px_pick rfl rfl) ?_
 refine wl_nil (q_n (k9 _ _ ?_))
 have h80x1 : ¬ (¬ (IOk (ng y) (dg y.natAbs))) := by first | exact fun h => h (IOk_ng (by omega)) | exact fun h => h (IOk_ng (by assumption))
 refine sx_condPF rfl h80x1 ?_
 refine sx_skip ?_
 refine q_n (k8 _ _ ?_)
 refine sx_seq fun K23 k23 => ?_
 have f24 := f11.ext c15
 have f25 := f24.ext c22
 have f26 := f17.ext c22
 have f27 := f14.ext c15
 have f28 := f27.ext c22
 have f29 := f21.ext c22
 refine dx_region (fun w' => Chg b6 (b6 + 1) w22 w') (by kernel_rfl) (Chg.zero (Chg.drew _)) ?_
 have d30 := Chg.drew w22
 have s30 : Chg b6 (b6 + 1) w22 (World.drew w22) := Chg.zero (Chg.drew _)
 have y30 : (World.drew w22).heap.size = w22.heap.size := rfl
 generalize World.drew w22 = w30 at *
 have zw30 := d30.size
 refine dx_take 0 rfl rfl rfl rfl (by kernel_rfl) (by kernel_rfl) (by kernel_rfl) s30 (fun _ hS => px_field rfl xfld29x0) ?_
 refine dx_take 1 rfl rfl rfl rfl (by kernel_rfl) (by kernel_rfl) (by kernel_rfl) s30 (fun _ hS => px_load rfl ((f25.chg hS (by omega)).load1 rfl Try.isAgg4)) ?_
 refine dx_take 2 rfl rfl rfl rfl (by kernel_rfl) (by kernel_rfl) (by kernel_rfl) s30 (fun _ hS => px_field rfl xfld29x0) ?_
 refine dx_take 3 rfl rfl rfl rfl (by kernel_rfl) (by kernel_rfl) (by kernel_rfl) s30 (fun _ hS => px_load rfl ((f26.chg hS (by omega)).load1 rfl Try.isAgg4)) ?_
 refine dx_take 4 rfl rfl rfl rfl (by kernel_rfl) (by kernel_rfl) (by kernel_rfl) s30 (fun _ hS => px_neB Try.underlying4 rfl rfl) ?_
 refine dx_take 5 rfl rfl rfl rfl (by kernel_rfl) (by kernel_rfl) (by kernel_rfl) s30 (fun _ hS => px_field rfl xfld29x1) ?_
 refine dx_take 6 rfl rfl rfl rfl (by kernel_rfl) (by kernel_rfl) (by kernel_rfl) s30 (fun _ hS => px_load rfl ((f25.chg hS (by omega)).load1 rfl Try.isAgg22)) ?_
 refine dx_take 7 rfl rfl rfl rfl (by kernel_rfl) (by kernel_rfl) (by kernel_rfl) s30 (fun _ hS => px_field rfl xfld29x1) ?_
 refine dx_take 8 rfl rfl rfl rfl (by kernel_rfl) (by kernel_rfl) (by kernel_rfl) s30 (fun _ hS => px_load rfl ((f26.chg hS (by omega)).load1 rfl Try.isAgg22)) ?_
 refine dx_eff 9 rfl (by kernel_rfl) ?_
 have f31 := f28.ext d30
 have f32 := f29.ext d30
 refine sx_call rfl rfl Try.call85 (c_l02Mul f31 f32 (by omega) (by omega)) (fun v33 w33 p33 => ?_)
 obtain ⟨s33, rfl, os_33, c33⟩ := p33
 have zw33 := c33.size
 have s34 : Chg b6 (b6 + 1) w22 w33 := (Chg.zero (l := b6) (h := (b6 + 1)) (d30.t c33))
 refine wl_nil ?_
 refine dx_next s34 ?_
 refine dx_eff 10 rfl (by kernel_rfl) ?_
 refine sx_call rfl rfl Try.call106 (c_l04Make os_33 (by omega)) (fun v35 w35 p35 => ?_)
 obtain ⟨s35, rfl, os_35, c35⟩ := p35
 have zw35 := c35.size
 have s36 : Chg b6 (b6 + 1) w22 w35 := (Chg.zero (l := b6) (h := (b6 + 1)) ((d30.t c33).t c35))
 refine wl_nil ?_
 refine dx_next s36 ?_
 refine dx_eff 11 rfl (by kernel_rfl) ?_
 have f38 := fb6.ext c15
 have f39 := f38.ext c22
 have f40 := f39.ext d30
 have f41 := f40.ext c33
 have f42 := f41.ext c35
 refine sx_store (vs := [.bool (ng (capI ((ng x) != (ng y)) (x.natAbs * y.natAbs))), s35]) rfl rfl f42 rfl Try.sizeOf29 (Nat.le_of_ble_eq_true rfl) (one_cons rfl (one_cons os_35.one one_nil)) (fun w37 sw37 fw37 cw37 => ?_)
 have zw37 := cw37.size
 have gw37 : Blk w37 b6 [.bool (ng (capI ((ng x) != (ng y)) (x.natAbs * y.natAbs))), s35] 29 := fw37
 have q44 := Chg.step (l := b6) (h := (b6 + 1)) (Chg.zero (l := b6) (h := (b6 + 1)) ((d30.t c33).t c35)) cw37 (by omega)
 have s43 : Chg b6 (b6 + 1) w22 w37 := q44
 refine wl_nil ?_
 refine dx_next s43 ?_
 refine dx_done (by kernel_rfl) ?_
 refine q_n (k23 _ _ ?_)
 refine sx_sub (Sub.cons (t := 4) rfl (.nil)) ?_
 refine sx_retc ?_
 refine sx_ret1 Try.results67 ⟨_, rfl, gw37.loadA (vs := [.bool (ng (capI ((ng x) != (ng y)) (x.natAbs * y.natAbs))), s35]) (look_lit rfl) Try.isAgg29 Try.sizeOf29⟩ ?_
 have hq := capI_of (mul_sg x y)
 rw [← hq]
 have q45 := Chg.step (l := 0) (h := 0) (Chg.zero (l := 0) (h := 0) (((((((cb2.t cb4).t cb6).t c15).t c22).t d30).t c33).t c35)) cw37 (by omega)
 have f46 := os_35.chg cw37 (by omega)
 exact ⟨_, rfl, (Own.mono f46 (by omega) (by omega)), q45⟩

theorem c_IntMulE {w : World} {va : Value} {lva uva : Nat} {x : Int} {vb : Value} {lvb uvb : Nat} {y : Int} (hva : Sl w lva uva va (dg x.natAbs)) (hvb : Sl w lvb uvb vb (dg y.natAbs)) (hxy : (dg x.natAbs).length + (dg y.natAbs).length ≤ 50) :
  Ret Try.prog 67 [.agg #[.bool (ng x), va], .agg #[.bool (ng y), vb]] w fun v w' => ∃ s, v = .agg #[.bool (ng (x * y)), s] ∧ OwnI w' w.heap.size w'.heap.size s intT (dg (x * y).natAbs) ∧ Chg 0 0 w w' := by
 have h := c_IntMul hva hvb (by omega) (by omega); rwa [cap_ok (Nat.le_trans (len_mulI x y) hxy)] at h

theorem c_l07Both {w : World} {va : Value} {lva uva : Nat} {x : Int} {p : Int} {vb : Value} {lvb uvb : Nat} {y : Int} {q : Int} (hva : Sl w lva uva va (dg x.natAbs)) (hvb : Sl w lvb uvb vb (dg y.natAbs)) (hbx : (dg x.natAbs).length ≤ 6 ∧ 0 ≤ p ∧ p ≤ 30) (hby : (dg y.natAbs).length ≤ 6 ∧ 0 ≤ q ∧ q ≤ 30) :
  Ret Try.prog 70 [.agg #[.bool (ng x), va, .int .i64 p], .agg #[.bool (ng y), vb, .int .i64 q]] w fun v w' => ∃ s t, v = .tuple #[.agg #[.bool (ng (x * tenI (max p q - p))), s], .agg #[.bool (ng (y * tenI (max p q - q))), t], .int .i64 (max p q)] ∧ OwnI w' w.heap.size w'.heap.size s intT (dg (x * tenI (max p q - p)).natAbs) ∧ OwnI w' w.heap.size w'.heap.size t intT (dg (y * tenI (max p q - q)).natAbs) ∧ Chg 0 0 w w' := by
 have hva0 := hva.fit
 have hvb0 := hvb.fit
 refine sx_enter Try.func70 rfl Try.ntmps70 (Nat.le_of_ble_eq_true rfl) ?_
 refine sx_seq fun K1 k1 => sx_region ?_
 refine sx_box [.bool (ng x), va, .int .i64 p] rfl rfl rfl (fun b2 w3 eb2 sb2 fb2 cb2 => ?_)
 have zw3 := cb2.size
 refine sx_box [.bool (ng y), vb, .int .i64 q] rfl rfl rfl (fun b4 w5 eb4 sb4 fb4 cb4 => ?_)
 have zw5 := cb4.size
 refine sx_alloc [.bool false, (.slice none 0 0)] rfl Try.zeroValue29 rfl (fun b6 w7 eb6 sb6 fb6 cb6 => ?_)
 have zw7 := cb6.size
 refine sx_alloc [.bool false, (.slice none 0 0)] rfl Try.zeroValue29 rfl (fun b8 w9 eb8 sb8 fb8 cb8 => ?_)
 have zw9 := cb8.size
 refine sa rfl rfl rfl rfl ?_
 refine wl_nil (q_n (k1 _ _ ?_))
 refine sx_seq fun K10 k10 => sx_region ?_
 refine sx_pure rfl rfl rfl (px_field rfl xfld31x1) ?_
 have f11 := fb2.ext cb4
 have f12 := f11.ext cb6
 have f13 := f12.ext cb8
 refine sx_pure rfl rfl rfl (px_load rfl (f13.load1 rfl Try.isAgg3)) ?_
 refine sa rfl rfl rfl rfl ?_
 refine wl_nil (q_n (k10 _ _ ?_))
 refine sx_seq fun K14 k14 => ?_
 refine sx_seq fun K15 k15 => sx_region ?_
 refine sx_pure rfl rfl rfl (px_field rfl xfld31x1) ?_
 have f16 := fb4.ext cb6
 have f17 := f16.ext cb8
 refine sx_pure rfl rfl rfl (px_load rfl (f17.load1 rfl Try.isAgg3)) ?_
 refine sm rfl rfl rfl rfl ?_
 refine sx_pure rfl rfl rfl (px_gt rfl rfl) ?_
 refine wl_nil (q_n (k15 _ _ ?_))
 refine sx_condP rfl (fun h97 => ?_) (fun h97 => ?_)
 ·
  refine sx_region ?_
  refine sx_pure rfl rfl rfl (px_field rfl xfld31x1) ?_
  refine sx_pure rfl rfl rfl (px_load rfl (f17.load1 rfl Try.isAgg3)) ?_
  refine sa rfl rfl rfl rfl ?_
  refine wl_nil (q_n (k14 _ _ ?_))
  refine sx_sub (Sub.cons (t := 2) rfl (.cons (t := 3) rfl (.cons (t := 4) rfl (.cons (t := 5) rfl (.cons (t := 6) rfl (.cons (t := 7) rfl (.nil))))))) ?_
  refine sx_seq fun K18 k18 => ?_
  have f19 := hva0.ext cb2
  have f20 := f19.ext cb4
  have f21 := f20.ext cb6
  have f22 := f21.ext cb8
  have f23 := hvb0.ext cb2
  have f24 := f23.ext cb4
  have f25 := f24.ext cb6
  have f26 := f25.ext cb8
  refine dx_region (fun w' => Chg b6 (b8 + 1) w9 w') (by kernel_rfl) (Chg.zero (Chg.drew _)) ?_
  have d27 := Chg.drew w9
  have s27 : Chg b6 (b8 + 1) w9 (World.drew w9) := Chg.zero (Chg.drew _)
  have y27 : (World.drew w9).heap.size = w9.heap.size := rfl
  generalize World.drew w9 = w27 at *
  have zw27 := d27.size
  refine dx_take 0 rfl rfl rfl rfl (by kernel_rfl) (by kernel_rfl) (by kernel_rfl) s27 (fun _ hS => px_field rfl xfld31x0) ?_
  refine dx_take 1 rfl rfl rfl rfl (by kernel_rfl) (by kernel_rfl) (by kernel_rfl) s27 (fun _ hS => px_load rfl ((f13.chg hS (by omega)).loadA (vs := [.bool (ng x), va]) (look_lit rfl) Try.isAgg29 Try.sizeOf29)) ?_
  refine dx_take 2 rfl rfl rfl rfl (by kernel_rfl) (by kernel_rfl) (by kernel_rfl) s27 (fun _ hS => px_move rfl) ?_
  refine dx_take 3 rfl rfl rfl rfl (by kernel_rfl) (by kernel_rfl) (by kernel_rfl) s27 (fun _ hS => px_field rfl xfld31x1) ?_
  refine dx_take 4 rfl rfl rfl rfl (by kernel_rfl) (by kernel_rfl) (by kernel_rfl) s27 (fun _ hS => px_load rfl ((f13.chg hS (by omega)).load1 rfl Try.isAgg3)) ?_
  refine dx_take 5 rfl rfl rfl rfl (by kernel_rfl) (by kernel_rfl) (by kernel_rfl) s27 (fun _ hS => px_sub rfl rfl (by omega)) ?_
  refine dx_take 8 rfl rfl rfl rfl (by kernel_rfl) (by kernel_rfl) (by kernel_rfl) s27 (fun _ hS => px_field rfl xfld31x0) ?_
  refine dx_take 9 rfl rfl rfl rfl (by kernel_rfl) (by kernel_rfl) (by kernel_rfl) s27 (fun _ hS => px_load rfl ((f17.chg hS (by omega)).loadA (vs := [.bool (ng y), vb]) (look_lit rfl) Try.isAgg29 Try.sizeOf29)) ?_
  refine dx_take 10 rfl rfl rfl rfl (by kernel_rfl) (by kernel_rfl) (by kernel_rfl) s27 (fun _ hS => px_move rfl) ?_
  refine dx_take 11 rfl rfl rfl rfl (by kernel_rfl) (by kernel_rfl) (by kernel_rfl) s27 (fun _ hS => px_field rfl xfld31x1) ?_
  refine dx_take 12 rfl rfl rfl rfl (by kernel_rfl) (by kernel_rfl) (by kernel_rfl) s27 (fun _ hS => px_load rfl ((f17.chg hS (by omega)).load1 rfl Try.isAgg3)) ?_
  refine dx_take 13 rfl rfl rfl rfl (by kernel_rfl) (by kernel_rfl) (by kernel_rfl) s27 (fun _ hS => px_sub rfl rfl (by omega)) ?_
  refine dx_take 16 rfl rfl rfl rfl (by kernel_rfl) (by kernel_rfl) (by kernel_rfl) s27 (fun _ hS => px_move rfl) ?_
  refine dx_eff 6 rfl (by kernel_rfl) ?_
  refine sx_call rfl rfl Try.call96 (c_l07Ten (by omega)) (fun v28 w28 p28 => ?_)
  obtain ⟨s28, rfl, os_28, c28⟩ := p28
  have zw28 := c28.size
  have s29 : Chg b6 (b8 + 1) w9 w28 := (Chg.zero (l := b6) (h := (b8 + 1)) (d27.t c28))
  refine wl_nil ?_
  refine dx_next s29 ?_
  refine dx_eff 7 rfl (by kernel_rfl) ?_
  have f30 := f22.ext d27
  have f31 := f30.ext c28
  refine sx_call rfl rfl Try.call67 (c_IntMulE f31 os_28.sv (by have h1 := len_ten (k := p - p) (by omega); have h2 := len_ten (k := q - p) (by omega); have h3 := len_ten (k := p - q) (by omega); have h4 := len_ten (k := q - q) (by omega); omega)) (fun v32 w32 p32 => ?_)
  obtain ⟨s32, rfl, os_32, c32⟩ := p32
  have zw32 := c32.size
  have s33 : Chg b6 (b8 + 1) w9 w32 := (Chg.zero (l := b6) (h := (b8 + 1)) ((d27.t c28).t c32))
  refine wl_nil ?_
  refine dx_next s33 ?_
  refine dx_eff 14 rfl (by kernel_rfl) ?_
  refine sx_call rfl rfl Try.call96 (c_l07Ten (by omega)) (fun v34 w34 p34 => ?_)
  obtain ⟨s34, rfl, os_34, c34⟩ := p34
  have zw34 := c34.size
  have s35 : Chg b6 (b8 + 1) w9 w34 := (Chg.zero (l := b6) (h := (b8 + 1)) (((d27.t c28).t c32).t c34))
  refine wl_nil ?_
  refine dx_next s35 ?_
  refine dx_eff 15 rfl (by kernel_rfl) ?_
  have f36 := f26.ext d27
  have f37 := f36.ext c28
  have f38 := f37.ext c32
  have f39 := f38.ext c34
  refine sx_call rfl rfl Try.call67 (c_IntMulE f39 os_34.sv (by have h1 := len_ten (k := p - p) (by omega); have h2 := len_ten (k := q - p) (by omega); have h3 := len_ten (k := p - q) (by omega); have h4 := len_ten (k := q - q) (by omega); omega)) (fun v40 w40 p40 => ?_)
  obtain ⟨s40, rfl, os_40, c40⟩ := p40
  have zw40 := c40.size
  have s41 : Chg b6 (b8 + 1) w9 w40 := (Chg.zero (l := b6) (h := (b8 + 1)) ((((d27.t c28).t c32).t c34).t c40))
  refine wl_nil ?_
  refine dx_next s41 ?_
  refine dx_eff 17 rfl (by kernel_rfl) ?_
  have f43 := fb6.ext cb8
  have f44 := f43.ext d27
  have f45 := f44.ext c28
  have f46 := f45.ext c32
  have f47 := f46.ext c34
  have f48 := f47.ext c40
  have f49 := os_32.ext c34
  have f50 := f49.ext c40
  refine sx_store (vs := [.bool (ng (x * (tenI (q - p)))), s32]) rfl rfl f48 rfl Try.sizeOf29 (Nat.le_of_ble_eq_true rfl) (one_cons rfl (one_cons f50.one one_nil)) (fun w42 sw42 fw42 cw42 => ?_)
  have zw42 := cw42.size
  have gw42 : Blk w42 b6 [.bool (ng (x * (tenI (q - p)))), s32] 29 := fw42
  have q52 := Chg.step (l := b6) (h := (b8 + 1)) (Chg.zero (l := b6) (h := (b8 + 1)) ((((d27.t c28).t c32).t c34).t c40)) cw42 (by omega)
  have s51 : Chg b6 (b8 + 1) w9 w42 := q52
  refine wl_nil ?_
  refine dx_next s51 ?_
  refine dx_eff 18 rfl (by kernel_rfl) ?_
  have f54 := fb8.ext d27
  have f55 := f54.ext c28
  have f56 := f55.ext c32
  have f57 := f56.ext c34
  have f58 := f57.ext c40
  have f59 := f58.chg cw42 (by omega)
  have f60 := os_40.chg cw42 (by omega)
  refine sx_store (vs := [.bool (ng (y * (tenI (q - q)))), s40]) rfl rfl f59 rfl Try.sizeOf29 (Nat.le_of_ble_eq_true rfl) (one_cons rfl (one_cons f60.one one_nil)) (fun w53 sw53 fw53 cw53 => ?_)
  have zw53 := cw53.size
  have gw53 : Blk w53 b8 [.bool (ng (y * (tenI (q - q)))), s40] 29 := fw53
  have q62 := Chg.step (l := b6) (h := (b8 + 1)) (Chg.zero (l := b6) (h := (b8 + 1)) ((((d27.t c28).t c32).t c34).t c40)) cw42 (by omega)
  have q63 := Chg.step (l := b6) (h := (b8 + 1)) q62 cw53 (by omega)
  have s61 : Chg b6 (b8 + 1) w9 w53 := q63
  refine wl_nil ?_
  refine dx_next s61 ?_
  refine dx_take 19 rfl rfl rfl rfl (by kernel_rfl) (by kernel_rfl) (by kernel_rfl) s61 (fun _ hS => px_assign rfl) ?_
  refine dx_done (by kernel_rfl) ?_
  refine q_n (k18 _ _ ?_)
  refine sx_sub (Sub.cons (t := 4) rfl (.cons (t := 5) rfl (.cons (t := 6) rfl (.nil)))) ?_
  refine sx_retc ?_
  have f64 := gw42.chg cw53 (by omega)
  refine sx_ret3 Try.results70 ⟨_, rfl, f64.loadA (vs := [.bool (ng (x * (tenI (q - p)))), s32]) (look_lit rfl) Try.isAgg29 Try.sizeOf29⟩ ⟨_, rfl, gw53.loadA (vs := [.bool (ng (y * (tenI (q - q)))), s40]) (look_lit rfl) Try.isAgg29 Try.sizeOf29⟩ rfl ?_
  have em : max p q = q := by omega
  rw [em]
  have f65 := f50.chg cw42 (by omega)
  have f66 := f65.chg cw53 (by omega)
  have f67 := f60.chg cw53 (by omega)
  have q68 := Chg.step (l := 0) (h := 0) (Chg.zero (l := 0) (h := 0) ((((((((cb2.t cb4).t cb6).t cb8).t d27).t c28).t c32).t c34).t c40)) cw42 (by omega)
  have q69 := Chg.step (l := 0) (h := 0) q68 cw53 (by omega)
  exact ⟨_, _, rfl, (Own.mono f66 (by omega) (by omega)), (Own.mono f67 (by omega) (by omega)), q69⟩
 ·
  refine sx_skip ?_
  refine q_n (k14 _ _ ?_)
  refine sx_seq fun K70 k70 => ?_
  have f71 := hva0.ext cb2
  have f72 := f71.ext cb4
  have f73 := f72.ext cb6
  have f74 := f73.ext cb8
  have f75 := hvb0.ext cb2
  have f76 := f75.ext cb4
  have f77 := f76.ext cb6
  have f78 := f77.ext cb8
  refine dx_region (fun w' => Chg b6 (b8 + 1) w9 w') (by kernel_rfl) (Chg.zero (Chg.drew _)) ?_
  have d79 := Chg.drew w9
  have s79 : Chg b6 (b8 + 1) w9 (World.drew w9) := Chg.zero (Chg.drew _)
  have y79 : (World.drew w9).heap.size = w9.heap.size := rfl
  generalize World.drew w9 = w79 at *
  have zw79 := d79.size
  refine dx_take 0 rfl rfl rfl rfl (by kernel_rfl) (by kernel_rfl) (by kernel_rfl) s79 (fun _ hS => px_field rfl xfld31x0) ?_
  refine dx_take 1 rfl rfl rfl rfl (by kernel_rfl) (by kernel_rfl) (by kernel_rfl) s79 (fun _ hS => px_load rfl ((f13.chg hS (by omega)).loadA (vs := [.bool (ng x), va]) (look_lit rfl) Try.isAgg29 Try.sizeOf29)) ?_
  refine dx_take 2 rfl rfl rfl rfl (by kernel_rfl) (by kernel_rfl) (by kernel_rfl) s79 (fun _ hS => px_move rfl) ?_
  refine dx_take 3 rfl rfl rfl rfl (by kernel_rfl) (by kernel_rfl) (by kernel_rfl) s79 (fun _ hS => px_field rfl xfld31x1) ?_
  refine dx_take 4 rfl rfl rfl rfl (by kernel_rfl) (by kernel_rfl) (by kernel_rfl) s79 (fun _ hS => px_load rfl ((f13.chg hS (by omega)).load1 rfl Try.isAgg3)) ?_
  refine dx_take 5 rfl rfl rfl rfl (by kernel_rfl) (by kernel_rfl) (by kernel_rfl) s79 (fun _ hS => px_sub rfl rfl (by omega)) ?_
  refine dx_take 8 rfl rfl rfl rfl (by kernel_rfl) (by kernel_rfl) (by kernel_rfl) s79 (fun _ hS => px_field rfl xfld31x0) ?_
  refine dx_take 9 rfl rfl rfl rfl (by kernel_rfl) (by kernel_rfl) (by kernel_rfl) s79 (fun _ hS => px_load rfl ((f17.chg hS (by omega)).loadA (vs := [.bool (ng y), vb]) (look_lit rfl) Try.isAgg29 Try.sizeOf29)) ?_
  refine dx_take 10 rfl rfl rfl rfl (by kernel_rfl) (by kernel_rfl) (by kernel_rfl) s79 (fun _ hS => px_move rfl) ?_
  refine dx_take 11 rfl rfl rfl rfl (by kernel_rfl) (by kernel_rfl) (by kernel_rfl) s79 (fun _ hS => px_field rfl xfld31x1) ?_
  refine dx_take 12 rfl rfl rfl rfl (by kernel_rfl) (by kernel_rfl) (by kernel_rfl) s79 (fun _ hS => px_load rfl ((f17.chg hS (by omega)).load1 rfl Try.isAgg3)) ?_
  refine dx_take 13 rfl rfl rfl rfl (by kernel_rfl) (by kernel_rfl) (by kernel_rfl) s79 (fun _ hS => px_sub rfl rfl (by omega)) ?_
  refine dx_take 16 rfl rfl rfl rfl (by kernel_rfl) (by kernel_rfl) (by kernel_rfl) s79 (fun _ hS => px_move rfl) ?_
  refine dx_eff 6 rfl (by kernel_rfl) ?_
  refine sx_call rfl rfl Try.call96 (c_l07Ten (by omega)) (fun v80 w80 p80 => ?_)
  obtain ⟨s80, rfl, os_80, c80⟩ := p80
  have zw80 := c80.size
  have s81 : Chg b6 (b8 + 1) w9 w80 := (Chg.zero (l := b6) (h := (b8 + 1)) (d79.t c80))
  refine wl_nil ?_
  refine dx_next s81 ?_
  refine dx_eff 7 rfl (by kernel_rfl) ?_
  have f82 := f74.ext d79
  have f83 := f82.ext c80
  refine sx_call rfl rfl Try.call67 (c_IntMulE f83 os_80.sv (by have h1 := len_ten (k := p - p) (by omega); have h2 := len_ten (k := q - p) (by omega); have h3 := len_ten (k := p - q) (by omega); have h4 := len_ten (k := q - q) (by omega); omega)) (fun v84 w84 p84 => ?_)
  obtain ⟨s84, rfl, os_84, c84⟩ := p84
  have zw84 := c84.size
  have s85 : Chg b6 (b8 + 1) w9 w84 := (Chg.zero (l := b6) (h := (b8 + 1)) ((d79.t c80).t c84))
  refine wl_nil ?_
  refine dx_next s85 ?_
  refine dx_eff 14 rfl (by kernel_rfl) ?_
  refine sx_call rfl rfl Try.call96 (c_l07Ten (by omega)) (fun v86 w86 p86 => ?_)
  obtain ⟨s86, rfl, os_86, c86⟩ := p86
  have zw86 := c86.size
  have s87 : Chg b6 (b8 + 1) w9 w86 := (Chg.zero (l := b6) (h := (b8 + 1)) (((d79.t c80).t c84).t c86))
  refine wl_nil ?_
  refine dx_next s87 ?_
  refine dx_eff 15 rfl (by kernel_rfl) ?_
  have f88 := f78.ext d79
  have f89 := f88.ext c80
  have f90 := f89.ext c84
  have f91 := f90.ext c86
  refine sx_call rfl rfl Try.call67 (c_IntMulE f91 os_86.sv (by have h1 := len_ten (k := p - p) (by omega); have h2 := len_ten (k := q - p) (by omega); have h3 := len_ten (k := p - q) (by omega); have h4 := len_ten (k := q - q) (by omega); omega)) (fun v92 w92 p92 => ?_)
  obtain ⟨s92, rfl, os_92, c92⟩ := p92
  have zw92 := c92.size
  have s93 : Chg b6 (b8 + 1) w9 w92 := (Chg.zero (l := b6) (h := (b8 + 1)) ((((d79.t c80).t c84).t c86).t c92))
  refine wl_nil ?_
  refine dx_next s93 ?_
  refine dx_eff 17 rfl (by kernel_rfl) ?_
  have f95 := fb6.ext cb8
  have f96 := f95.ext d79
  have f97 := f96.ext c80
  have f98 := f97.ext c84
  have f99 := f98.ext c86
  have f100 := f99.ext c92
  have f101 := os_84.ext c86
  have f102 := f101.ext c92
  refine sx_store (vs := [.bool (ng (x * (tenI (p - p)))), s84]) rfl rfl f100 rfl Try.sizeOf29 (Nat.le_of_ble_eq_true rfl) (one_cons rfl (one_cons f102.one one_nil)) (fun w94 sw94 fw94 cw94 => ?_)
  have zw94 := cw94.size
  have gw94 : Blk w94 b6 [.bool (ng (x * (tenI (p - p)))), s84] 29 := fw94
  have q104 := Chg.step (l := b6) (h := (b8 + 1)) (Chg.zero (l := b6) (h := (b8 + 1)) ((((d79.t c80).t c84).t c86).t c92)) cw94 (by omega)
  have s103 : Chg b6 (b8 + 1) w9 w94 := q104
  refine wl_nil ?_
  refine dx_next s103 ?_
  refine dx_eff 18 rfl (by kernel_rfl) ?_
  have f106 := fb8.ext d79
  have f107 := f106.ext c80
  have f108 := f107.ext c84
  have f109 := f108.ext c86
  have f110 := f109.ext c92
  have f111 := f110.chg cw94 (by omega)
  have f112 := os_92.chg cw94 (by omega)
  refine sx_store (vs := [.bool (ng (y * (tenI (p - q)))), s92]) rfl rfl f111 rfl Try.sizeOf29 (Nat.le_of_ble_eq_true rfl) (one_cons rfl (one_cons f112.one one_nil)) (fun w105 sw105 fw105 cw105 => ?_)
  have zw105 := cw105.size
  have gw105 : Blk w105 b8 [.bool (ng (y * (tenI (p - q)))), s92] 29 := fw105
  have q114 := Chg.step (l := b6) (h := (b8 + 1)) (Chg.zero (l := b6) (h := (b8 + 1)) ((((d79.t c80).t c84).t c86).t c92)) cw94 (by omega)
  have q115 := Chg.step (l := b6) (h := (b8 + 1)) q114 cw105 (by omega)
  have s113 : Chg b6 (b8 + 1) w9 w105 := q115
  refine wl_nil ?_
  refine dx_next s113 ?_
  refine dx_take 19 rfl rfl rfl rfl (by kernel_rfl) (by kernel_rfl) (by kernel_rfl) s113 (fun _ hS => px_assign rfl) ?_
  refine dx_done (by kernel_rfl) ?_
  refine q_n (k70 _ _ ?_)
  refine sx_sub (Sub.cons (t := 4) rfl (.cons (t := 5) rfl (.cons (t := 6) rfl (.nil)))) ?_
  refine sx_retc ?_
  have f116 := gw94.chg cw105 (by omega)
  refine sx_ret3 Try.results70 ⟨_, rfl, f116.loadA (vs := [.bool (ng (x * (tenI (p - p)))), s84]) (look_lit rfl) Try.isAgg29 Try.sizeOf29⟩ ⟨_, rfl, gw105.loadA (vs := [.bool (ng (y * (tenI (p - q)))), s92]) (look_lit rfl) Try.isAgg29 Try.sizeOf29⟩ rfl ?_
  have em : max p q = p := by omega
  rw [em]
  have f117 := f102.chg cw94 (by omega)
  have f118 := f117.chg cw105 (by omega)
  have f119 := f112.chg cw105 (by omega)
  have q120 := Chg.step (l := 0) (h := 0) (Chg.zero (l := 0) (h := 0) ((((((((cb2.t cb4).t cb6).t cb8).t d79).t c80).t c84).t c86).t c92)) cw94 (by omega)
  have q121 := Chg.step (l := 0) (h := 0) q120 cw105 (by omega)
  exact ⟨_, _, rfl, (Own.mono f118 (by omega) (by omega)), (Own.mono f119 (by omega) (by omega)), q121⟩

theorem c_l02Add {w : World} {va : Value} {lva uva : Nat} {m : Nat} {vb : Value} {lvb uvb : Nat} {n : Nat} (hva : Sl w lva uva va (dg m)) (hvb : Sl w lvb uvb vb (dg n)) (hbm : (dg m).length ≤ 1000) (hbn : (dg n).length ≤ 1000) :
  Ret Try.prog 125 [va, vb] w fun v w' => ∃ s, v = s ∧ Sl w' (w.heap.size) (w'.heap.size) s (dg (m + n)) ∧ Chg 0 0 w w' := by
 have hva0 := hva.fit
 have hvb0 := hvb.fit
 refine sx_enter Try.func125 rfl Try.ntmps125 (Nat.le_of_ble_eq_true rfl) ?_
 refine sx_seq fun K1 k1 => sx_region ?_
 refine sa rfl rfl rfl rfl ?_
 refine wl_nil (q_n (k1 _ _ ?_))
 refine sx_seq fun K2 k2 => sx_region ?_
 refine sx_lit0 rfl xelt22 (fun s3 ws3 ss3 fs3 cs3 => ?_)
 have zws3 := cs3.size
 refine sa rfl rfl rfl rfl ?_
 refine wl_nil (q_n (k2 _ _ ?_))
 refine sx_seq fun K4 k4 => sx_region ?_
 refine sa rfl rfl rfl rfl ?_
 refine wl_nil (q_n (k4 _ _ ?_))
 refine sx_seq fun K5 k5 => ?_
 refine sx_seq fun K6 k6 => sx_region ?_
 refine sa rfl rfl rfl rfl ?_
 refine wl_nil (q_n (k6 _ _ ?_))
 refine sx_block ?_
 refine sx_loop (fun mm aa w' => ∃ (k : Nat) (s : Value) (os : List Int) (c : Nat), Agr 55 [(0, va), (1, vb), (5, s), (6, .int .i64 ((c : Nat) : Int)), (7, .int .i64 ↑k)] aa ∧ Chg w.heap.size ws3.heap.size ws3 w' ∧ Own w' w.heap.size w'.heap.size s intT os.length 1 (os.map (Value.int .i64)) ∧ (mm = max (dg m).length (dg n).length + 1 - k) ∧ (os.length = k) ∧ (Lm os) ∧ (c ≤ 1) ∧ (vl os + Bs ^ k * c = vl ((dg m).take k) + vl ((dg n).take k)) ∧ (k ≤ max (dg m).length (dg n).length ∨ (c = 0 ∧ k = max (dg m).length (dg n).length + 1 ∧ Bs ^ (k - 1) ≤ vl os))) (_) (fun a ha => ⟨0, s3, [], 0, ha.sub (Sub.cons (t := 0) rfl (.cons (t := 1) rfl (.cons (t := 5) rfl (.cons (t := 6) (look_int (t := 6) rfl (by first | omega | simp)) (.cons (t := 7) (look_int (t := 7) rfl (by first | omega | simp)) (.nil)))))), Chg.refl _ _ _, (fs3.mono (by omega) (by omega)), rfl, rfl, Lm.nil, by omega, by simp [vl], .inl (Nat.zero_le _)⟩) ?_
 rintro mm aa wl7 ⟨k, s, os, c, hAwl7, cwl7, hs_s, hm, hos, hlm, hc, hv, hlast⟩
 refine (show cw Try.prog 55 _ _ _ wl7 from ?_) aa hAwl7
 clear hAwl7
 have zwl7 := cwl7.size
 have am := (Lm_dg m).getD k
 have bn := (Lm_dg n).getD k
 refine sx_seq fun K8 k8 => ?_
 refine sx_seq fun K9 k9 => sx_region ?_
 refine sm rfl rfl rfl rfl ?_
 refine sm rfl rfl rfl rfl ?_
 have f10 := hva0.ext cs3
 have f11 := f10.chg cwl7 (by omega)
 refine sx_pure rfl rfl rfl (px_len rfl Try.underlying22 f11) ?_
 refine sx_pure rfl rfl rfl (px_lt rfl rfl) ?_
 refine sm rfl rfl rfl rfl ?_
 refine sx_tmpP (t := 14) rfl (fun h82 => ?_) (fun h82 => ?_)
 ·
  refine sx_guardF rfl rfl rfl rfl rfl rfl ?_
  refine sx_guardF rfl rfl rfl rfl rfl rfl ?_
  refine sx_guardF rfl rfl rfl rfl rfl rfl ?_
  refine sx_guardF rfl rfl rfl rfl rfl rfl ?_
  refine sx_pure rfl rfl rfl (px_pick rfl rfl) ?_
  refine sm rfl rfl rfl rfl ?_
  refine sx_guardF rfl rfl rfl rfl rfl rfl ?_
  refine sx_guardF rfl rfl rfl rfl rfl rfl ?_
  refine sx_pure rfl rfl rfl (px_pick rfl rfl) ?_
  refine wl_nil (q_n (k9 _ _ ?_))
  refine sx_sub (Sub.cons (t := 0) rfl (.cons (t := 1) rfl (.cons (t := 5) rfl (.cons (t := 6) rfl (.cons (t := 7) rfl (.cons (t := 23) rfl (.nil))))))) ?_
  refine sx_condT rfl ?_
  refine sx_skip ?_
  refine q_n (k8 _ _ ?_)
  refine sx_seq fun K12 k12 => ?_
  refine sx_block ?_
  refine sx_seq fun K13 k13 => sx_region ?_
  refine sm rfl rfl rfl rfl ?_
  refine sa rfl rfl rfl rfl ?_
  refine wl_nil (q_n (k13 _ _ ?_))
  refine sx_seq fun K14 k14 => ?_
  refine sx_seq fun K15 k15 => sx_region ?_
  refine sm rfl rfl rfl rfl ?_
  refine sm rfl rfl rfl rfl ?_
  refine sx_pure rfl rfl rfl (px_len rfl Try.underlying22 f11) ?_
  refine sx_pure rfl rfl rfl (px_lt rfl rfl) ?_
  refine wl_nil (q_n (k15 _ _ ?_))
  refine sx_condP rfl (fun h84 => ?_) (fun h84 => ?_)
  ·
   refine sx_region ?_
   refine sm rfl rfl rfl rfl ?_
   refine sm rfl rfl rfl rfl ?_
   refine sm rfl rfl rfl rfl ?_
   refine sx_pure rfl rfl rfl (px_index1 (j := k) rfl rfl (by omega) Try.underlying22 Try.sizeOf3 f11 (by omega)) ?_
   refine sx_pure rfl rfl rfl (px_load rfl (f11.load1 (at_int (by omega)) Try.isAgg3)) ?_
   refine sx_pure rfl rfl rfl (px_add rfl rfl (by omega)) ?_
   refine sa rfl rfl rfl rfl ?_
   refine wl_nil (q_n (k14 _ _ ?_))
   refine sx_sub (Sub.cons (t := 0) rfl (.cons (t := 1) rfl (.cons (t := 5) rfl (.cons (t := 6) rfl (.cons (t := 7) rfl (.cons (t := 8) rfl (.nil))))))) ?_
   refine sx_seq fun K16 k16 => ?_
   refine sx_seq fun K17 k17 => sx_region ?_
   refine sm rfl rfl rfl rfl ?_
   refine sm rfl rfl rfl rfl ?_
   have f18 := hvb0.ext cs3
   have f19 := f18.chg cwl7 (by omega)
   refine sx_pure rfl rfl rfl (px_len rfl Try.underlying22 f19) ?_
   refine sx_pure rfl rfl rfl (px_lt rfl rfl) ?_
   refine wl_nil (q_n (k17 _ _ ?_))
   refine sx_condP rfl (fun h87 => ?_) (fun h87 => ?_)
   ·
    refine sx_region ?_
    refine sm rfl rfl rfl rfl ?_
    refine sm rfl rfl rfl rfl ?_
    refine sm rfl rfl rfl rfl ?_
    refine sx_pure rfl rfl rfl (px_index1 (j := k) rfl rfl (by omega) Try.underlying22 Try.sizeOf3 f19 (by omega)) ?_
    refine sx_pure rfl rfl rfl (px_load rfl (f19.load1 (at_int (by omega)) Try.isAgg3)) ?_
    refine sx_pure rfl rfl rfl (px_add rfl rfl (by omega)) ?_
    refine sa rfl rfl rfl rfl ?_
    refine wl_nil (q_n (k16 _ _ ?_))
    refine sx_sub (Sub.cons (t := 0) rfl (.cons (t := 1) rfl (.cons (t := 5) rfl (.cons (t := 6) rfl (.cons (t := 7) rfl (.cons (t := 8) rfl (.nil))))))) ?_
    refine sx_seq fun K20 k20 => sx_region ?_
    refine sm rfl rfl rfl rfl ?_
    refine sm rfl rfl rfl rfl ?_
    refine sx_pure rfl rfl rfl (px_rem rfl rfl (by omega) (by omega)) ?_
    refine sx_lit1 rfl xelt22 rfl rfl (fun s21 ws21 ss21 fs21 cs21 => ?_)
    have ns21 := Own.norm (f := (Value.int .i64)) (zs := [((((c : Nat) : Int) + ((dg m).getD k 0)) + ((dg n).getD k 0)) % 1000000000]) fs21
    have zws21 := cs21.size
    have f23 := hs_s.ext cs21
    refine sx_append rfl xelt22 rfl rfl f23 ns21.sv one_int (by omega) (by simp only [List.length_cons, List.length_nil]; omega) (by unfold maxLen; simp only [List.length_cons, List.length_nil]; omega) (fun a22 w22 fw22 cw22 => ?_)
    have nw22 := Own.app (f := (Value.int .i64)) (a := os) (b := [((((c : Nat) : Int) + ((dg m).getD k 0)) + ((dg n).getD k 0)) % 1000000000]) fw22
    have zw22 := cw22.size
    refine sa rfl rfl rfl rfl ?_
    refine wl_nil (q_n (k20 _ _ ?_))
    refine sx_region ?_
    refine sm rfl rfl rfl rfl ?_
    refine sx_pure rfl rfl rfl (px_quo rfl rfl (by omega) (by omega) (by omega)) ?_
    refine sa rfl rfl rfl rfl ?_
    refine wl_nil ?_
    refine q_bn (q_n (k12 _ _ ?_))
    refine sx_region ?_
    refine sm rfl rfl rfl rfl ?_
    refine sx_pure rfl rfl rfl (px_add rfl rfl (by omega)) ?_
    refine sa rfl rfl rfl rfl ?_
    refine wl_nil ?_
    have q24 := Chg.step (l := w.heap.size) (h := ws3.heap.size) cwl7 cs21 (by omega)
    have q25 := Chg.step (l := w.heap.size) (h := ws3.heap.size) q24 cw22 (by omega)
    have hs : (((((c : Nat) : Int) + ((dg m).getD k 0)) + ((dg n).getD k 0)) : Int) = ((c : Nat) : Int) + (((dg m).getD k 0).toNat : Nat) + (((dg n).getD k 0).toNat : Nat) := by omega
    have hv2 : vl (os ++ [(((((c : Nat) : Int) + ((dg m).getD k 0)) + ((dg n).getD k 0))) % 1000000000]) + Bs ^ (k + 1) * ((((((c : Nat) : Int) + ((dg m).getD k 0)) + ((dg n).getD k 0))) / 1000000000 : Int).toNat = vl ((dg m).take (k + 1)) + vl ((dg n).take (k + 1)) := by
     rw [vl_concat, hos, vl_take_succ', vl_take_succ', Nat.pow_succ]
     exact add_step hs hv
    have hX := mod_bd (s := ((((c : Nat) : Int) + ((dg m).getD k 0)) + ((dg n).getD k 0))) (by omega)
    have hl3 : k + 1 ≤ max (dg m).length (dg n).length ∨ (((((((c : Nat) : Int) + ((dg m).getD k 0)) + ((dg n).getD k 0))) / 1000000000 : Int).toNat = 0 ∧ k + 1 = max (dg m).length (dg n).length + 1 ∧ Bs ^ (k + 1 - 1) ≤ vl (os ++ [(((((c : Nat) : Int) + ((dg m).getD k 0)) + ((dg n).getD k 0))) % 1000000000])) := by
     by_cases hkM : k + 1 ≤ max (dg m).length (dg n).length
     · exact .inl hkM
     · first
      | (exfalso; omega)
      | (refine .inr ⟨by omega, by omega, ?_⟩; rw [vl_concat, hos, Nat.add_sub_cancel, show (((((c : Nat) : Int) + ((dg m).getD k 0)) + ((dg n).getD k 0))) % 1000000000 = 1 by omega]; exact Nat.le_trans (by simp) (Nat.le_add_left _ _))
    exact fun a ha => ⟨_, by omega, (k + 1), a22, (os ++ ([((((c : Nat) : Int) + ((dg m).getD k 0)) + ((dg n).getD k 0)) % 1000000000])), ((((((c : Nat) : Int) + ((dg m).getD k 0)) + ((dg n).getD k 0))) / 1000000000 : Int).toNat, ha.sub (Sub.cons (t := 0) rfl (.cons (t := 1) rfl (.cons (t := 5) rfl (.cons (t := 6) (look_int (t := 6) rfl (by first | omega | simp)) (.cons (t := 7) (look_int (t := 7) rfl (by first | omega | simp)) (.nil)))))), q25, (nw22.mono (by omega) (by omega)), rfl, by simp [hos], hlm.append (Lm.single hX.1 hX.2), by omega, hv2, hl3⟩
   ·
    have gn := getD_ge (zs := dg n) (k := k) (by omega)
    refine sx_skip ?_
    refine q_n (k16 _ _ ?_)
    refine sx_seq fun K26 k26 => sx_region ?_
    refine sm rfl rfl rfl rfl ?_
    refine sm rfl rfl rfl rfl ?_
    refine sx_pure rfl rfl rfl (px_rem rfl rfl (by omega) (by omega)) ?_
    refine sx_lit1 rfl xelt22 rfl rfl (fun s27 ws27 ss27 fs27 cs27 => ?_)
    have ns27 := Own.norm (f := (Value.int .i64)) (zs := [(((c : Nat) : Int) + ((dg m).getD k 0)) % 1000000000]) fs27
    have zws27 := cs27.size
    have f29 := hs_s.ext cs27
    refine sx_append rfl xelt22 rfl rfl f29 ns27.sv one_int (by omega) (by simp only [List.length_cons, List.length_nil]; omega) (by unfold maxLen; simp only [List.length_cons, List.length_nil]; omega) (fun a28 w28 fw28 cw28 => ?_)
    have nw28 := Own.app (f := (Value.int .i64)) (a := os) (b := [(((c : Nat) : Int) + ((dg m).getD k 0)) % 1000000000]) fw28
    have zw28 := cw28.size
    refine sa rfl rfl rfl rfl ?_
    refine wl_nil (q_n (k26 _ _ ?_))
    refine sx_sub (Sub.cons (t := 0) rfl (.cons (t := 1) rfl (.cons (t := 5) rfl (.cons (t := 6) rfl (.cons (t := 7) rfl (.cons (t := 8) rfl (.nil))))))) ?_
    refine sx_region ?_
    refine sm rfl rfl rfl rfl ?_
    refine sx_pure rfl rfl rfl (px_quo rfl rfl (by omega) (by omega) (by omega)) ?_
    refine sa rfl rfl rfl rfl ?_
    refine wl_nil ?_
    refine q_bn (q_n (k12 _ _ ?_))
    refine sx_region ?_
    refine sm rfl rfl rfl rfl ?_
    refine sx_pure rfl rfl rfl (px_add rfl rfl (by omega)) ?_
    refine sa rfl rfl rfl rfl ?_
    refine wl_nil ?_
    have q30 := Chg.step (l := w.heap.size) (h := ws3.heap.size) cwl7 cs27 (by omega)
    have q31 := Chg.step (l := w.heap.size) (h := ws3.heap.size) q30 cw28 (by omega)
    have hs : ((((c : Nat) : Int) + ((dg m).getD k 0)) : Int) = ((c : Nat) : Int) + (((dg m).getD k 0).toNat : Nat) + (((dg n).getD k 0).toNat : Nat) := by omega
    have hv2 : vl (os ++ [((((c : Nat) : Int) + ((dg m).getD k 0))) % 1000000000]) + Bs ^ (k + 1) * (((((c : Nat) : Int) + ((dg m).getD k 0))) / 1000000000 : Int).toNat = vl ((dg m).take (k + 1)) + vl ((dg n).take (k + 1)) := by
     rw [vl_concat, hos, vl_take_succ', vl_take_succ', Nat.pow_succ]
     exact add_step hs hv
    have hX := mod_bd (s := (((c : Nat) : Int) + ((dg m).getD k 0))) (by omega)
    have hl3 : k + 1 ≤ max (dg m).length (dg n).length ∨ ((((((c : Nat) : Int) + ((dg m).getD k 0))) / 1000000000 : Int).toNat = 0 ∧ k + 1 = max (dg m).length (dg n).length + 1 ∧ Bs ^ (k + 1 - 1) ≤ vl (os ++ [((((c : Nat) : Int) + ((dg m).getD k 0))) % 1000000000])) := by
     by_cases hkM : k + 1 ≤ max (dg m).length (dg n).length
     · exact .inl hkM
     · first
      | (exfalso; omega)
      | (refine .inr ⟨by omega, by omega, ?_⟩; rw [vl_concat, hos, Nat.add_sub_cancel, show ((((c : Nat) : Int) + ((dg m).getD k 0))) % 1000000000 = 1 by omega]; exact Nat.le_trans (by simp) (Nat.le_add_left _ _))
    exact fun a ha => ⟨_, by omega, (k + 1), a28, (os ++ ([(((c : Nat) : Int) + ((dg m).getD k 0)) % 1000000000])), (((((c : Nat) : Int) + ((dg m).getD k 0))) / 1000000000 : Int).toNat, ha.sub (Sub.cons (t := 0) rfl (.cons (t := 1) rfl (.cons (t := 5) rfl (.cons (t := 6) (look_int (t := 6) rfl (by first | omega | simp)) (.cons (t := 7) (look_int (t := 7) rfl (by first | omega | simp)) (.nil)))))), q31, (nw28.mono (by omega) (by omega)), rfl, by simp [hos], hlm.append (Lm.single hX.1 hX.2), by omega, hv2, hl3⟩
  ·
   have gm := getD_ge (zs := dg m) (k := k) (by omega)
   refine sx_skip ?_
   refine q_n (k14 _ _ ?_)
   refine sx_seq fun K32 k32 => ?_
   refine sx_seq fun K33 k33 => sx_region ?_
   refine sm rfl rfl rfl rfl ?_
   refine sm rfl rfl rfl rfl ?_
   have f34 := hvb0.ext cs3
   have f35 := f34.chg cwl7 (by omega)
   refine sx_pure rfl rfl rfl (px_len rfl Try.underlying22 f35) ?_
   refine sx_pure rfl rfl rfl (px_lt rfl rfl) ?_
   refine wl_nil (q_n (k33 _ _ ?_))
   refine sx_sub (Sub.cons (t := 0) rfl (.cons (t := 1) rfl (.cons (t := 5) rfl (.cons (t := 6) rfl (.cons (t := 7) rfl (.cons (t := 8) rfl (.cons (t := 40) rfl (.nil)))))))) ?_
   refine sx_condP rfl (fun h87 => ?_) (fun h87 => ?_)
   ·
    refine sx_region ?_
    refine sm rfl rfl rfl rfl ?_
    refine sm rfl rfl rfl rfl ?_
    refine sm rfl rfl rfl rfl ?_
    refine sx_pure rfl rfl rfl (px_index1 (j := k) rfl rfl (by omega) Try.underlying22 Try.sizeOf3 f35 (by omega)) ?_
    refine sx_pure rfl rfl rfl (px_load rfl (f35.load1 (at_int (by omega)) Try.isAgg3)) ?_
    refine sx_pure rfl rfl rfl (px_add rfl rfl (by omega)) ?_
    refine sa rfl rfl rfl rfl ?_
    refine wl_nil (q_n (k32 _ _ ?_))
    refine sx_seq fun K36 k36 => sx_region ?_
    refine sm rfl rfl rfl rfl ?_
    refine sm rfl rfl rfl rfl ?_
    refine sx_pure rfl rfl rfl (px_rem rfl rfl (by omega) (by omega)) ?_
    refine sx_lit1 rfl xelt22 rfl rfl (fun s37 ws37 ss37 fs37 cs37 => ?_)
    have ns37 := Own.norm (f := (Value.int .i64)) (zs := [(((c : Nat) : Int) + ((dg n).getD k 0)) % 1000000000]) fs37
    have zws37 := cs37.size
    have f39 := hs_s.ext cs37
    refine sx_append rfl xelt22 rfl rfl f39 ns37.sv one_int (by omega) (by simp only [List.length_cons, List.length_nil]; omega) (by unfold maxLen; simp only [List.length_cons, List.length_nil]; omega) (fun a38 w38 fw38 cw38 => ?_)
    have nw38 := Own.app (f := (Value.int .i64)) (a := os) (b := [(((c : Nat) : Int) + ((dg n).getD k 0)) % 1000000000]) fw38
    have zw38 := cw38.size
    refine sa rfl rfl rfl rfl ?_
    refine wl_nil (q_n (k36 _ _ ?_))
    refine sx_sub (Sub.cons (t := 0) rfl (.cons (t := 1) rfl (.cons (t := 5) rfl (.cons (t := 6) rfl (.cons (t := 7) rfl (.cons (t := 8) rfl (.nil))))))) ?_
    refine sx_region ?_
    refine sm rfl rfl rfl rfl ?_
    refine sx_pure rfl rfl rfl (px_quo rfl rfl (by omega) (by omega) (by omega)) ?_
    refine sa rfl rfl rfl rfl ?_
    refine wl_nil ?_
    refine q_bn (q_n (k12 _ _ ?_))
    refine sx_region ?_
    refine sm rfl rfl rfl rfl ?_
    refine sx_pure rfl rfl rfl (px_add rfl rfl (by omega)) ?_
    refine sa rfl rfl rfl rfl ?_
    refine wl_nil ?_
    have q40 := Chg.step (l := w.heap.size) (h := ws3.heap.size) cwl7 cs37 (by omega)
    have q41 := Chg.step (l := w.heap.size) (h := ws3.heap.size) q40 cw38 (by omega)
    have hs : ((((c : Nat) : Int) + ((dg n).getD k 0)) : Int) = ((c : Nat) : Int) + (((dg m).getD k 0).toNat : Nat) + (((dg n).getD k 0).toNat : Nat) := by omega
    have hv2 : vl (os ++ [((((c : Nat) : Int) + ((dg n).getD k 0))) % 1000000000]) + Bs ^ (k + 1) * (((((c : Nat) : Int) + ((dg n).getD k 0))) / 1000000000 : Int).toNat = vl ((dg m).take (k + 1)) + vl ((dg n).take (k + 1)) := by
     rw [vl_concat, hos, vl_take_succ', vl_take_succ', Nat.pow_succ]
     exact add_step hs hv
    have hX := mod_bd (s := (((c : Nat) : Int) + ((dg n).getD k 0))) (by omega)
    have hl3 : k + 1 ≤ max (dg m).length (dg n).length ∨ ((((((c : Nat) : Int) + ((dg n).getD k 0))) / 1000000000 : Int).toNat = 0 ∧ k + 1 = max (dg m).length (dg n).length + 1 ∧ Bs ^ (k + 1 - 1) ≤ vl (os ++ [((((c : Nat) : Int) + ((dg n).getD k 0))) % 1000000000])) := by
     by_cases hkM : k + 1 ≤ max (dg m).length (dg n).length
     · exact .inl hkM
     · first
      | (exfalso; omega)
      | (refine .inr ⟨by omega, by omega, ?_⟩; rw [vl_concat, hos, Nat.add_sub_cancel, show ((((c : Nat) : Int) + ((dg n).getD k 0))) % 1000000000 = 1 by omega]; exact Nat.le_trans (by simp) (Nat.le_add_left _ _))
    exact fun a ha => ⟨_, by omega, (k + 1), a38, (os ++ ([(((c : Nat) : Int) + ((dg n).getD k 0)) % 1000000000])), (((((c : Nat) : Int) + ((dg n).getD k 0))) / 1000000000 : Int).toNat, ha.sub (Sub.cons (t := 0) rfl (.cons (t := 1) rfl (.cons (t := 5) rfl (.cons (t := 6) (look_int (t := 6) rfl (by first | omega | simp)) (.cons (t := 7) (look_int (t := 7) rfl (by first | omega | simp)) (.nil)))))), q41, (nw38.mono (by omega) (by omega)), rfl, by simp [hos], hlm.append (Lm.single hX.1 hX.2), by omega, hv2, hl3⟩
   ·
    have gn := getD_ge (zs := dg n) (k := k) (by omega)
    refine sx_skip ?_
    refine q_n (k32 _ _ ?_)
    refine sx_seq fun K42 k42 => sx_region ?_
    refine sm rfl rfl rfl rfl ?_
    refine sm rfl rfl rfl rfl ?_
    refine sx_pure rfl rfl rfl (px_rem rfl rfl (by omega) (by omega)) ?_
    refine sx_lit1 rfl xelt22 rfl rfl (fun s43 ws43 ss43 fs43 cs43 => ?_)
    have ns43 := Own.norm (f := (Value.int .i64)) (zs := [((c : Nat) : Int) % 1000000000]) fs43
    have zws43 := cs43.size
    have f45 := hs_s.ext cs43
    refine sx_append rfl xelt22 rfl rfl f45 ns43.sv one_int (by omega) (by simp only [List.length_cons, List.length_nil]; omega) (by unfold maxLen; simp only [List.length_cons, List.length_nil]; omega) (fun a44 w44 fw44 cw44 => ?_)
    have nw44 := Own.app (f := (Value.int .i64)) (a := os) (b := [((c : Nat) : Int) % 1000000000]) fw44
    have zw44 := cw44.size
    refine sa rfl rfl rfl rfl ?_
    refine wl_nil (q_n (k42 _ _ ?_))
    refine sx_region ?_
    refine sm rfl rfl rfl rfl ?_
    refine sx_pure rfl rfl rfl (px_quo rfl rfl (by omega) (by omega) (by omega)) ?_
    refine sa rfl rfl rfl rfl ?_
    refine wl_nil ?_
    refine q_bn (q_n (k12 _ _ ?_))
    refine sx_region ?_
    refine sm rfl rfl rfl rfl ?_
    refine sx_pure rfl rfl rfl (px_add rfl rfl (by omega)) ?_
    refine sa rfl rfl rfl rfl ?_
    refine wl_nil ?_
    have q46 := Chg.step (l := w.heap.size) (h := ws3.heap.size) cwl7 cs43 (by omega)
    have q47 := Chg.step (l := w.heap.size) (h := ws3.heap.size) q46 cw44 (by omega)
    have hs : (((c : Nat) : Int) : Int) = ((c : Nat) : Int) + (((dg m).getD k 0).toNat : Nat) + (((dg n).getD k 0).toNat : Nat) := by omega
    have hv2 : vl (os ++ [(((c : Nat) : Int)) % 1000000000]) + Bs ^ (k + 1) * ((((c : Nat) : Int)) / 1000000000 : Int).toNat = vl ((dg m).take (k + 1)) + vl ((dg n).take (k + 1)) := by
     rw [vl_concat, hos, vl_take_succ', vl_take_succ', Nat.pow_succ]
     exact add_step hs hv
    have hX := mod_bd (s := ((c : Nat) : Int)) (by omega)
    have hl3 : k + 1 ≤ max (dg m).length (dg n).length ∨ (((((c : Nat) : Int)) / 1000000000 : Int).toNat = 0 ∧ k + 1 = max (dg m).length (dg n).length + 1 ∧ Bs ^ (k + 1 - 1) ≤ vl (os ++ [(((c : Nat) : Int)) % 1000000000])) := by
     by_cases hkM : k + 1 ≤ max (dg m).length (dg n).length
     · exact .inl hkM
     · first
      | (exfalso; omega)
      | (refine .inr ⟨by omega, by omega, ?_⟩; rw [vl_concat, hos, Nat.add_sub_cancel, show (((c : Nat) : Int)) % 1000000000 = 1 by omega]; exact Nat.le_trans (by simp) (Nat.le_add_left _ _))
    exact fun a ha => ⟨_, by omega, (k + 1), a44, (os ++ ([((c : Nat) : Int) % 1000000000])), ((((c : Nat) : Int)) / 1000000000 : Int).toNat, ha.sub (Sub.cons (t := 0) rfl (.cons (t := 1) rfl (.cons (t := 5) rfl (.cons (t := 6) (look_int (t := 6) rfl (by first | omega | simp)) (.cons (t := 7) (look_int (t := 7) rfl (by first | omega | simp)) (.nil)))))), q47, (nw44.mono (by omega) (by omega)), rfl, by simp [hos], hlm.append (Lm.single hX.1 hX.2), by omega, hv2, hl3⟩
 ·
  refine sx_guardT rfl rfl rfl ?_
  refine sm rfl rfl rfl rfl ?_
  refine sx_guardT rfl rfl rfl ?_
  refine sm rfl rfl rfl rfl ?_
  refine sx_guardT rfl rfl rfl ?_
  have f48 := hvb0.ext cs3
  have f49 := f48.chg cwl7 (by omega)
  refine sx_pure rfl rfl rfl (px_len rfl Try.underlying22 f49) ?_
  refine sx_guardT rfl rfl rfl ?_
  refine sx_pure rfl rfl rfl (px_lt rfl rfl) ?_
  refine sx_pure rfl rfl rfl (px_pick rfl rfl) ?_
  refine sm rfl rfl rfl rfl ?_
  refine sx_tmpP (t := 20) rfl (fun h82x1 => ?_) (fun h82x1 => ?_)
  ·
   refine sx_guardF rfl rfl rfl rfl rfl rfl ?_
   refine sx_guardF rfl rfl rfl rfl rfl rfl ?_
   refine sx_pure rfl rfl rfl (px_pick rfl rfl) ?_
   refine wl_nil (q_n (k9 _ _ ?_))
   refine sx_sub (Sub.cons (t := 0) rfl (.cons (t := 1) rfl (.cons (t := 5) rfl (.cons (t := 6) rfl (.cons (t := 7) rfl (.cons (t := 23) rfl (.nil))))))) ?_
   refine sx_condT rfl ?_
   refine sx_skip ?_
   refine q_n (k8 _ _ ?_)
   refine sx_seq fun K50 k50 => ?_
   refine sx_block ?_
   refine sx_seq fun K51 k51 => sx_region ?_
   refine sm rfl rfl rfl rfl ?_
   refine sa rfl rfl rfl rfl ?_
   refine wl_nil (q_n (k51 _ _ ?_))
   refine sx_seq fun K52 k52 => ?_
   refine sx_seq fun K53 k53 => sx_region ?_
   refine sm rfl rfl rfl rfl ?_
   refine sm rfl rfl rfl rfl ?_
   refine sx_pure rfl rfl rfl (px_len rfl Try.underlying22 f11) ?_
   refine sx_pure rfl rfl rfl (px_lt rfl rfl) ?_
   refine wl_nil (q_n (k53 _ _ ?_))
   refine sx_condP rfl (fun h84 => ?_) (fun h84 => ?_)
   ·
    refine sx_region ?_
    refine sm rfl rfl rfl rfl ?_
    refine sm rfl rfl rfl rfl ?_
    refine sm rfl rfl rfl rfl ?_
    refine sx_pure rfl rfl rfl (px_index1 (j := k) rfl rfl (by omega) Try.underlying22 Try.sizeOf3 f11 (by omega)) ?_
    refine sx_pure rfl rfl rfl (px_load rfl (f11.load1 (at_int (by omega)) Try.isAgg3)) ?_
    refine sx_pure rfl rfl rfl (px_add rfl rfl (by omega)) ?_
    refine sa rfl rfl rfl rfl ?_
    refine wl_nil (q_n (k52 _ _ ?_))
    refine sx_sub (Sub.cons (t := 0) rfl (.cons (t := 1) rfl (.cons (t := 5) rfl (.cons (t := 6) rfl (.cons (t := 7) rfl (.cons (t := 8) rfl (.nil))))))) ?_
    refine sx_seq fun K54 k54 => ?_
    refine sx_seq fun K55 k55 => sx_region ?_
    refine sm rfl rfl rfl rfl ?_
    refine sm rfl rfl rfl rfl ?_
    refine sx_pure rfl rfl rfl (px_len rfl Try.underlying22 f49) ?_
    refine sx_pure rfl rfl rfl (px_lt rfl rfl) ?_
    refine wl_nil (q_n (k55 _ _ ?_))
    refine sx_condP rfl (fun h87 => ?_) (fun h87 => ?_)
    ·
     refine sx_region ?_
     refine sm rfl rfl rfl rfl ?_
     refine sm rfl rfl rfl rfl ?_
     refine sm rfl rfl rfl rfl ?_
     refine sx_pure rfl rfl rfl (px_index1 (j := k) rfl rfl (by omega) Try.underlying22 Try.sizeOf3 f49 (by omega)) ?_
     refine sx_pure rfl rfl rfl (px_load rfl (f49.load1 (at_int (by omega)) Try.isAgg3)) ?_
     refine sx_pure rfl rfl rfl (px_add rfl rfl (by omega)) ?_
     refine sa rfl rfl rfl rfl ?_
     refine wl_nil (q_n (k54 _ _ ?_))
     refine sx_sub (Sub.cons (t := 0) rfl (.cons (t := 1) rfl (.cons (t := 5) rfl (.cons (t := 6) rfl (.cons (t := 7) rfl (.cons (t := 8) rfl (.nil))))))) ?_
     refine sx_seq fun K56 k56 => sx_region ?_
     refine sm rfl rfl rfl rfl ?_
     refine sm rfl rfl rfl rfl ?_
     refine sx_pure rfl rfl rfl (px_rem rfl rfl (by omega) (by omega)) ?_
     refine sx_lit1 rfl xelt22 rfl rfl (fun s57 ws57 ss57 fs57 cs57 => ?_)
     have ns57 := Own.norm (f := (Value.int .i64)) (zs := [((((c : Nat) : Int) + ((dg m).getD k 0)) + ((dg n).getD k 0)) % 1000000000]) fs57
     have zws57 := cs57.size
     have f59 := hs_s.ext cs57
     refine sx_append rfl xelt22 rfl rfl f59 ns57.sv one_int (by omega) (by simp only [List.length_cons, List.length_nil]; omega) (by unfold maxLen; simp only [List.length_cons, List.length_nil]; omega) (fun a58 w58 fw58 cw58 => ?_)
     have nw58 := Own.app (f := (Value.int .i64)) (a := os) (b := [((((c : Nat) : Int) + ((dg m).getD k 0)) + ((dg n).getD k 0)) % 1000000000]) fw58
     have zw58 := cw58.size
     refine sa rfl rfl rfl rfl ?_
     refine wl_nil (q_n (k56 _ _ ?_))
     refine sx_region ?_
     refine sm rfl rfl rfl rfl ?_
     refine sx_pure rfl rfl rfl (px_quo rfl rfl (by omega) (by omega) (by omega)) ?_
     refine sa rfl rfl rfl rfl ?_
     refine wl_nil ?_
     refine q_bn (q_n (k50 _ _ ?_))
     refine sx_region ?_
     refine sm rfl rfl rfl rfl ?_
     refine sx_pure rfl rfl rfl (px_add rfl rfl (by omega)) ?_
     refine sa rfl rfl rfl rfl ?_
     refine wl_nil ?_
     have q60 := Chg.step (l := w.heap.size) (h := ws3.heap.size) cwl7 cs57 (by omega)
     have q61 := Chg.step (l := w.heap.size) (h := ws3.heap.size) q60 cw58 (by omega)
     have hs : (((((c : Nat) : Int) + ((dg m).getD k 0)) + ((dg n).getD k 0)) : Int) = ((c : Nat) : Int) + (((dg m).getD k 0).toNat : Nat) + (((dg n).getD k 0).toNat : Nat) := by omega
     have hv2 : vl (os ++ [(((((c : Nat) : Int) + ((dg m).getD k 0)) + ((dg n).getD k 0))) % 1000000000]) + Bs ^ (k + 1) * ((((((c : Nat) : Int) + ((dg m).getD k 0)) + ((dg n).getD k 0))) / 1000000000 : Int).toNat = vl ((dg m).take (k + 1)) + vl ((dg n).take (k + 1)) := by
      rw [vl_concat, hos, vl_take_succ', vl_take_succ', Nat.pow_succ]
      exact add_step hs hv
     have hX := mod_bd (s := ((((c : Nat) : Int) + ((dg m).getD k 0)) + ((dg n).getD k 0))) (by omega)
     have hl3 : k + 1 ≤ max (dg m).length (dg n).length ∨ (((((((c : Nat) : Int) + ((dg m).getD k 0)) + ((dg n).getD k 0))) / 1000000000 : Int).toNat = 0 ∧ k + 1 = max (dg m).length (dg n).length + 1 ∧ Bs ^ (k + 1 - 1) ≤ vl (os ++ [(((((c : Nat) : Int) + ((dg m).getD k 0)) + ((dg n).getD k 0))) % 1000000000])) := by
      by_cases hkM : k + 1 ≤ max (dg m).length (dg n).length
      · exact .inl hkM
      · first
       | (exfalso; omega)
       | (refine .inr ⟨by omega, by omega, ?_⟩; rw [vl_concat, hos, Nat.add_sub_cancel, show (((((c : Nat) : Int) + ((dg m).getD k 0)) + ((dg n).getD k 0))) % 1000000000 = 1 by omega]; exact Nat.le_trans (by simp) (Nat.le_add_left _ _))
     exact fun a ha => ⟨_, by omega, (k + 1), a58, (os ++ ([((((c : Nat) : Int) + ((dg m).getD k 0)) + ((dg n).getD k 0)) % 1000000000])), ((((((c : Nat) : Int) + ((dg m).getD k 0)) + ((dg n).getD k 0))) / 1000000000 : Int).toNat, ha.sub (Sub.cons (t := 0) rfl (.cons (t := 1) rfl (.cons (t := 5) rfl (.cons (t := 6) (look_int (t := 6) rfl (by first | omega | simp)) (.cons (t := 7) (look_int (t := 7) rfl (by first | omega | simp)) (.nil)))))), q61, (nw58.mono (by omega) (by omega)), rfl, by simp [hos], hlm.append (Lm.single hX.1 hX.2), by omega, hv2, hl3⟩
    ·
     have gn := getD_ge (zs := dg n) (k := k) (by omega)
     refine sx_skip ?_
     refine q_n (k54 _ _ ?_)
     refine sx_seq fun K62 k62 => sx_region ?_
     refine sm rfl rfl rfl rfl ?_
     refine sm rfl rfl rfl rfl ?_
     refine sx_pure rfl rfl rfl (px_rem rfl rfl (by omega) (by omega)) ?_
     refine sx_lit1 rfl xelt22 rfl rfl (fun s63 ws63 ss63 fs63 cs63 => ?_)
     have ns63 := Own.norm (f := (Value.int .i64)) (zs := [(((c : Nat) : Int) + ((dg m).getD k 0)) % 1000000000]) fs63
     have zws63 := cs63.size
     have f65 := hs_s.ext cs63
     refine sx_append rfl xelt22 rfl rfl f65 ns63.sv one_int (by omega) (by simp only [List.length_cons, List.length_nil]; omega) (by unfold maxLen; simp only [List.length_cons, List.length_nil]; omega) (fun a64 w64 fw64 cw64 => ?_)
     have nw64 := Own.app (f := (Value.int .i64)) (a := os) (b := [(((c : Nat) : Int) + ((dg m).getD k 0)) % 1000000000]) fw64
     have zw64 := cw64.size
     refine sa rfl rfl rfl rfl ?_
     refine wl_nil (q_n (k62 _ _ ?_))
     refine sx_sub (Sub.cons (t := 0) rfl (.cons (t := 1) rfl (.cons (t := 5) rfl (.cons (t := 6) rfl (.cons (t := 7) rfl (.cons (t := 8) rfl (.nil))))))) ?_
     refine sx_region ?_
     refine sm rfl rfl rfl rfl ?_
     refine sx_pure rfl rfl rfl (px_quo rfl rfl (by omega) (by omega) (by omega)) ?_
     refine sa rfl rfl rfl rfl ?_
     refine wl_nil ?_
     refine q_bn (q_n (k50 _ _ ?_))
     refine sx_region ?_
     refine sm rfl rfl rfl rfl ?_
     refine sx_pure rfl rfl rfl (px_add rfl rfl (by omega)) ?_
     refine sa rfl rfl rfl rfl ?_
     refine wl_nil ?_
     have q66 := Chg.step (l := w.heap.size) (h := ws3.heap.size) cwl7 cs63 (by omega)
     have q67 := Chg.step (l := w.heap.size) (h := ws3.heap.size) q66 cw64 (by omega)
     have hs : ((((c : Nat) : Int) + ((dg m).getD k 0)) : Int) = ((c : Nat) : Int) + (((dg m).getD k 0).toNat : Nat) + (((dg n).getD k 0).toNat : Nat) := by omega
     have hv2 : vl (os ++ [((((c : Nat) : Int) + ((dg m).getD k 0))) % 1000000000]) + Bs ^ (k + 1) * (((((c : Nat) : Int) + ((dg m).getD k 0))) / 1000000000 : Int).toNat = vl ((dg m).take (k + 1)) + vl ((dg n).take (k + 1)) := by
      rw [vl_concat, hos, vl_take_succ', vl_take_succ', Nat.pow_succ]
      exact add_step hs hv
     have hX := mod_bd (s := (((c : Nat) : Int) + ((dg m).getD k 0))) (by omega)
     have hl3 : k + 1 ≤ max (dg m).length (dg n).length ∨ ((((((c : Nat) : Int) + ((dg m).getD k 0))) / 1000000000 : Int).toNat = 0 ∧ k + 1 = max (dg m).length (dg n).length + 1 ∧ Bs ^ (k + 1 - 1) ≤ vl (os ++ [((((c : Nat) : Int) + ((dg m).getD k 0))) % 1000000000])) := by
      by_cases hkM : k + 1 ≤ max (dg m).length (dg n).length
      · exact .inl hkM
      · first
       | (exfalso; omega)
       | (refine .inr ⟨by omega, by omega, ?_⟩; rw [vl_concat, hos, Nat.add_sub_cancel, show ((((c : Nat) : Int) + ((dg m).getD k 0))) % 1000000000 = 1 by omega]; exact Nat.le_trans (by simp) (Nat.le_add_left _ _))
     exact fun a ha => ⟨_, by omega, (k + 1), a64, (os ++ ([(((c : Nat) : Int) + ((dg m).getD k 0)) % 1000000000])), (((((c : Nat) : Int) + ((dg m).getD k 0))) / 1000000000 : Int).toNat, ha.sub (Sub.cons (t := 0) rfl (.cons (t := 1) rfl (.cons (t := 5) rfl (.cons (t := 6) (look_int (t := 6) rfl (by first | omega | simp)) (.cons (t := 7) (look_int (t := 7) rfl (by first | omega | simp)) (.nil)))))), q67, (nw64.mono (by omega) (by omega)), rfl, by simp [hos], hlm.append (Lm.single hX.1 hX.2), by omega, hv2, hl3⟩
   ·
    have gm := getD_ge (zs := dg m) (k := k) (by omega)
    refine sx_skip ?_
    refine q_n (k52 _ _ ?_)
    refine sx_seq fun K68 k68 => ?_
    refine sx_seq fun K69 k69 => sx_region ?_
    refine sm rfl rfl rfl rfl ?_
    refine sm rfl rfl rfl rfl ?_
    refine sx_pure rfl rfl rfl (px_len rfl Try.underlying22 f49) ?_
    refine sx_pure rfl rfl rfl (px_lt rfl rfl) ?_
    refine wl_nil (q_n (k69 _ _ ?_))
    refine sx_sub (Sub.cons (t := 0) rfl (.cons (t := 1) rfl (.cons (t := 5) rfl (.cons (t := 6) rfl (.cons (t := 7) rfl (.cons (t := 8) rfl (.cons (t := 40) rfl (.nil)))))))) ?_
    refine sx_condP rfl (fun h87 => ?_) (fun h87 => ?_)
    ·
     refine sx_region ?_
     refine sm rfl rfl rfl rfl ?_
     refine sm rfl rfl rfl rfl ?_
     refine sm rfl rfl rfl rfl ?_
     refine sx_pure rfl rfl rfl (px_index1 (j := k) rfl rfl (by omega) Try.underlying22 Try.sizeOf3 f49 (by omega)) ?_
     refine sx_pure rfl rfl rfl (px_load rfl (f49.load1 (at_int (by omega)) Try.isAgg3)) ?_
     refine sx_pure rfl rfl rfl (px_add rfl rfl (by omega)) ?_
     refine sa rfl rfl rfl rfl ?_
     refine wl_nil (q_n (k68 _ _ ?_))
     refine sx_seq fun K70 k70 => sx_region ?_
     refine sm rfl rfl rfl rfl ?_
     refine sm rfl rfl rfl rfl ?_
     refine sx_pure rfl rfl rfl (px_rem rfl rfl (by omega) (by omega)) ?_
     refine sx_lit1 rfl xelt22 rfl rfl (fun s71 ws71 ss71 fs71 cs71 => ?_)
     have ns71 := Own.norm (f := (Value.int .i64)) (zs := [(((c : Nat) : Int) + ((dg n).getD k 0)) % 1000000000]) fs71
     have zws71 := cs71.size
     have f73 := hs_s.ext cs71
     refine sx_append rfl xelt22 rfl rfl f73 ns71.sv one_int (by omega) (by simp only [List.length_cons, List.length_nil]; omega) (by unfold maxLen; simp only [List.length_cons, List.length_nil]; omega) (fun a72 w72 fw72 cw72 => ?_)
     have nw72 := Own.app (f := (Value.int .i64)) (a := os) (b := [(((c : Nat) : Int) + ((dg n).getD k 0)) % 1000000000]) fw72
     have zw72 := cw72.size
     refine sa rfl rfl rfl rfl ?_
     refine wl_nil (q_n (k70 _ _ ?_))
     refine sx_sub (Sub.cons (t := 0) rfl (.cons (t := 1) rfl (.cons (t := 5) rfl (.cons (t := 6) rfl (.cons (t := 7) rfl (.cons (t := 8) rfl (.nil))))))) ?_
     refine sx_region ?_
     refine sm rfl rfl rfl rfl ?_
     refine sx_pure rfl rfl rfl (px_quo rfl rfl (by omega) (by omega) (by omega)) ?_
     refine sa rfl rfl rfl rfl ?_
     refine wl_nil ?_
     refine q_bn (q_n (k50 _ _ ?_))
     refine sx_region ?_
     refine sm rfl rfl rfl rfl ?_
     refine sx_pure rfl rfl rfl (px_add rfl rfl (by omega)) ?_
     refine sa rfl rfl rfl rfl ?_
     refine wl_nil ?_
     have q74 := Chg.step (l := w.heap.size) (h := ws3.heap.size) cwl7 cs71 (by omega)
     have q75 := Chg.step (l := w.heap.size) (h := ws3.heap.size) q74 cw72 (by omega)
     have hs : ((((c : Nat) : Int) + ((dg n).getD k 0)) : Int) = ((c : Nat) : Int) + (((dg m).getD k 0).toNat : Nat) + (((dg n).getD k 0).toNat : Nat) := by omega
     have hv2 : vl (os ++ [((((c : Nat) : Int) + ((dg n).getD k 0))) % 1000000000]) + Bs ^ (k + 1) * (((((c : Nat) : Int) + ((dg n).getD k 0))) / 1000000000 : Int).toNat = vl ((dg m).take (k + 1)) + vl ((dg n).take (k + 1)) := by
      rw [vl_concat, hos, vl_take_succ', vl_take_succ', Nat.pow_succ]
      exact add_step hs hv
     have hX := mod_bd (s := (((c : Nat) : Int) + ((dg n).getD k 0))) (by omega)
     have hl3 : k + 1 ≤ max (dg m).length (dg n).length ∨ ((((((c : Nat) : Int) + ((dg n).getD k 0))) / 1000000000 : Int).toNat = 0 ∧ k + 1 = max (dg m).length (dg n).length + 1 ∧ Bs ^ (k + 1 - 1) ≤ vl (os ++ [((((c : Nat) : Int) + ((dg n).getD k 0))) % 1000000000])) := by
      by_cases hkM : k + 1 ≤ max (dg m).length (dg n).length
      · exact .inl hkM
      · first
       | (exfalso; omega)
       | (refine .inr ⟨by omega, by omega, ?_⟩; rw [vl_concat, hos, Nat.add_sub_cancel, show ((((c : Nat) : Int) + ((dg n).getD k 0))) % 1000000000 = 1 by omega]; exact Nat.le_trans (by simp) (Nat.le_add_left _ _))
     exact fun a ha => ⟨_, by omega, (k + 1), a72, (os ++ ([(((c : Nat) : Int) + ((dg n).getD k 0)) % 1000000000])), (((((c : Nat) : Int) + ((dg n).getD k 0))) / 1000000000 : Int).toNat, ha.sub (Sub.cons (t := 0) rfl (.cons (t := 1) rfl (.cons (t := 5) rfl (.cons (t := 6) (look_int (t := 6) rfl (by first | omega | simp)) (.cons (t := 7) (look_int (t := 7) rfl (by first | omega | simp)) (.nil)))))), q75, (nw72.mono (by omega) (by omega)), rfl, by simp [hos], hlm.append (Lm.single hX.1 hX.2), by omega, hv2, hl3⟩
    ·
     have gn := getD_ge (zs := dg n) (k := k) (by omega)
     refine sx_skip ?_
     refine q_n (k68 _ _ ?_)
     refine sx_seq fun K76 k76 => sx_region ?_
     refine sm rfl rfl rfl rfl ?_
     refine sm rfl rfl rfl rfl ?_
     refine sx_pure rfl rfl rfl (px_rem rfl rfl (by omega) (by omega)) ?_
     refine sx_lit1 rfl xelt22 rfl rfl (fun s77 ws77 ss77 fs77 cs77 => ?_)
     have ns77 := Own.norm (f := (Value.int .i64)) (zs := [((c : Nat) : Int) % 1000000000]) fs77
     have zws77 := cs77.size
     have f79 := hs_s.ext cs77
     refine sx_append rfl xelt22 rfl rfl f79 ns77.sv one_int (by omega) (by simp only [List.length_cons, List.length_nil]; omega) (by unfold maxLen; simp only [List.length_cons, List.length_nil]; omega) (fun a78 w78 fw78 cw78 => ?_)
     have nw78 := Own.app (f := (Value.int .i64)) (a := os) (b := [((c : Nat) : Int) % 1000000000]) fw78
     have zw78 := cw78.size
     refine sa rfl rfl rfl rfl ?_
     refine wl_nil (q_n (k76 _ _ ?_))
     refine sx_region ?_
     refine sm rfl rfl rfl rfl ?_
     refine sx_pure rfl rfl rfl (px_quo rfl rfl (by omega) (by omega) (by omega)) ?_
     refine sa rfl rfl rfl rfl ?_
     refine wl_nil ?_
     refine q_bn (q_n (k50 _ _ ?_))
     refine sx_region ?_
     refine sm rfl rfl rfl rfl ?_
     refine sx_pure rfl rfl rfl (px_add rfl rfl (by omega)) ?_
     refine sa rfl rfl rfl rfl ?_
     refine wl_nil ?_
     have q80 := Chg.step (l := w.heap.size) (h := ws3.heap.size) cwl7 cs77 (by omega)
     have q81 := Chg.step (l := w.heap.size) (h := ws3.heap.size) q80 cw78 (by omega)
     have hs : (((c : Nat) : Int) : Int) = ((c : Nat) : Int) + (((dg m).getD k 0).toNat : Nat) + (((dg n).getD k 0).toNat : Nat) := by omega
     have hv2 : vl (os ++ [(((c : Nat) : Int)) % 1000000000]) + Bs ^ (k + 1) * ((((c : Nat) : Int)) / 1000000000 : Int).toNat = vl ((dg m).take (k + 1)) + vl ((dg n).take (k + 1)) := by
      rw [vl_concat, hos, vl_take_succ', vl_take_succ', Nat.pow_succ]
      exact add_step hs hv
     have hX := mod_bd (s := ((c : Nat) : Int)) (by omega)
     have hl3 : k + 1 ≤ max (dg m).length (dg n).length ∨ (((((c : Nat) : Int)) / 1000000000 : Int).toNat = 0 ∧ k + 1 = max (dg m).length (dg n).length + 1 ∧ Bs ^ (k + 1 - 1) ≤ vl (os ++ [(((c : Nat) : Int)) % 1000000000])) := by
      by_cases hkM : k + 1 ≤ max (dg m).length (dg n).length
      · exact .inl hkM
      · first
       | (exfalso; omega)
       | (refine .inr ⟨by omega, by omega, ?_⟩; rw [vl_concat, hos, Nat.add_sub_cancel, show (((c : Nat) : Int)) % 1000000000 = 1 by omega]; exact Nat.le_trans (by simp) (Nat.le_add_left _ _))
     exact fun a ha => ⟨_, by omega, (k + 1), a78, (os ++ ([((c : Nat) : Int) % 1000000000])), ((((c : Nat) : Int)) / 1000000000 : Int).toNat, ha.sub (Sub.cons (t := 0) rfl (.cons (t := 1) rfl (.cons (t := 5) rfl (.cons (t := 6) (look_int (t := 6) rfl (by first | omega | simp)) (.cons (t := 7) (look_int (t := 7) rfl (by first | omega | simp)) (.nil)))))), q81, (nw78.mono (by omega) (by omega)), rfl, by simp [hos], hlm.append (Lm.single hX.1 hX.2), by omega, hv2, hl3⟩
  ·
   refine sx_guardT rfl rfl rfl ?_
   refine sm rfl rfl rfl rfl ?_
   refine sx_guardT rfl rfl rfl ?_
   refine sx_pure rfl rfl rfl (px_gt rfl rfl) ?_
   refine sx_pure rfl rfl rfl (px_pick rfl rfl) ?_
   refine wl_nil (q_n (k9 _ _ ?_))
   refine sx_sub (Sub.cons (t := 0) rfl (.cons (t := 1) rfl (.cons (t := 5) rfl (.cons (t := 6) rfl (.cons (t := 7) rfl (.cons (t := 23) rfl (.nil))))))) ?_
   refine sx_condP rfl (fun h82x2 => ?_) (fun h82x2 => ?_)
   ·
    refine sx_skip ?_
    refine q_n (k8 _ _ ?_)
    refine sx_seq fun K82 k82 => ?_
    refine sx_block ?_
    refine sx_seq fun K83 k83 => sx_region ?_
    refine sm rfl rfl rfl rfl ?_
    refine sa rfl rfl rfl rfl ?_
    refine wl_nil (q_n (k83 _ _ ?_))
    refine sx_seq fun K84 k84 => ?_
    refine sx_seq fun K85 k85 => sx_region ?_
    refine sm rfl rfl rfl rfl ?_
    refine sm rfl rfl rfl rfl ?_
    refine sx_pure rfl rfl rfl (px_len rfl Try.underlying22 f11) ?_
    refine sx_pure rfl rfl rfl (px_lt rfl rfl) ?_
    refine wl_nil (q_n (k85 _ _ ?_))
    refine sx_condP rfl (fun h84 => ?_) (fun h84 => ?_)
    ·
     refine sx_region ?_
     refine sm rfl rfl rfl rfl ?_
     refine sm rfl rfl rfl rfl ?_
     refine sm rfl rfl rfl rfl ?_
     refine sx_pure rfl rfl rfl (px_index1 (j := k) rfl rfl (by omega) Try.underlying22 Try.sizeOf3 f11 (by omega)) ?_
     refine sx_pure rfl rfl rfl (px_load rfl (f11.load1 (at_int (by omega)) Try.isAgg3)) ?_
     refine sx_pure rfl rfl rfl (px_add rfl rfl (by omega)) ?_
     refine sa rfl rfl rfl rfl ?_
     refine wl_nil (q_n (k84 _ _ ?_))
     refine sx_sub (Sub.cons (t := 0) rfl (.cons (t := 1) rfl (.cons (t := 5) rfl (.cons (t := 6) rfl (.cons (t := 7) rfl (.cons (t := 8) rfl (.nil))))))) ?_
     refine sx_seq fun K86 k86 => ?_
     refine sx_seq fun K87 k87 => sx_region ?_
     refine sm rfl rfl rfl rfl ?_
     refine sm rfl rfl rfl rfl ?_
     refine sx_pure rfl rfl rfl (px_len rfl Try.underlying22 f49) ?_
     refine sx_pure rfl rfl rfl (px_lt rfl rfl) ?_
     refine wl_nil (q_n (k87 _ _ ?_))
     refine sx_condP rfl (fun h87 => ?_) (fun h87 => ?_)
     ·
      refine sx_region ?_
      refine sm rfl rfl rfl rfl ?_
      refine sm rfl rfl rfl rfl ?_
      refine sm rfl rfl rfl rfl ?_
      refine sx_pure rfl rfl rfl (px_index1 (j := k) rfl rfl (by omega) Try.underlying22 Try.sizeOf3 f49 (by omega)) ?_
      refine sx_pure rfl rfl rfl (px_load rfl (f49.load1 (at_int (by omega)) Try.isAgg3)) ?_
      refine sx_pure rfl rfl rfl (px_add rfl rfl (by omega)) ?_
      refine sa rfl rfl rfl rfl ?_
      refine wl_nil (q_n (k86 _ _ ?_))
      refine sx_sub (Sub.cons (t := 0) rfl (.cons (t := 1) rfl (.cons (t := 5) rfl (.cons (t := 6) rfl (.cons (t := 7) rfl (.cons (t := 8) rfl (.nil))))))) ?_
      refine sx_seq fun K88 k88 => sx_region ?_
      refine sm rfl rfl rfl rfl ?_
      refine sm rfl rfl rfl rfl ?_
      refine sx_pure rfl rfl rfl (px_rem rfl rfl (by omega) (by omega)) ?_
      refine sx_lit1 rfl xelt22 rfl rfl (fun s89 ws89 ss89 fs89 cs89 => ?_)
      have ns89 := Own.norm (f := (Value.int .i64)) (zs := [((((c : Nat) : Int) + ((dg m).getD k 0)) + ((dg n).getD k 0)) % 1000000000]) fs89
      have zws89 := cs89.size
      have f91 := hs_s.ext cs89
      refine sx_append rfl xelt22 rfl rfl f91 ns89.sv one_int (by omega) (by simp only [List.length_cons, List.length_nil]; omega) (by unfold maxLen; simp only [List.length_cons, List.length_nil]; omega) (fun a90 w90 fw90 cw90 => ?_)
      have nw90 := Own.app (f := (Value.int .i64)) (a := os) (b := [((((c : Nat) : Int) + ((dg m).getD k 0)) + ((dg n).getD k 0)) % 1000000000]) fw90
      have zw90 := cw90.size
      refine sa rfl rfl rfl rfl ?_
      refine wl_nil (q_n (k88 _ _ ?_))
      refine sx_region ?_
      refine sm rfl rfl rfl rfl ?_
      refine sx_pure rfl rfl rfl (px_quo rfl rfl (by omega) (by omega) (by omega)) ?_
      refine sa rfl rfl rfl rfl ?_
      refine wl_nil ?_
      refine q_bn (q_n (k82 _ _ ?_))
      refine sx_region ?_
      refine sm rfl rfl rfl rfl ?_
      refine sx_pure rfl rfl rfl (px_add rfl rfl (by omega)) ?_
      refine sa rfl rfl rfl rfl ?_
      refine wl_nil ?_
      have q92 := Chg.step (l := w.heap.size) (h := ws3.heap.size) cwl7 cs89 (by omega)
      have q93 := Chg.step (l := w.heap.size) (h := ws3.heap.size) q92 cw90 (by omega)
      have hs : (((((c : Nat) : Int) + ((dg m).getD k 0)) + ((dg n).getD k 0)) : Int) = ((c : Nat) : Int) + (((dg m).getD k 0).toNat : Nat) + (((dg n).getD k 0).toNat : Nat) := by omega
      have hv2 : vl (os ++ [(((((c : Nat) : Int) + ((dg m).getD k 0)) + ((dg n).getD k 0))) % 1000000000]) + Bs ^ (k + 1) * ((((((c : Nat) : Int) + ((dg m).getD k 0)) + ((dg n).getD k 0))) / 1000000000 : Int).toNat = vl ((dg m).take (k + 1)) + vl ((dg n).take (k + 1)) := by
       rw [vl_concat, hos, vl_take_succ', vl_take_succ', Nat.pow_succ]
       exact add_step hs hv
      have hX := mod_bd (s := ((((c : Nat) : Int) + ((dg m).getD k 0)) + ((dg n).getD k 0))) (by omega)
      have hl3 : k + 1 ≤ max (dg m).length (dg n).length ∨ (((((((c : Nat) : Int) + ((dg m).getD k 0)) + ((dg n).getD k 0))) / 1000000000 : Int).toNat = 0 ∧ k + 1 = max (dg m).length (dg n).length + 1 ∧ Bs ^ (k + 1 - 1) ≤ vl (os ++ [(((((c : Nat) : Int) + ((dg m).getD k 0)) + ((dg n).getD k 0))) % 1000000000])) := by
       by_cases hkM : k + 1 ≤ max (dg m).length (dg n).length
       · exact .inl hkM
       · first
        | (exfalso; omega)
        | (refine .inr ⟨by omega, by omega, ?_⟩; rw [vl_concat, hos, Nat.add_sub_cancel, show (((((c : Nat) : Int) + ((dg m).getD k 0)) + ((dg n).getD k 0))) % 1000000000 = 1 by omega]; exact Nat.le_trans (by simp) (Nat.le_add_left _ _))
      exact fun a ha => ⟨_, by omega, (k + 1), a90, (os ++ ([((((c : Nat) : Int) + ((dg m).getD k 0)) + ((dg n).getD k 0)) % 1000000000])), ((((((c : Nat) : Int) + ((dg m).getD k 0)) + ((dg n).getD k 0))) / 1000000000 : Int).toNat, ha.sub (Sub.cons (t := 0) rfl (.cons (t := 1) rfl (.cons (t := 5) rfl (.cons (t := 6) (look_int (t := 6) rfl (by first | omega | simp)) (.cons (t := 7) (look_int (t := 7) rfl (by first | omega | simp)) (.nil)))))), q93, (nw90.mono (by omega) (by omega)), rfl, by simp [hos], hlm.append (Lm.single hX.1 hX.2), by omega, hv2, hl3⟩
     ·
      have gn := getD_ge (zs := dg n) (k := k) (by omega)
      refine sx_skip ?_
      refine q_n (k86 _ _ ?_)
      refine sx_seq fun K94 k94 => sx_region ?_
      refine sm rfl rfl rfl rfl ?_
      refine sm rfl rfl rfl rfl ?_
      refine sx_pure rfl rfl rfl (px_rem rfl rfl (by omega) (by omega)) ?_
      refine sx_lit1 rfl xelt22 rfl rfl (fun s95 ws95 ss95 fs95 cs95 => ?_)
      have ns95 := Own.norm (f := (Value.int .i64)) (zs := [(((c : Nat) : Int) + ((dg m).getD k 0)) % 1000000000]) fs95
      have zws95 := cs95.size
      have f97 := hs_s.ext cs95
      refine sx_append rfl xelt22 rfl rfl f97 ns95.sv one_int (by omega) (by simp only [List.length_cons, List.length_nil]; omega) (by unfold maxLen; simp only [List.length_cons, List.length_nil]; omega) (fun a96 w96 fw96 cw96 => ?_)
      have nw96 := Own.app (f := (Value.int .i64)) (a := os) (b := [(((c : Nat) : Int) + ((dg m).getD k 0)) % 1000000000]) fw96
      have zw96 := cw96.size
      refine sa rfl rfl rfl rfl ?_
      refine wl_nil (q_n (k94 _ _ ?_))
      refine sx_sub (Sub.cons (t := 0) rfl (.cons (t := 1) rfl (.cons (t := 5) rfl (.cons (t := 6) rfl (.cons (t := 7) rfl (.cons (t := 8) rfl (.nil))))))) ?_
      refine sx_region ?_
      refine sm rfl rfl rfl rfl ?_
      refine sx_pure rfl rfl rfl (px_quo rfl rfl (by omega) (by omega) (by omega)) ?_
      refine sa rfl rfl rfl rfl ?_
      refine wl_nil ?_
      refine q_bn (q_n (k82 _ _ ?_))
      refine sx_region ?_
      refine sm rfl rfl rfl rfl ?_
      refine sx_pure rfl rfl rfl (px_add rfl rfl (by omega)) ?_
      refine sa rfl rfl rfl rfl ?_
      refine wl_nil ?_
      have q98 := Chg.step (l := w.heap.size) (h := ws3.heap.size) cwl7 cs95 (by omega)
      have q99 := Chg.step (l := w.heap.size) (h := ws3.heap.size) q98 cw96 (by omega)
      have hs : ((((c : Nat) : Int) + ((dg m).getD k 0)) : Int) = ((c : Nat) : Int) + (((dg m).getD k 0).toNat : Nat) + (((dg n).getD k 0).toNat : Nat) := by omega
      have hv2 : vl (os ++ [((((c : Nat) : Int) + ((dg m).getD k 0))) % 1000000000]) + Bs ^ (k + 1) * (((((c : Nat) : Int) + ((dg m).getD k 0))) / 1000000000 : Int).toNat = vl ((dg m).take (k + 1)) + vl ((dg n).take (k + 1)) := by
       rw [vl_concat, hos, vl_take_succ', vl_take_succ', Nat.pow_succ]
       exact add_step hs hv
      have hX := mod_bd (s := (((c : Nat) : Int) + ((dg m).getD k 0))) (by omega)
      have hl3 : k + 1 ≤ max (dg m).length (dg n).length ∨ ((((((c : Nat) : Int) + ((dg m).getD k 0))) / 1000000000 : Int).toNat = 0 ∧ k + 1 = max (dg m).length (dg n).length + 1 ∧ Bs ^ (k + 1 - 1) ≤ vl (os ++ [((((c : Nat) : Int) + ((dg m).getD k 0))) % 1000000000])) := by
       by_cases hkM : k + 1 ≤ max (dg m).length (dg n).length
       · exact .inl hkM
       · first
        | (exfalso; omega)
        | (refine .inr ⟨by omega, by omega, ?_⟩; rw [vl_concat, hos, Nat.add_sub_cancel, show ((((c : Nat) : Int) + ((dg m).getD k 0))) % 1000000000 = 1 by omega]; exact Nat.le_trans (by simp) (Nat.le_add_left _ _))
      exact fun a ha => ⟨_, by omega, (k + 1), a96, (os ++ ([(((c : Nat) : Int) + ((dg m).getD k 0)) % 1000000000])), (((((c : Nat) : Int) + ((dg m).getD k 0))) / 1000000000 : Int).toNat, ha.sub (Sub.cons (t := 0) rfl (.cons (t := 1) rfl (.cons (t := 5) rfl (.cons (t := 6) (look_int (t := 6) rfl (by first | omega | simp)) (.cons (t := 7) (look_int (t := 7) rfl (by first | omega | simp)) (.nil)))))), q99, (nw96.mono (by omega) (by omega)), rfl, by simp [hos], hlm.append (Lm.single hX.1 hX.2), by omega, hv2, hl3⟩
    ·
     have gm := getD_ge (zs := dg m) (k := k) (by omega)
     refine sx_skip ?_
     refine q_n (k84 _ _ ?_)
     refine sx_seq fun K100 k100 => ?_
     refine sx_seq fun K101 k101 => sx_region ?_
     refine sm rfl rfl rfl rfl ?_
     refine sm rfl rfl rfl rfl ?_
     refine sx_pure rfl rfl rfl (px_len rfl Try.underlying22 f49) ?_
     refine sx_pure rfl rfl rfl (px_lt rfl rfl) ?_
     refine wl_nil (q_n (k101 _ _ ?_))
     refine sx_sub (Sub.cons (t := 0) rfl (.cons (t := 1) rfl (.cons (t := 5) rfl (.cons (t := 6) rfl (.cons (t := 7) rfl (.cons (t := 8) rfl (.cons (t := 40) rfl (.nil)))))))) ?_
     refine sx_condP rfl (fun h87 => ?_) (fun h87 => ?_)
     ·
      refine sx_region ?_
      refine sm rfl rfl rfl rfl ?_
      refine sm rfl rfl rfl rfl ?_
      refine sm rfl rfl rfl rfl ?_
      refine sx_pure rfl rfl rfl (px_index1 (j := k) rfl rfl (by omega) Try.underlying22 Try.sizeOf3 f49 (by omega)) ?_
      refine sx_pure rfl rfl rfl (px_load rfl (f49.load1 (at_int (by omega)) Try.isAgg3)) ?_
      refine sx_pure rfl rfl rfl (px_add rfl rfl (by omega)) ?_
      refine sa rfl rfl rfl rfl ?_
      refine wl_nil (q_n (k100 _ _ ?_))
      refine sx_seq fun K102 k102 => sx_region ?_
      refine sm rfl rfl rfl rfl ?_
      refine sm rfl rfl rfl rfl ?_
      refine sx_pure rfl rfl rfl (px_rem rfl rfl (by omega) (by omega)) ?_
      refine sx_lit1 rfl xelt22 rfl rfl (fun s103 ws103 ss103 fs103 cs103 => ?_)
      have ns103 := Own.norm (f := (Value.int .i64)) (zs := [(((c : Nat) : Int) + ((dg n).getD k 0)) % 1000000000]) fs103
      have zws103 := cs103.size
      have f105 := hs_s.ext cs103
      refine sx_append rfl xelt22 rfl rfl f105 ns103.sv one_int (by omega) (by simp only [List.length_cons, List.length_nil]; omega) (by unfold maxLen; simp only [List.length_cons, List.length_nil]; omega) (fun a104 w104 fw104 cw104 => ?_)
      have nw104 := Own.app (f := (Value.int .i64)) (a := os) (b := [(((c : Nat) : Int) + ((dg n).getD k 0)) % 1000000000]) fw104
      have zw104 := cw104.size
      refine sa rfl rfl rfl rfl ?_
      refine wl_nil (q_n (k102 _ _ ?_))
      refine sx_sub (Sub.cons (t := 0) rfl (.cons (t := 1) rfl (.cons (t := 5) rfl (.cons (t := 6) rfl (.cons (t := 7) rfl (.cons (t := 8) rfl (.nil))))))) ?_
      refine sx_region ?_
      refine sm rfl rfl rfl rfl ?_
      refine sx_pure rfl rfl rfl (px_quo rfl rfl (by omega) (by omega) (by omega)) ?_
      refine sa rfl rfl rfl rfl ?_
      refine wl_nil ?_
      refine q_bn (q_n (k82 _ _ ?_))
      refine sx_region ?_
      refine sm rfl rfl rfl rfl ?_
      refine sx_pure rfl rfl rfl (px_add rfl rfl (by omega)) ?_
      refine sa rfl rfl rfl rfl ?_
      refine wl_nil ?_
      have q106 := Chg.step (l := w.heap.size) (h := ws3.heap.size) cwl7 cs103 (by omega)
      have q107 := Chg.step (l := w.heap.size) (h := ws3.heap.size) q106 cw104 (by omega)
      have hs : ((((c : Nat) : Int) + ((dg n).getD k 0)) : Int) = ((c : Nat) : Int) + (((dg m).getD k 0).toNat : Nat) + (((dg n).getD k 0).toNat : Nat) := by omega
      have hv2 : vl (os ++ [((((c : Nat) : Int) + ((dg n).getD k 0))) % 1000000000]) + Bs ^ (k + 1) * (((((c : Nat) : Int) + ((dg n).getD k 0))) / 1000000000 : Int).toNat = vl ((dg m).take (k + 1)) + vl ((dg n).take (k + 1)) := by
       rw [vl_concat, hos, vl_take_succ', vl_take_succ', Nat.pow_succ]
       exact add_step hs hv
      have hX := mod_bd (s := (((c : Nat) : Int) + ((dg n).getD k 0))) (by omega)
      have hl3 : k + 1 ≤ max (dg m).length (dg n).length ∨ ((((((c : Nat) : Int) + ((dg n).getD k 0))) / 1000000000 : Int).toNat = 0 ∧ k + 1 = max (dg m).length (dg n).length + 1 ∧ Bs ^ (k + 1 - 1) ≤ vl (os ++ [((((c : Nat) : Int) + ((dg n).getD k 0))) % 1000000000])) := by
       by_cases hkM : k + 1 ≤ max (dg m).length (dg n).length
       · exact .inl hkM
       · first
        | (exfalso; omega)
        | (refine .inr ⟨by omega, by omega, ?_⟩; rw [vl_concat, hos, Nat.add_sub_cancel, show ((((c : Nat) : Int) + ((dg n).getD k 0))) % 1000000000 = 1 by omega]; exact Nat.le_trans (by simp) (Nat.le_add_left _ _))
      exact fun a ha => ⟨_, by omega, (k + 1), a104, (os ++ ([(((c : Nat) : Int) + ((dg n).getD k 0)) % 1000000000])), (((((c : Nat) : Int) + ((dg n).getD k 0))) / 1000000000 : Int).toNat, ha.sub (Sub.cons (t := 0) rfl (.cons (t := 1) rfl (.cons (t := 5) rfl (.cons (t := 6) (look_int (t := 6) rfl (by first | omega | simp)) (.cons (t := 7) (look_int (t := 7) rfl (by first | omega | simp)) (.nil)))))), q107, (nw104.mono (by omega) (by omega)), rfl, by simp [hos], hlm.append (Lm.single hX.1 hX.2), by omega, hv2, hl3⟩
     ·
      have gn := getD_ge (zs := dg n) (k := k) (by omega)
      refine sx_skip ?_
      refine q_n (k100 _ _ ?_)
      refine sx_seq fun K108 k108 => sx_region ?_
      refine sm rfl rfl rfl rfl ?_
      refine sm rfl rfl rfl rfl ?_
      refine sx_pure rfl rfl rfl (px_rem rfl rfl (by omega) (by omega)) ?_
      refine sx_lit1 rfl xelt22 rfl rfl (fun s109 ws109 ss109 fs109 cs109 => ?_)
      have ns109 := Own.norm (f := (Value.int .i64)) (zs := [((c : Nat) : Int) % 1000000000]) fs109
      have zws109 := cs109.size
      have f111 := hs_s.ext cs109
      refine sx_append rfl xelt22 rfl rfl f111 ns109.sv one_int (by omega) (by simp only [List.length_cons, List.length_nil]; omega) (by unfold maxLen; simp only [List.length_cons, List.length_nil]; omega) (fun a110 w110 fw110 cw110 => ?_)
      have nw110 := Own.app (f := (Value.int .i64)) (a := os) (b := [((c : Nat) : Int) % 1000000000]) fw110
      have zw110 := cw110.size
      refine sa rfl rfl rfl rfl ?_
      refine wl_nil (q_n (k108 _ _ ?_))
      refine sx_region ?_
      refine sm rfl rfl rfl rfl ?_
      refine sx_pure rfl rfl rfl (px_quo rfl rfl (by omega) (by omega) (by omega)) ?_
      refine sa rfl rfl rfl rfl ?_
      refine wl_nil ?_
      refine q_bn (q_n (k82 _ _ ?_))
      refine sx_region ?_
      refine sm rfl rfl rfl rfl ?_
      refine sx_pure rfl rfl rfl (px_add rfl rfl (by omega)) ?_
      refine sa rfl rfl rfl rfl ?_
      refine wl_nil ?_
      have q112 := Chg.step (l := w.heap.size) (h := ws3.heap.size) cwl7 cs109 (by omega)
      have q113 := Chg.step (l := w.heap.size) (h := ws3.heap.size) q112 cw110 (by omega)
      have hs : (((c : Nat) : Int) : Int) = ((c : Nat) : Int) + (((dg m).getD k 0).toNat : Nat) + (((dg n).getD k 0).toNat : Nat) := by omega
      have hv2 : vl (os ++ [(((c : Nat) : Int)) % 1000000000]) + Bs ^ (k + 1) * ((((c : Nat) : Int)) / 1000000000 : Int).toNat = vl ((dg m).take (k + 1)) + vl ((dg n).take (k + 1)) := by
       rw [vl_concat, hos, vl_take_succ', vl_take_succ', Nat.pow_succ]
       exact add_step hs hv
      have hX := mod_bd (s := ((c : Nat) : Int)) (by omega)
      have hl3 : k + 1 ≤ max (dg m).length (dg n).length ∨ (((((c : Nat) : Int)) / 1000000000 : Int).toNat = 0 ∧ k + 1 = max (dg m).length (dg n).length + 1 ∧ Bs ^ (k + 1 - 1) ≤ vl (os ++ [(((c : Nat) : Int)) % 1000000000])) := by
       by_cases hkM : k + 1 ≤ max (dg m).length (dg n).length
       · exact .inl hkM
       · first
        | (exfalso; omega)
        | (refine .inr ⟨by omega, by omega, ?_⟩; rw [vl_concat, hos, Nat.add_sub_cancel, show (((c : Nat) : Int)) % 1000000000 = 1 by omega]; exact Nat.le_trans (by simp) (Nat.le_add_left _ _))
      exact fun a ha => ⟨_, by omega, (k + 1), a110, (os ++ ([((c : Nat) : Int) % 1000000000])), ((((c : Nat) : Int)) / 1000000000 : Int).toNat, ha.sub (Sub.cons (t := 0) rfl (.cons (t := 1) rfl (.cons (t := 5) rfl (.cons (t := 6) (look_int (t := 6) rfl (by first | omega | simp)) (.cons (t := 7) (look_int (t := 7) rfl (by first | omega | simp)) (.nil)))))), q113, (nw110.mono (by omega) (by omega)), rfl, by simp [hos], hlm.append (Lm.single hX.1 hX.2), by omega, hv2, hl3⟩
   ·
    refine sx_exit ?_
    refine q_e (q_e (q_bx (q_n (k5 _ _ ?_))))
    refine sx_seq fun K114 k114 => ?_
    have hc0 : c = 0 := by omega
    subst hc0
    rw [Nat.mul_zero, Nat.add_zero, vl_take_ge (by omega), vl_take_ge (by omega), vl_dg, vl_dg] at hv
    have hd : os = dg (m + n) := add_end hlm hos hv hlast (by omega)
    subst hd
    refine sx_region ?_
    refine sm rfl rfl rfl rfl ?_
    refine sa rfl rfl rfl rfl ?_
    refine wl_nil (q_n (k114 _ _ ?_))
    refine sx_retc ?_
    refine sx_ret1 Try.results125 rfl ?_
    have q115 := Chg.step (l := 0) (h := 0) (Chg.zero (l := 0) (h := 0) cs3) cwl7 (by omega)
    exact ⟨_, rfl, (Own.sv hs_s).mono (by omega) (by omega), q115⟩

theorem c_l02Cmp {w : World} {va : Value} {lva uva : Nat} {zs : List Int} {vb : Value} {lvb uvb : Nat} {ys : List Int} (hva : Sl w lva uva va (zs)) (hvb : Sl w lvb uvb vb (ys)) (h63 : zs.length ≤ 4611686018427387904 ∧ ys.length ≤ 4611686018427387904) :
  Ret Try.prog 76 [va, vb] w fun v w' => v = .int .i64 (cmpL zs ys) ∧ Chg 0 0 w w' := by
 have hva0 := hva.fit
 have hvb0 := hvb.fit
 have zs0 : zs.drop zs.length = [] := by simp
 have ys0 : ys.drop ys.length = [] := by simp
 refine sx_enter Try.func76 rfl Try.ntmps76 (Nat.le_of_ble_eq_true rfl) ?_
 refine sx_seq fun K1 k1 => sx_region ?_
 refine sa rfl rfl rfl rfl ?_
 refine wl_nil (q_n (k1 _ _ ?_))
 refine sx_seq fun K2 k2 => ?_
 refine sx_seq fun K3 k3 => sx_region ?_
 refine sm rfl rfl rfl rfl ?_
 refine sx_pure rfl rfl rfl (px_len rfl Try.underlying22 hva0) ?_
 refine sm rfl rfl rfl rfl ?_
 refine sx_pure rfl rfl rfl (px_len rfl Try.underlying22 hvb0) ?_
 refine sx_pure rfl rfl rfl (px_ne rfl rfl) ?_
 refine wl_nil (q_n (k3 _ _ ?_))
 refine sx_condP rfl (fun h54 => ?_) (fun h54 => ?_)
 ·
  refine sx_seq fun K4 k4 => ?_
  refine sx_seq fun K5 k5 => sx_region ?_
  refine sm rfl rfl rfl rfl ?_
  refine sx_pure rfl rfl rfl (px_len rfl Try.underlying22 hva0) ?_
  refine sm rfl rfl rfl rfl ?_
  refine sx_pure rfl rfl rfl (px_len rfl Try.underlying22 hvb0) ?_
  refine sx_pure rfl rfl rfl (px_lt rfl rfl) ?_
  refine wl_nil (q_n (k5 _ _ ?_))
  refine sx_condP rfl (fun h55 => ?_) (fun h55 => ?_)
  ·
   refine sx_seq fun K6 k6 => sx_region ?_
   refine sa rfl rfl rfl rfl ?_
   refine wl_nil (q_n (k6 _ _ ?_))
   refine sx_retc ?_
   refine q_r (q_r (sx_ret1 Try.results76 rfl ?_))
   exact ⟨iEq (cmpL_short (by omega)).symm, (Chg.refl 0 0 _)⟩
  ·
   refine sx_skip ?_
   refine q_n (k4 _ _ ?_)
   refine sx_seq fun K7 k7 => sx_region ?_
   refine sa rfl rfl rfl rfl ?_
   refine wl_nil (q_n (k7 _ _ ?_))
   refine sx_retc ?_
   refine q_r (sx_ret1 Try.results76 rfl ?_)
   exact ⟨iEq (cmpL_long (by omega)).symm, (Chg.refl 0 0 _)⟩
 ·
  refine sx_skip ?_
  refine q_n (k2 _ _ ?_)
  refine sx_seq fun K8 k8 => ?_
  refine sx_seq fun K9 k9 => sx_region ?_
  refine sm rfl rfl rfl rfl ?_
  refine sx_pure rfl rfl rfl (px_len rfl Try.underlying22 hva0) ?_
  refine sx_pure rfl rfl rfl (px_sub rfl rfl (by omega)) ?_
  refine sa rfl rfl rfl rfl ?_
  refine wl_nil (q_n (k9 _ _ ?_))
  refine sx_block ?_
  have e00 : zs.length = ys.length := by omega
  have he0 : zs.drop zs.length = ys.drop zs.length := by rw [zs0, e00, ys0]
  refine sx_loop (fun mm aa w' => ∃ (k : Nat), Agr 41 [(0, va), (1, vb), (5, .int .i64 (↑k - 1))] aa ∧ Chg 0 0 w w' ∧ (mm = k) ∧ (k ≤ zs.length) ∧ (zs.drop k = ys.drop k)) (_) (fun a ha => ⟨zs.length, ha.sub (Sub.cons (t := 0) rfl (.cons (t := 1) rfl (.cons (t := 5) (look_int (t := 5) rfl (by first | omega | simp)) (.nil)))), Chg.refl _ _ _, rfl, by omega, he0⟩) ?_
  rintro mm aa wl10 ⟨k, hAwl10, cwl10, hm, hk, he⟩
  refine (show cw Try.prog 41 _ _ _ wl10 from ?_) aa hAwl10
  clear hAwl10
  have zwl10 := cwl10.size
  have hl : zs.length = ys.length := by omega
  refine sx_seq fun K11 k11 => ?_
  refine sx_seq fun K12 k12 => sx_region ?_
  refine sm rfl rfl rfl rfl ?_
  refine sx_pure rfl rfl rfl (px_ge rfl rfl) ?_
  refine wl_nil (q_n (k12 _ _ ?_))
  refine sx_condP rfl (fun h60 => ?_) (fun h60 => ?_)
  ·
   refine sx_skip ?_
   refine q_n (k11 _ _ ?_)
   refine sx_seq fun K13 k13 => ?_
   refine sx_block ?_
   refine sx_seq fun K14 k14 => ?_
   refine sx_seq fun K15 k15 => ?_
   have f16 := hva0.ext cwl10
   have f17 := hvb0.ext cwl10
   refine dx_region (fun w' => Chg 0 0 wl10 w') (by kernel_rfl) (Chg.zero (Chg.drew _)) ?_
   have d18 := Chg.drew wl10
   have s18 : Chg 0 0 wl10 (World.drew wl10) := Chg.zero (Chg.drew _)
   have y18 : (World.drew wl10).heap.size = wl10.heap.size := rfl
   generalize World.drew wl10 = w18 at *
   have zw18 := d18.size
   refine dx_take 0 rfl rfl rfl rfl (by kernel_rfl) (by kernel_rfl) (by kernel_rfl) s18 (fun _ hS => px_move rfl) ?_
   refine dx_take 1 rfl rfl rfl rfl (by kernel_rfl) (by kernel_rfl) (by kernel_rfl) s18 (fun _ hS => px_move rfl) ?_
   refine dx_take 2 rfl rfl rfl rfl (by kernel_rfl) (by kernel_rfl) (by kernel_rfl) s18 (fun _ hS => px_index1 (j := (k - 1)) rfl rfl (by omega) Try.underlying22 Try.sizeOf3 ((f16).chg hS (by omega)) (by omega)) ?_
   refine dx_take 3 rfl rfl rfl rfl (by kernel_rfl) (by kernel_rfl) (by kernel_rfl) s18 (fun _ hS => px_load rfl (((f16).chg hS (by omega)).load1 (at_int (by omega)) Try.isAgg3)) ?_
   refine dx_take 4 rfl rfl rfl rfl (by kernel_rfl) (by kernel_rfl) (by kernel_rfl) s18 (fun _ hS => px_move rfl) ?_
   refine dx_take 5 rfl rfl rfl rfl (by kernel_rfl) (by kernel_rfl) (by kernel_rfl) s18 (fun _ hS => px_move rfl) ?_
   refine dx_take 6 rfl rfl rfl rfl (by kernel_rfl) (by kernel_rfl) (by kernel_rfl) s18 (fun _ hS => px_index1 (j := (k - 1)) rfl rfl (by omega) Try.underlying22 Try.sizeOf3 ((f17).chg hS (by omega)) (by omega)) ?_
   refine dx_take 7 rfl rfl rfl rfl (by kernel_rfl) (by kernel_rfl) (by kernel_rfl) s18 (fun _ hS => px_load rfl (((f17).chg hS (by omega)).load1 (at_int (by omega)) Try.isAgg3)) ?_
   refine dx_take 8 rfl rfl rfl rfl (by kernel_rfl) (by kernel_rfl) (by kernel_rfl) s18 (fun _ hS => px_lt rfl rfl) ?_
   refine dx_done (by kernel_rfl) ?_
   refine q_n (k15 _ _ ?_)
   refine sx_condP rfl (fun h61 => ?_) (fun h61 => ?_)
   ·
    refine sx_seq fun K19 k19 => sx_region ?_
    refine sa rfl rfl rfl rfl ?_
    refine wl_nil (q_n (k19 _ _ ?_))
    refine sx_sub (Sub.cons (t := 0) rfl (.cons (t := 1) rfl (.cons (t := 4) rfl (.cons (t := 5) rfl (.nil))))) ?_
    refine sx_retc ?_
    refine q_r (q_br (q_r (q_r (q_br (q_r (sx_ret1 Try.results76 rfl ?_))))))
    have hlt := cmpL_lt hl (k := k - 1) (by omega) (by rw [Nat.sub_add_cancel (by omega)]; exact he) (h61)
    exact ⟨iEq hlt.symm, (cwl10.t d18)⟩
   ·
    refine sx_skip ?_
    refine q_n (k14 _ _ ?_)
    refine sx_seq fun K20 k20 => ?_
    have f21 := f16.ext d18
    have f22 := f17.ext d18
    refine dx_region (fun w' => Chg 0 0 w18 w') (by kernel_rfl) (Chg.zero (Chg.drew _)) ?_
    have d23 := Chg.drew w18
    have s23 : Chg 0 0 w18 (World.drew w18) := Chg.zero (Chg.drew _)
    have y23 : (World.drew w18).heap.size = w18.heap.size := rfl
    generalize World.drew w18 = w23 at *
    have zw23 := d23.size
    refine dx_take 0 rfl rfl rfl rfl (by kernel_rfl) (by kernel_rfl) (by kernel_rfl) s23 (fun _ hS => px_move rfl) ?_
    refine dx_take 1 rfl rfl rfl rfl (by kernel_rfl) (by kernel_rfl) (by kernel_rfl) s23 (fun _ hS => px_move rfl) ?_
    refine dx_take 2 rfl rfl rfl rfl (by kernel_rfl) (by kernel_rfl) (by kernel_rfl) s23 (fun _ hS => px_index1 (j := (k - 1)) rfl rfl (by omega) Try.underlying22 Try.sizeOf3 ((f21).chg hS (by omega)) (by omega)) ?_
    refine dx_take 3 rfl rfl rfl rfl (by kernel_rfl) (by kernel_rfl) (by kernel_rfl) s23 (fun _ hS => px_load rfl (((f21).chg hS (by omega)).load1 (at_int (by omega)) Try.isAgg3)) ?_
    refine dx_take 4 rfl rfl rfl rfl (by kernel_rfl) (by kernel_rfl) (by kernel_rfl) s23 (fun _ hS => px_move rfl) ?_
    refine dx_take 5 rfl rfl rfl rfl (by kernel_rfl) (by kernel_rfl) (by kernel_rfl) s23 (fun _ hS => px_move rfl) ?_
    refine dx_take 6 rfl rfl rfl rfl (by kernel_rfl) (by kernel_rfl) (by kernel_rfl) s23 (fun _ hS => px_index1 (j := (k - 1)) rfl rfl (by omega) Try.underlying22 Try.sizeOf3 ((f22).chg hS (by omega)) (by omega)) ?_
    refine dx_take 7 rfl rfl rfl rfl (by kernel_rfl) (by kernel_rfl) (by kernel_rfl) s23 (fun _ hS => px_load rfl (((f22).chg hS (by omega)).load1 (at_int (by omega)) Try.isAgg3)) ?_
    refine dx_take 8 rfl rfl rfl rfl (by kernel_rfl) (by kernel_rfl) (by kernel_rfl) s23 (fun _ hS => px_gt rfl rfl) ?_
    refine dx_done (by kernel_rfl) ?_
    refine q_n (k20 _ _ ?_)
    refine sx_sub (Sub.cons (t := 0) rfl (.cons (t := 1) rfl (.cons (t := 5) rfl (.cons (t := 40) rfl (.nil))))) ?_
    refine sx_condP rfl (fun h64 => ?_) (fun h64 => ?_)
    ·
     refine sx_seq fun K24 k24 => sx_region ?_
     refine sa rfl rfl rfl rfl ?_
     refine wl_nil (q_n (k24 _ _ ?_))
     refine sx_retc ?_
     refine q_br (q_r (q_r (q_br (q_r (sx_ret1 Try.results76 rfl ?_)))))
     have hlt := cmpL_gt hl (k := k - 1) (by omega) (by rw [Nat.sub_add_cancel (by omega)]; exact he) (h64)
     exact ⟨iEq hlt.symm, ((cwl10.t d18).t d23)⟩
    ·
     refine sx_skip ?_
     refine q_bn (q_n (k13 _ _ ?_))
     refine sx_region ?_
     refine sm rfl rfl rfl rfl ?_
     refine sx_pure rfl rfl rfl (px_sub rfl rfl (by omega)) ?_
     refine sa rfl rfl rfl rfl ?_
     refine wl_nil ?_
     exact fun a ha => ⟨_, by omega, (k - 1), ha.sub (Sub.cons (t := 0) rfl (.cons (t := 1) rfl (.cons (t := 5) (look_int (t := 5) rfl (by first | omega | simp)) (.nil)))), ((cwl10.t d18).t d23), rfl, by omega, drop_succ_eq (by omega) (by omega) (by rw [Nat.sub_add_cancel (by omega)]; exact he) (by omega)⟩
  ·
   refine sx_exit ?_
   refine q_e (q_e (q_bx (q_n (k8 _ _ ?_))))
   refine sx_seq fun K25 k25 => sx_region ?_
   refine sa rfl rfl rfl rfl ?_
   refine wl_nil (q_n (k25 _ _ ?_))
   refine sx_retc ?_
   refine sx_ret1 Try.results76 rfl ?_
   have e1 : k = 0 := by omega
   subst e1
   have e2 : zs = ys := by simpa using he
   subst e2
   exact ⟨iEq (cmpL_self zs).symm, cwl10⟩

theorem c_l02Sub {w : World} {va : Value} {lva uva : Nat} {m : Nat} {vb : Value} {lvb uvb : Nat} {n : Nat} (hva : Sl w lva uva va (dg m)) (hvb : Sl w lvb uvb vb (dg n)) (hbm : (dg m).length ≤ 1000) (hbn : (dg n).length ≤ 1000) (hle : n ≤ m) :
  Ret Try.prog 129 [va, vb] w fun v w' => ∃ s, v = s ∧ Sl w' (w.heap.size) (w'.heap.size) s (dg (m - n)) ∧ Chg 0 0 w w' := by
 have hva0 := hva.fit
 have hvb0 := hvb.fit
 refine sx_enter Try.func129 rfl Try.ntmps129 (Nat.le_of_ble_eq_true rfl) ?_
 refine sx_seq fun K1 k1 => sx_region ?_
 refine sa rfl rfl rfl rfl ?_
 refine wl_nil (q_n (k1 _ _ ?_))
 refine sx_seq fun K2 k2 => sx_region ?_
 refine sx_lit0 rfl xelt22 (fun s3 ws3 ss3 fs3 cs3 => ?_)
 have zws3 := cs3.size
 refine sa rfl rfl rfl rfl ?_
 refine wl_nil (q_n (k2 _ _ ?_))
 refine sx_seq fun K4 k4 => sx_region ?_
 refine sa rfl rfl rfl rfl ?_
 refine wl_nil (q_n (k4 _ _ ?_))
 refine sx_seq fun K5 k5 => ?_
 refine sx_seq fun K6 k6 => sx_region ?_
 refine sm rfl rfl rfl rfl ?_
 have f7 := hva0.ext cs3
 refine sx_pure rfl rfl rfl (px_len rfl Try.underlying22 f7) ?_
 refine sm rfl rfl rfl rfl ?_
 refine wl_nil (q_n (k6 _ _ ?_))
 refine sx_block ?_
 refine sx_loop (fun mm aa w' => ∃ (k : Nat) (s : Value) (os : List Int) (c : Nat), Agr 42 [(0, va), (1, vb), (5, s), (6, .int .i64 ((c : Nat) : Int)), (11, .int .i64 (↑(dg m).length)), (12, .int .i64 ↑k)] aa ∧ Chg w.heap.size ws3.heap.size ws3 w' ∧ Own w' w.heap.size w'.heap.size s intT os.length 1 (os.map (Value.int .i64)) ∧ (mm = (dg m).length - k) ∧ (os.length = k) ∧ (Lm os) ∧ (c ≤ 1) ∧ (k ≤ (dg m).length) ∧ (vl ((dg m).take k) + Bs ^ k * c = vl (os) + vl ((dg n).take k))) (_) (fun a ha => ⟨0, s3, [], 0, ha.sub (Sub.cons (t := 0) rfl (.cons (t := 1) rfl (.cons (t := 5) rfl (.cons (t := 6) (look_int (t := 6) rfl (by first | omega | simp)) (.cons (t := 11) (look_int (t := 11) rfl (by first | omega | simp)) (.cons (t := 12) (look_int (t := 12) rfl (by first | omega | simp)) (.nil))))))), Chg.refl _ _ _, (fs3.mono (by omega) (by omega)), rfl, by simp, Lm.nil, by omega, by omega, by simp [vl]⟩) ?_
 rintro mm aa wl8 ⟨k, s, os, c, hAwl8, cwl8, hs_s, hm, hos, hlm, hc, hk, hv⟩
 refine (show cw Try.prog 42 _ _ _ wl8 from ?_) aa hAwl8
 clear hAwl8
 have zwl8 := cwl8.size
 have am := (Lm_dg m).getD k
 have bn := (Lm_dg n).getD k
 refine sx_seq fun K9 k9 => sx_region ?_
 refine sx_pure rfl rfl rfl (px_lt rfl rfl) ?_
 refine wl_nil (q_n (k9 _ _ ?_))
 refine sx_seq fun K10 k10 => ?_
 refine sx_condP rfl (fun h107 => ?_) (fun h107 => ?_)
 ·
  refine sx_skip ?_
  refine q_n (k10 _ _ ?_)
  refine sx_seq fun K11 k11 => ?_
  refine sx_block ?_
  refine sx_seq fun K12 k12 => sx_region ?_
  refine sm rfl rfl rfl rfl ?_
  refine sa rfl rfl rfl rfl ?_
  refine wl_nil (q_n (k12 _ _ ?_))
  refine sx_seq fun K13 k13 => sx_region ?_
  refine sm rfl rfl rfl rfl ?_
  refine sm rfl rfl rfl rfl ?_
  have f14 := f7.chg cwl8 (by omega)
  refine sx_pure rfl rfl rfl (px_index1 (j := k) rfl rfl (by omega) Try.underlying22 Try.sizeOf3 f14 (by omega)) ?_
  refine sx_pure rfl rfl rfl (px_load rfl (f14.load1 (at_int (by omega)) Try.isAgg3)) ?_
  refine sm rfl rfl rfl rfl ?_
  refine sx_pure rfl rfl rfl (px_sub rfl rfl (by omega)) ?_
  refine sa rfl rfl rfl rfl ?_
  refine wl_nil (q_n (k13 _ _ ?_))
  refine sx_sub (Sub.cons (t := 0) rfl (.cons (t := 1) rfl (.cons (t := 5) rfl (.cons (t := 6) rfl (.cons (t := 7) rfl (.cons (t := 8) rfl (.cons (t := 11) rfl (.cons (t := 12) rfl (.nil))))))))) ?_
  refine sx_seq fun K15 k15 => ?_
  refine sx_seq fun K16 k16 => sx_region ?_
  refine sm rfl rfl rfl rfl ?_
  refine sm rfl rfl rfl rfl ?_
  have f17 := hvb0.ext cs3
  have f18 := f17.chg cwl8 (by omega)
  refine sx_pure rfl rfl rfl (px_len rfl Try.underlying22 f18) ?_
  refine sx_pure rfl rfl rfl (px_lt rfl rfl) ?_
  refine wl_nil (q_n (k16 _ _ ?_))
  refine sx_condP rfl (fun h109 => ?_) (fun h109 => ?_)
  ·
   refine sx_region ?_
   refine sm rfl rfl rfl rfl ?_
   refine sm rfl rfl rfl rfl ?_
   refine sm rfl rfl rfl rfl ?_
   refine sx_pure rfl rfl rfl (px_index1 (j := k) rfl rfl (by omega) Try.underlying22 Try.sizeOf3 f18 (by omega)) ?_
   refine sx_pure rfl rfl rfl (px_load rfl (f18.load1 (at_int (by omega)) Try.isAgg3)) ?_
   refine sx_pure rfl rfl rfl (px_sub rfl rfl (by omega)) ?_
   refine sa rfl rfl rfl rfl ?_
   refine wl_nil (q_n (k15 _ _ ?_))
   refine sx_sub (Sub.cons (t := 0) rfl (.cons (t := 1) rfl (.cons (t := 5) rfl (.cons (t := 6) rfl (.cons (t := 8) rfl (.cons (t := 11) rfl (.cons (t := 12) rfl (.nil)))))))) ?_
   refine sx_seq fun K19 k19 => sx_region ?_
   refine sa rfl rfl rfl rfl ?_
   refine wl_nil (q_n (k19 _ _ ?_))
   refine sx_seq fun K20 k20 => ?_
   refine sx_seq fun K21 k21 => sx_region ?_
   refine sm rfl rfl rfl rfl ?_
   refine sx_pure rfl rfl rfl (px_lt rfl rfl) ?_
   refine wl_nil (q_n (k21 _ _ ?_))
   refine sx_condP rfl (fun h113 => ?_) (fun h113 => ?_)
   ·
    refine sx_seq fun K22 k22 => sx_region ?_
    refine sm rfl rfl rfl rfl ?_
    refine sx_pure rfl rfl rfl (px_add rfl rfl (by omega)) ?_
    refine sa rfl rfl rfl rfl ?_
    refine wl_nil (q_n (k22 _ _ ?_))
    refine sx_region ?_
    refine sa rfl rfl rfl rfl ?_
    refine wl_nil (q_n (k20 _ _ ?_))
    refine sx_region ?_
    refine sm rfl rfl rfl rfl ?_
    refine sm rfl rfl rfl rfl ?_
    refine sx_lit1 rfl xelt22 rfl rfl (fun s23 ws23 ss23 fs23 cs23 => ?_)
    have ns23 := Own.norm (f := (Value.int .i64)) (zs := [((((dg m).getD k 0) - ((c : Nat) : Int)) - ((dg n).getD k 0)) + 1000000000]) fs23
    have zws23 := cs23.size
    have f25 := hs_s.ext cs23
    refine sx_append rfl xelt22 rfl rfl f25 ns23.sv one_int (by omega) (by simp only [List.length_cons, List.length_nil]; omega) (by unfold maxLen; simp only [List.length_cons, List.length_nil]; omega) (fun a24 w24 fw24 cw24 => ?_)
    have nw24 := Own.app (f := (Value.int .i64)) (a := os) (b := [((((dg m).getD k 0) - ((c : Nat) : Int)) - ((dg n).getD k 0)) + 1000000000]) fw24
    have zw24 := cw24.size
    refine sa rfl rfl rfl rfl ?_
    refine wl_nil ?_
    refine q_bn (q_n (k11 _ _ ?_))
    refine sx_sub (Sub.cons (t := 0) rfl (.cons (t := 1) rfl (.cons (t := 5) rfl (.cons (t := 6) rfl (.cons (t := 11) rfl (.cons (t := 12) rfl (.nil))))))) ?_
    refine sx_region ?_
    refine sx_pure rfl rfl rfl (px_add rfl rfl (by omega)) ?_
    refine sm rfl rfl rfl rfl ?_
    refine wl_nil ?_
    have q26 := Chg.step (l := w.heap.size) (h := ws3.heap.size) cwl8 cs23 (by omega)
    have q27 := Chg.step (l := w.heap.size) (h := ws3.heap.size) q26 cw24 (by omega)
    have hs : ((dg m).getD k 0).toNat + Bs * 1 = ((dg n).getD k 0).toNat + c + ((((((dg m).getD k 0) - ((c : Nat) : Int)) - ((dg n).getD k 0)) + 1000000000) : Int).toNat := by simp only [Bs]; omega
    have hv2 : vl ((dg m).take (k + 1)) + Bs ^ (k + 1) * 1 = vl (os ++ [(((((dg m).getD k 0) - ((c : Nat) : Int)) - ((dg n).getD k 0)) + 1000000000)]) + vl ((dg n).take (k + 1)) := by
     rw [vl_concat, hos, vl_take_succ', vl_take_succ', Nat.pow_succ]
     exact sub_step hs hv
    exact fun a ha => ⟨_, by omega, (k + 1), a24, (os ++ ([((((dg m).getD k 0) - ((c : Nat) : Int)) - ((dg n).getD k 0)) + 1000000000])), 1, ha.sub (Sub.cons (t := 0) rfl (.cons (t := 1) rfl (.cons (t := 5) rfl (.cons (t := 6) (look_int (t := 6) rfl (by first | omega | simp)) (.cons (t := 11) rfl (.cons (t := 12) (look_int (t := 12) rfl (by first | omega | simp)) (.nil))))))), q27, (nw24.mono (by omega) (by omega)), rfl, by simp [hos], hlm.append (Lm.single (by omega) (by omega)), by omega, by omega, hv2⟩
   ·
    refine sx_skip ?_
    refine q_n (k20 _ _ ?_)
    refine sx_region ?_
    refine sm rfl rfl rfl rfl ?_
    refine sm rfl rfl rfl rfl ?_
    refine sx_lit1 rfl xelt22 rfl rfl (fun s28 ws28 ss28 fs28 cs28 => ?_)
    have ns28 := Own.norm (f := (Value.int .i64)) (zs := [(((dg m).getD k 0) - ((c : Nat) : Int)) - ((dg n).getD k 0)]) fs28
    have zws28 := cs28.size
    have f30 := hs_s.ext cs28
    refine sx_append rfl xelt22 rfl rfl f30 ns28.sv one_int (by omega) (by simp only [List.length_cons, List.length_nil]; omega) (by unfold maxLen; simp only [List.length_cons, List.length_nil]; omega) (fun a29 w29 fw29 cw29 => ?_)
    have nw29 := Own.app (f := (Value.int .i64)) (a := os) (b := [(((dg m).getD k 0) - ((c : Nat) : Int)) - ((dg n).getD k 0)]) fw29
    have zw29 := cw29.size
    refine sa rfl rfl rfl rfl ?_
    refine wl_nil ?_
    refine q_bn (q_n (k11 _ _ ?_))
    refine sx_region ?_
    refine sx_pure rfl rfl rfl (px_add rfl rfl (by omega)) ?_
    refine sm rfl rfl rfl rfl ?_
    refine wl_nil ?_
    have q31 := Chg.step (l := w.heap.size) (h := ws3.heap.size) cwl8 cs28 (by omega)
    have q32 := Chg.step (l := w.heap.size) (h := ws3.heap.size) q31 cw29 (by omega)
    have hs : ((dg m).getD k 0).toNat + Bs * 0 = ((dg n).getD k 0).toNat + c + (((((dg m).getD k 0) - ((c : Nat) : Int)) - ((dg n).getD k 0)) : Int).toNat := by simp only [Bs]; omega
    have hv2 : vl ((dg m).take (k + 1)) + Bs ^ (k + 1) * 0 = vl (os ++ [((((dg m).getD k 0) - ((c : Nat) : Int)) - ((dg n).getD k 0))]) + vl ((dg n).take (k + 1)) := by
     rw [vl_concat, hos, vl_take_succ', vl_take_succ', Nat.pow_succ]
     exact sub_step hs hv
    exact fun a ha => ⟨_, by omega, (k + 1), a29, (os ++ ([(((dg m).getD k 0) - ((c : Nat) : Int)) - ((dg n).getD k 0)])), 0, ha.sub (Sub.cons (t := 0) rfl (.cons (t := 1) rfl (.cons (t := 5) rfl (.cons (t := 6) (look_int (t := 6) rfl (by first | omega | simp)) (.cons (t := 11) rfl (.cons (t := 12) (look_int (t := 12) rfl (by first | omega | simp)) (.nil))))))), q32, (nw29.mono (by omega) (by omega)), rfl, by simp [hos], hlm.append (Lm.single (by omega) (by omega)), by omega, by omega, hv2⟩
  ·
   have gn := getD_ge (zs := dg n) (k := k) (by omega)
   refine sx_skip ?_
   refine q_n (k15 _ _ ?_)
   refine sx_seq fun K33 k33 => sx_region ?_
   refine sa rfl rfl rfl rfl ?_
   refine wl_nil (q_n (k33 _ _ ?_))
   refine sx_seq fun K34 k34 => ?_
   refine sx_seq fun K35 k35 => sx_region ?_
   refine sm rfl rfl rfl rfl ?_
   refine sx_pure rfl rfl rfl (px_lt rfl rfl) ?_
   refine wl_nil (q_n (k35 _ _ ?_))
   refine sx_condP rfl (fun h113 => ?_) (fun h113 => ?_)
   ·
    refine sx_seq fun K36 k36 => sx_region ?_
    refine sm rfl rfl rfl rfl ?_
    refine sx_pure rfl rfl rfl (px_add rfl rfl (by omega)) ?_
    refine sa rfl rfl rfl rfl ?_
    refine wl_nil (q_n (k36 _ _ ?_))
    refine sx_sub (Sub.cons (t := 0) rfl (.cons (t := 1) rfl (.cons (t := 5) rfl (.cons (t := 6) rfl (.cons (t := 8) rfl (.cons (t := 11) rfl (.cons (t := 12) rfl (.nil)))))))) ?_
    refine sx_region ?_
    refine sa rfl rfl rfl rfl ?_
    refine wl_nil (q_n (k34 _ _ ?_))
    refine sx_region ?_
    refine sm rfl rfl rfl rfl ?_
    refine sm rfl rfl rfl rfl ?_
    refine sx_lit1 rfl xelt22 rfl rfl (fun s37 ws37 ss37 fs37 cs37 => ?_)
    have ns37 := Own.norm (f := (Value.int .i64)) (zs := [(((dg m).getD k 0) - ((c : Nat) : Int)) + 1000000000]) fs37
    have zws37 := cs37.size
    have f39 := hs_s.ext cs37
    refine sx_append rfl xelt22 rfl rfl f39 ns37.sv one_int (by omega) (by simp only [List.length_cons, List.length_nil]; omega) (by unfold maxLen; simp only [List.length_cons, List.length_nil]; omega) (fun a38 w38 fw38 cw38 => ?_)
    have nw38 := Own.app (f := (Value.int .i64)) (a := os) (b := [(((dg m).getD k 0) - ((c : Nat) : Int)) + 1000000000]) fw38
    have zw38 := cw38.size
    refine sa rfl rfl rfl rfl ?_
    refine wl_nil ?_
    refine q_bn (q_n (k11 _ _ ?_))
    refine sx_region ?_
    refine sx_pure rfl rfl rfl (px_add rfl rfl (by omega)) ?_
    refine sm rfl rfl rfl rfl ?_
    refine wl_nil ?_
    have q40 := Chg.step (l := w.heap.size) (h := ws3.heap.size) cwl8 cs37 (by omega)
    have q41 := Chg.step (l := w.heap.size) (h := ws3.heap.size) q40 cw38 (by omega)
    have hs : ((dg m).getD k 0).toNat + Bs * 1 = ((dg n).getD k 0).toNat + c + (((((dg m).getD k 0) - ((c : Nat) : Int)) + 1000000000) : Int).toNat := by simp only [Bs]; omega
    have hv2 : vl ((dg m).take (k + 1)) + Bs ^ (k + 1) * 1 = vl (os ++ [((((dg m).getD k 0) - ((c : Nat) : Int)) + 1000000000)]) + vl ((dg n).take (k + 1)) := by
     rw [vl_concat, hos, vl_take_succ', vl_take_succ', Nat.pow_succ]
     exact sub_step hs hv
    exact fun a ha => ⟨_, by omega, (k + 1), a38, (os ++ ([(((dg m).getD k 0) - ((c : Nat) : Int)) + 1000000000])), 1, ha.sub (Sub.cons (t := 0) rfl (.cons (t := 1) rfl (.cons (t := 5) rfl (.cons (t := 6) (look_int (t := 6) rfl (by first | omega | simp)) (.cons (t := 11) rfl (.cons (t := 12) (look_int (t := 12) rfl (by first | omega | simp)) (.nil))))))), q41, (nw38.mono (by omega) (by omega)), rfl, by simp [hos], hlm.append (Lm.single (by omega) (by omega)), by omega, by omega, hv2⟩
   ·
    refine sx_skip ?_
    refine q_n (k34 _ _ ?_)
    refine sx_region ?_
    refine sm rfl rfl rfl rfl ?_
    refine sm rfl rfl rfl rfl ?_
    refine sx_lit1 rfl xelt22 rfl rfl (fun s42 ws42 ss42 fs42 cs42 => ?_)
    have ns42 := Own.norm (f := (Value.int .i64)) (zs := [((dg m).getD k 0) - ((c : Nat) : Int)]) fs42
    have zws42 := cs42.size
    have f44 := hs_s.ext cs42
    refine sx_append rfl xelt22 rfl rfl f44 ns42.sv one_int (by omega) (by simp only [List.length_cons, List.length_nil]; omega) (by unfold maxLen; simp only [List.length_cons, List.length_nil]; omega) (fun a43 w43 fw43 cw43 => ?_)
    have nw43 := Own.app (f := (Value.int .i64)) (a := os) (b := [((dg m).getD k 0) - ((c : Nat) : Int)]) fw43
    have zw43 := cw43.size
    refine sa rfl rfl rfl rfl ?_
    refine wl_nil ?_
    refine q_bn (q_n (k11 _ _ ?_))
    refine sx_sub (Sub.cons (t := 0) rfl (.cons (t := 1) rfl (.cons (t := 5) rfl (.cons (t := 6) rfl (.cons (t := 11) rfl (.cons (t := 12) rfl (.nil))))))) ?_
    refine sx_region ?_
    refine sx_pure rfl rfl rfl (px_add rfl rfl (by omega)) ?_
    refine sm rfl rfl rfl rfl ?_
    refine wl_nil ?_
    have q45 := Chg.step (l := w.heap.size) (h := ws3.heap.size) cwl8 cs42 (by omega)
    have q46 := Chg.step (l := w.heap.size) (h := ws3.heap.size) q45 cw43 (by omega)
    have hs : ((dg m).getD k 0).toNat + Bs * 0 = ((dg n).getD k 0).toNat + c + ((((dg m).getD k 0) - ((c : Nat) : Int)) : Int).toNat := by simp only [Bs]; omega
    have hv2 : vl ((dg m).take (k + 1)) + Bs ^ (k + 1) * 0 = vl (os ++ [(((dg m).getD k 0) - ((c : Nat) : Int))]) + vl ((dg n).take (k + 1)) := by
     rw [vl_concat, hos, vl_take_succ', vl_take_succ', Nat.pow_succ]
     exact sub_step hs hv
    exact fun a ha => ⟨_, by omega, (k + 1), a43, (os ++ ([((dg m).getD k 0) - ((c : Nat) : Int)])), 0, ha.sub (Sub.cons (t := 0) rfl (.cons (t := 1) rfl (.cons (t := 5) rfl (.cons (t := 6) (look_int (t := 6) rfl (by first | omega | simp)) (.cons (t := 11) rfl (.cons (t := 12) (look_int (t := 12) rfl (by first | omega | simp)) (.nil))))))), q46, (nw43.mono (by omega) (by omega)), rfl, by simp [hos], hlm.append (Lm.single (by omega) (by omega)), by omega, by omega, hv2⟩
 ·
  refine sx_exit ?_
  refine q_e (q_e (q_bx (q_n (k5 _ _ ?_))))
  refine sx_seq fun K47 k47 => ?_
  have ek : k = (dg m).length := by omega
  have hnm := len_le hle
  rw [ek, List.take_length, vl_dg, vl_take_ge (show (dg n).length ≤ (dg m).length from hnm), vl_dg] at hv
  have hend := sub_end hv hle (by have h9 := vl_lt hlm; rw [hos, ek] at h9; exact h9) hc
  have hvv := hend.2
  have hz := hlm
  refine sx_region ?_
  refine sm rfl rfl rfl rfl ?_
  refine sx_call rfl rfl Try.call117 (c_l02Trim hs_s (by assumption) (by first | omega | (simp only [List.length_append, List.length_set, List.length_replicate, List.length_cons, List.length_nil] at *; omega))) (fun v48 w48 p48 => ?_)
  obtain ⟨s48, rfl, os_48, c48⟩ := p48
  have zw48 := c48.size
  refine sa rfl rfl rfl rfl ?_
  refine wl_nil (q_n (k47 _ _ ?_))
  refine sx_retc ?_
  refine sx_ret1 Try.results129 rfl ?_
  have hr := Own.sv os_48
  rw [hvv] at hr
  have q49 := Chg.step (l := 0) (h := 0) (Chg.zero (l := 0) (h := 0) cs3) cwl8 (by omega)
  have q50 := Chg.step (l := 0) (h := 0) q49 c48 (by omega)
  exact ⟨_, rfl, hr.mono (by omega) (by omega), q50⟩

theorem c_l04Add {w : World} {va : Value} {lva uva : Nat} {x : Int} {vb : Value} {lvb uvb : Nat} {y : Int} (hva : Sl w lva uva va (dg x.natAbs)) (hvb : Sl w lvb uvb vb (dg y.natAbs)) (hbx : (dg x.natAbs).length ≤ 1000) (hby : (dg y.natAbs).length ≤ 1000) :
  Ret Try.prog 111 [.agg #[.bool (ng x), va], .agg #[.bool (ng y), vb]] w fun v w' => ∃ s, v = .agg #[.bool (ng (cap (x + y))), s] ∧ OwnI w' w.heap.size w'.heap.size s intT (dg (cap (x + y)).natAbs) ∧ Chg 0 0 w w' := by
 have hva0 := hva.fit
 have hvb0 := hvb.fit
 have l2 := len_add x.natAbs y.natAbs
 have l3 := len_le (Nat.sub_le x.natAbs y.natAbs)
 have l4 := len_le (Nat.sub_le y.natAbs x.natAbs)
 refine sx_enter Try.func111 rfl Try.ntmps111 (Nat.le_of_ble_eq_true rfl) ?_
 refine sx_seq fun K1 k1 => sx_region ?_
 refine sx_box [.bool (ng x), va] rfl rfl rfl (fun b2 w3 eb2 sb2 fb2 cb2 => ?_)
 have zw3 := cb2.size
 refine sx_box [.bool (ng y), vb] rfl rfl rfl (fun b4 w5 eb4 sb4 fb4 cb4 => ?_)
 have zw5 := cb4.size
 refine sx_alloc [.bool false, (.slice none 0 0)] rfl Try.zeroValue29 rfl (fun b6 w7 eb6 sb6 fb6 cb6 => ?_)
 have zw7 := cb6.size
 refine wl_nil (q_n (k1 _ _ ?_))
 refine sx_seq fun K8 k8 => ?_
 refine sx_seq fun K9 k9 => sx_region ?_
 refine sx_pure rfl rfl rfl (px_field rfl xfld29x0) ?_
 have f10 := fb2.ext cb4
 have f11 := f10.ext cb6
 refine sx_pure rfl rfl rfl (px_load rfl (f11.load1 rfl Try.isAgg4)) ?_
 refine sx_pure rfl rfl rfl (px_field rfl xfld29x0) ?_
 have f12 := fb4.ext cb6
 refine sx_pure rfl rfl rfl (px_load rfl (f12.load1 rfl Try.isAgg4)) ?_
 refine sx_pure rfl rfl rfl (px_eqB Try.underlying4 rfl rfl) ?_
 refine wl_nil (q_n (k9 _ _ ?_))
 refine sx_condB rfl (fun h53 => ?_) (fun h53 => ?_)
 ·
  refine sx_seq fun K13 k13 => ?_
  have f14 := hva0.ext cb2
  have f15 := f14.ext cb4
  have f16 := f15.ext cb6
  have f17 := hvb0.ext cb2
  have f18 := f17.ext cb4
  have f19 := f18.ext cb6
  refine dx_region (fun w' => Chg b6 (b6 + 1) w7 w') (by kernel_rfl) (Chg.zero (Chg.drew _)) ?_
  have d20 := Chg.drew w7
  have s20 : Chg b6 (b6 + 1) w7 (World.drew w7) := Chg.zero (Chg.drew _)
  have y20 : (World.drew w7).heap.size = w7.heap.size := rfl
  generalize World.drew w7 = w20 at *
  have zw20 := d20.size
  refine dx_take 0 rfl rfl rfl rfl (by kernel_rfl) (by kernel_rfl) (by kernel_rfl) s20 (fun _ hS => px_field rfl xfld29x0) ?_
  refine dx_take 1 rfl rfl rfl rfl (by kernel_rfl) (by kernel_rfl) (by kernel_rfl) s20 (fun _ hS => px_load rfl ((f11.chg hS (by omega)).load1 rfl Try.isAgg4)) ?_
  refine dx_take 2 rfl rfl rfl rfl (by kernel_rfl) (by kernel_rfl) (by kernel_rfl) s20 (fun _ hS => px_field rfl xfld29x1) ?_
  refine dx_take 3 rfl rfl rfl rfl (by kernel_rfl) (by kernel_rfl) (by kernel_rfl) s20 (fun _ hS => px_load rfl ((f11.chg hS (by omega)).load1 rfl Try.isAgg22)) ?_
  refine dx_take 4 rfl rfl rfl rfl (by kernel_rfl) (by kernel_rfl) (by kernel_rfl) s20 (fun _ hS => px_field rfl xfld29x1) ?_
  refine dx_take 5 rfl rfl rfl rfl (by kernel_rfl) (by kernel_rfl) (by kernel_rfl) s20 (fun _ hS => px_load rfl ((f12.chg hS (by omega)).load1 rfl Try.isAgg22)) ?_
  refine dx_eff 6 rfl (by kernel_rfl) ?_
  have f21 := f16.ext d20
  have f22 := f19.ext d20
  refine sx_call rfl rfl Try.call125 (c_l02Add f21 f22 (by omega) (by omega)) (fun v23 w23 p23 => ?_)
  obtain ⟨s23, rfl, os_23, c23⟩ := p23
  have zw23 := c23.size
  have s24 : Chg b6 (b6 + 1) w7 w23 := (Chg.zero (l := b6) (h := (b6 + 1)) (d20.t c23))
  refine wl_nil ?_
  refine dx_next s24 ?_
  refine dx_eff 7 rfl (by kernel_rfl) ?_
  refine sx_call rfl rfl Try.call106 (c_l04Make os_23 (by omega)) (fun v25 w25 p25 => ?_)
  obtain ⟨s25, rfl, os_25, c25⟩ := p25
  have zw25 := c25.size
  have s26 : Chg b6 (b6 + 1) w7 w25 := (Chg.zero (l := b6) (h := (b6 + 1)) ((d20.t c23).t c25))
  refine wl_nil ?_
  refine dx_next s26 ?_
  refine dx_eff 8 rfl (by kernel_rfl) ?_
  have f28 := fb6.ext d20
  have f29 := f28.ext c23
  have f30 := f29.ext c25
  refine sx_store (vs := [.bool (ng (capI (ng x) (x.natAbs + y.natAbs))), s25]) rfl rfl f30 rfl Try.sizeOf29 (Nat.le_of_ble_eq_true rfl) (one_cons rfl (one_cons os_25.one one_nil)) (fun w27 sw27 fw27 cw27 => ?_)
  have zw27 := cw27.size
  have gw27 : Blk w27 b6 [.bool (ng (capI (ng x) (x.natAbs + y.natAbs))), s25] 29 := fw27
  have q32 := Chg.step (l := b6) (h := (b6 + 1)) (Chg.zero (l := b6) (h := (b6 + 1)) ((d20.t c23).t c25)) cw27 (by omega)
  have s31 : Chg b6 (b6 + 1) w7 w27 := q32
  refine wl_nil ?_
  refine dx_next s31 ?_
  refine dx_done (by kernel_rfl) ?_
  refine q_n (k13 _ _ ?_)
  refine sx_sub (Sub.cons (t := 2) rfl (.cons (t := 3) rfl (.cons (t := 4) rfl (.nil)))) ?_
  refine sx_retc ?_
  refine q_r (sx_ret1 Try.results111 ⟨_, rfl, gw27.loadA (vs := [.bool (ng (capI (ng x) (x.natAbs + y.natAbs))), s25]) (look_lit rfl) Try.isAgg29 Try.sizeOf29⟩ ?_)
  have hq := capI_of (add_sg h53)
  rw [← hq]
  have q33 := Chg.step (l := 0) (h := 0) (Chg.zero (l := 0) (h := 0) (((((cb2.t cb4).t cb6).t d20).t c23).t c25)) cw27 (by omega)
  have f34 := os_25.chg cw27 (by omega)
  exact ⟨_, rfl, (Own.mono f34 (by omega) (by omega)), q33⟩
 ·
  refine sx_skip ?_
  refine q_n (k8 _ _ ?_)
  refine sx_seq fun K35 k35 => ?_
  refine sx_seq fun K36 k36 => sx_region ?_
  refine sx_pure rfl rfl rfl (px_field rfl xfld29x1) ?_
  refine sx_pure rfl rfl rfl (px_load rfl (f11.load1 rfl Try.isAgg22)) ?_
  refine sx_pure rfl rfl rfl (px_field rfl xfld29x1) ?_
  refine sx_pure rfl rfl rfl (px_load rfl (f12.load1 rfl Try.isAgg22)) ?_
  have f37 := hva0.ext cb2
  have f38 := f37.ext cb4
  have f39 := f38.ext cb6
  have f40 := hvb0.ext cb2
  have f41 := f40.ext cb4
  have f42 := f41.ext cb6
  refine sx_call rfl rfl Try.call76 (c_l02Cmp f39 f42 (by omega)) (fun v43 w43 p43 => ?_)
  obtain ⟨rfl, c43⟩ := p43
  have zw43 := c43.size
  refine sx_pure rfl rfl rfl (px_ge rfl rfl) ?_
  refine wl_nil (q_n (k36 _ _ ?_))
  refine sx_sub (Sub.cons (t := 2) rfl (.cons (t := 3) rfl (.cons (t := 4) rfl (.cons (t := 23) rfl (.nil))))) ?_
  refine sx_condP rfl (fun h56 => ?_) (fun h56 => ?_)
  ·
   rw [cmpL_dg] at h56
   have hge := cmpN_nonneg.1 h56
   refine sx_seq fun K44 k44 => ?_
   have f45 := f11.ext c43
   have f46 := f12.ext c43
   have f47 := f39.ext c43
   have f48 := f42.ext c43
   refine dx_region (fun w' => Chg b6 (b6 + 1) w43 w') (by kernel_rfl) (Chg.zero (Chg.drew _)) ?_
   have d49 := Chg.drew w43
   have s49 : Chg b6 (b6 + 1) w43 (World.drew w43) := Chg.zero (Chg.drew _)
   have y49 : (World.drew w43).heap.size = w43.heap.size := rfl
   generalize World.drew w43 = w49 at *
   have zw49 := d49.size
   refine dx_take 0 rfl rfl rfl rfl (by kernel_rfl) (by kernel_rfl) (by kernel_rfl) s49 (fun _ hS => px_field rfl xfld29x0) ?_
   refine dx_take 1 rfl rfl rfl rfl (by kernel_rfl) (by kernel_rfl) (by kernel_rfl) s49 (fun _ hS => px_load rfl ((f45.chg hS (by omega)).load1 rfl Try.isAgg4)) ?_
   refine dx_take 2 rfl rfl rfl rfl (by kernel_rfl) (by kernel_rfl) (by kernel_rfl) s49 (fun _ hS => px_field rfl xfld29x1) ?_
   refine dx_take 3 rfl rfl rfl rfl (by kernel_rfl) (by kernel_rfl) (by kernel_rfl) s49 (fun _ hS => px_load rfl ((f45.chg hS (by omega)).load1 rfl Try.isAgg22)) ?_
   refine dx_take 4 rfl rfl rfl rfl (by kernel_rfl) (by kernel_rfl) (by kernel_rfl) s49 (fun _ hS => px_field rfl xfld29x1) ?_
   refine dx_take 5 rfl rfl rfl rfl (by kernel_rfl) (by kernel_rfl) (by kernel_rfl) s49 (fun _ hS => px_load rfl ((f46.chg hS (by omega)).load1 rfl Try.isAgg22)) ?_
   refine dx_eff 6 rfl (by kernel_rfl) ?_
   have f50 := f47.ext d49
   have f51 := f48.ext d49
   refine sx_call rfl rfl Try.call129 (c_l02Sub f50 f51 (by omega) (by omega) (by omega)) (fun v52 w52 p52 => ?_)
   obtain ⟨s52, rfl, os_52, c52⟩ := p52
   have zw52 := c52.size
   have s53 : Chg b6 (b6 + 1) w43 w52 := (Chg.zero (l := b6) (h := (b6 + 1)) (d49.t c52))
   refine wl_nil ?_
   refine dx_next s53 ?_
   refine dx_eff 7 rfl (by kernel_rfl) ?_
   refine sx_call rfl rfl Try.call106 (c_l04Make os_52 (by omega)) (fun v54 w54 p54 => ?_)
   obtain ⟨s54, rfl, os_54, c54⟩ := p54
   have zw54 := c54.size
   have s55 : Chg b6 (b6 + 1) w43 w54 := (Chg.zero (l := b6) (h := (b6 + 1)) ((d49.t c52).t c54))
   refine wl_nil ?_
   refine dx_next s55 ?_
   refine dx_eff 8 rfl (by kernel_rfl) ?_
   have f57 := fb6.ext c43
   have f58 := f57.ext d49
   have f59 := f58.ext c52
   have f60 := f59.ext c54
   refine sx_store (vs := [.bool (ng (capI (ng x) (x.natAbs - y.natAbs))), s54]) rfl rfl f60 rfl Try.sizeOf29 (Nat.le_of_ble_eq_true rfl) (one_cons rfl (one_cons os_54.one one_nil)) (fun w56 sw56 fw56 cw56 => ?_)
   have zw56 := cw56.size
   have gw56 : Blk w56 b6 [.bool (ng (capI (ng x) (x.natAbs - y.natAbs))), s54] 29 := fw56
   have q62 := Chg.step (l := b6) (h := (b6 + 1)) (Chg.zero (l := b6) (h := (b6 + 1)) ((d49.t c52).t c54)) cw56 (by omega)
   have s61 : Chg b6 (b6 + 1) w43 w56 := q62
   refine wl_nil ?_
   refine dx_next s61 ?_
   refine dx_done (by kernel_rfl) ?_
   refine q_n (k44 _ _ ?_)
   refine sx_retc ?_
   refine q_r (sx_ret1 Try.results111 ⟨_, rfl, gw56.loadA (vs := [.bool (ng (capI (ng x) (x.natAbs - y.natAbs))), s54]) (look_lit rfl) Try.isAgg29 Try.sizeOf29⟩ ?_)
   have hq := capI_of (sub_sg h53 hge)
   rw [← hq]
   have q63 := Chg.step (l := 0) (h := 0) (Chg.zero (l := 0) (h := 0) ((((((cb2.t cb4).t cb6).t c43).t d49).t c52).t c54)) cw56 (by omega)
   have f64 := os_54.chg cw56 (by omega)
   exact ⟨_, rfl, (Own.mono f64 (by omega) (by omega)), q63⟩
  ·
   rw [cmpL_dg] at h56
   have hlt := cmpN_neg.1 (Int.not_le.1 h56)
   refine sx_skip ?_
   refine q_n (k35 _ _ ?_)
   refine sx_seq fun K65 k65 => ?_
   have f66 := f11.ext c43
   have f67 := f12.ext c43
   have f68 := f39.ext c43
   have f69 := f42.ext c43
   refine dx_region (fun w' => Chg b6 (b6 + 1) w43 w') (by kernel_rfl) (Chg.zero (Chg.drew _)) ?_
   have d70 := Chg.drew w43
   have s70 : Chg b6 (b6 + 1) w43 (World.drew w43) := Chg.zero (Chg.drew _)
   have y70 : (World.drew w43).heap.size = w43.heap.size := rfl
   generalize World.drew w43 = w70 at *
   have zw70 := d70.size
   refine dx_take 0 rfl rfl rfl rfl (by kernel_rfl) (by kernel_rfl) (by kernel_rfl) s70 (fun _ hS => px_field rfl xfld29x0) ?_
   refine dx_take 1 rfl rfl rfl rfl (by kernel_rfl) (by kernel_rfl) (by kernel_rfl) s70 (fun _ hS => px_load rfl ((f67.chg hS (by omega)).load1 rfl Try.isAgg4)) ?_
   refine dx_take 2 rfl rfl rfl rfl (by kernel_rfl) (by kernel_rfl) (by kernel_rfl) s70 (fun _ hS => px_field rfl xfld29x1) ?_
   refine dx_take 3 rfl rfl rfl rfl (by kernel_rfl) (by kernel_rfl) (by kernel_rfl) s70 (fun _ hS => px_load rfl ((f67.chg hS (by omega)).load1 rfl Try.isAgg22)) ?_
   refine dx_take 4 rfl rfl rfl rfl (by kernel_rfl) (by kernel_rfl) (by kernel_rfl) s70 (fun _ hS => px_field rfl xfld29x1) ?_
   refine dx_take 5 rfl rfl rfl rfl (by kernel_rfl) (by kernel_rfl) (by kernel_rfl) s70 (fun _ hS => px_load rfl ((f66.chg hS (by omega)).load1 rfl Try.isAgg22)) ?_
   refine dx_eff 6 rfl (by kernel_rfl) ?_
   have f71 := f69.ext d70
   have f72 := f68.ext d70
   refine sx_call rfl rfl Try.call129 (c_l02Sub f71 f72 (by omega) (by omega) (by omega)) (fun v73 w73 p73 => ?_)
   obtain ⟨s73, rfl, os_73, c73⟩ := p73
   have zw73 := c73.size
   have s74 : Chg b6 (b6 + 1) w43 w73 := (Chg.zero (l := b6) (h := (b6 + 1)) (d70.t c73))
   refine wl_nil ?_
   refine dx_next s74 ?_
   refine dx_eff 7 rfl (by kernel_rfl) ?_
   refine sx_call rfl rfl Try.call106 (c_l04Make os_73 (by omega)) (fun v75 w75 p75 => ?_)
   obtain ⟨s75, rfl, os_75, c75⟩ := p75
   have zw75 := c75.size
   have s76 : Chg b6 (b6 + 1) w43 w75 := (Chg.zero (l := b6) (h := (b6 + 1)) ((d70.t c73).t c75))
   refine wl_nil ?_
   refine dx_next s76 ?_
   refine dx_eff 8 rfl (by kernel_rfl) ?_
   have f78 := fb6.ext c43
   have f79 := f78.ext d70
   have f80 := f79.ext c73
   have f81 := f80.ext c75
   refine sx_store (vs := [.bool (ng (capI (ng y) (y.natAbs - x.natAbs))), s75]) rfl rfl f81 rfl Try.sizeOf29 (Nat.le_of_ble_eq_true rfl) (one_cons rfl (one_cons os_75.one one_nil)) (fun w77 sw77 fw77 cw77 => ?_)
   have zw77 := cw77.size
   have gw77 : Blk w77 b6 [.bool (ng (capI (ng y) (y.natAbs - x.natAbs))), s75] 29 := fw77
   have q83 := Chg.step (l := b6) (h := (b6 + 1)) (Chg.zero (l := b6) (h := (b6 + 1)) ((d70.t c73).t c75)) cw77 (by omega)
   have s82 : Chg b6 (b6 + 1) w43 w77 := q83
   refine wl_nil ?_
   refine dx_next s82 ?_
   refine dx_done (by kernel_rfl) ?_
   refine q_n (k65 _ _ ?_)
   refine sx_retc ?_
   refine sx_ret1 Try.results111 ⟨_, rfl, gw77.loadA (vs := [.bool (ng (capI (ng y) (y.natAbs - x.natAbs))), s75]) (look_lit rfl) Try.isAgg29 Try.sizeOf29⟩ ?_
   have hq := capI_of (sub_sg2 h53 (by omega))
   rw [← hq]
   have q84 := Chg.step (l := 0) (h := 0) (Chg.zero (l := 0) (h := 0) ((((((cb2.t cb4).t cb6).t c43).t d70).t c73).t c75)) cw77 (by omega)
   have f85 := os_75.chg cw77 (by omega)
   exact ⟨_, rfl, (Own.mono f85 (by omega) (by omega)), q84⟩

theorem c_IntAdd {w : World} {va : Value} {lva uva : Nat} {x : Int} {vb : Value} {lvb uvb : Nat} {y : Int} (hva : Sl w lva uva va (dg x.natAbs)) (hvb : Sl w lvb uvb vb (dg y.natAbs)) (hbx : (dg x.natAbs).length ≤ 50) (hby : (dg y.natAbs).length ≤ 50) :
  Ret Try.prog 79 [.agg #[.bool (ng x), va], .agg #[.bool (ng y), vb]] w fun v w' => ∃ s, v = .agg #[.bool (ng (cap (x + y))), s] ∧ OwnI w' w.heap.size w'.heap.size s intT (dg (cap (x + y)).natAbs) ∧ Chg 0 0 w w' := by
 have hva0 := hva.fit
 have hvb0 := hvb.fit
 refine sx_enter Try.func79 rfl Try.ntmps79 (Nat.le_of_ble_eq_true rfl) ?_
 refine sx_seq fun K1 k1 => sx_region ?_
 refine sx_box [.bool (ng x), va] rfl rfl rfl (fun b2 w3 eb2 sb2 fb2 cb2 => ?_)
 have zw3 := cb2.size
 refine sx_box [.bool (ng y), vb] rfl rfl rfl (fun b4 w5 eb4 sb4 fb4 cb4 => ?_)
 have zw5 := cb4.size
 refine sx_alloc [.bool false, (.slice none 0 0)] rfl Try.zeroValue29 rfl (fun b6 w7 eb6 sb6 fb6 cb6 => ?_)
 have zw7 := cb6.size
 refine wl_nil (q_n (k1 _ _ ?_))
 refine sx_seq fun K8 k8 => ?_
 refine sx_seq fun K9 k9 => sx_region ?_
 have f10 := fb2.ext cb4
 have f11 := f10.ext cb6
 refine sx_pure rfl rfl rfl (px_load rfl (f11.loadA (vs := [.bool (ng x), va]) (look_lit rfl) Try.isAgg29 Try.sizeOf29)) ?_
 have f12 := hva0.ext cb2
 have f13 := f12.ext cb4
 have f14 := f13.ext cb6
 refine sx_call rfl rfl Try.call60 (c_sIntOk f14 (by omega)) (fun v15 w15 p15 => ?_)
 obtain ⟨rfl, c15⟩ := p15
 have zw15 := c15.size
 refine sx_pure rfl rfl rfl (px_notP rfl) ?_
 refine sm rfl rfl rfl rfl ?_
 have h64 : ¬ (¬ (IOk (ng x) (dg x.natAbs))) := by first | exact fun h => h (IOk_ng (by omega)) | exact fun h => h (IOk_ng (by assumption))
 refine sx_tmpPF (t := 8) rfl h64 ?_
 refine sx_guardT rfl rfl rfl ?_
 have f16 := fb4.ext cb6
 have f17 := f16.ext c15
 refine sx_pure rfl rfl rfl (px_load rfl (f17.loadA (vs := [.bool (ng y), vb]) (look_lit rfl) Try.isAgg29 Try.sizeOf29)) ?_
 refine sx_guardT rfl rfl rfl ?_
 have f18 := hvb0.ext cb2
 have f19 := f18.ext cb4
 have f20 := f19.ext cb6
 have f21 := f20.ext c15
 refine sx_call rfl rfl Try.call60 (c_sIntOk f21 (by omega)) (fun v22 w22 p22 => ?_)
 obtain ⟨rfl, c22⟩ := p22
 have zw22 := c22.size
 refine sx_guardT rfl rfl rfl ?_
 refine sx_pure rfl rfl rfl (px_notP rfl) ?_
 refine sx_pure rfl rfl rfl (px_pick rfl rfl) ?_
 refine wl_nil (q_n (k9 _ _ ?_))
 have h64x1 : ¬ (¬ (IOk (ng y) (dg y.natAbs))) := by first | exact fun h => h (IOk_ng (by omega)) | exact fun h => h (IOk_ng (by assumption))
 refine sx_condPF rfl h64x1 ?_
 refine sx_skip ?_
 refine q_n (k8 _ _ ?_)
 refine sx_seq fun K23 k23 => sx_region ?_
 have f24 := f11.ext c15
 have f25 := f24.ext c22
 refine sx_pure rfl rfl rfl (px_load rfl (f25.loadA (vs := [.bool (ng x), va]) (look_lit rfl) Try.isAgg29 Try.sizeOf29)) ?_
 have f26 := f17.ext c22
 refine sx_pure rfl rfl rfl (px_load rfl (f26.loadA (vs := [.bool (ng y), vb]) (look_lit rfl) Try.isAgg29 Try.sizeOf29)) ?_
 have f27 := f14.ext c15
 have f28 := f27.ext c22
 have f29 := f21.ext c22
 refine sx_call rfl rfl Try.call111 (c_l04Add f28 f29 (by omega) (by omega)) (fun v30 w30 p30 => ?_)
 obtain ⟨s30, rfl, os_30, c30⟩ := p30
 have zw30 := c30.size
 have f32 := fb6.ext c15
 have f33 := f32.ext c22
 have f34 := f33.ext c30
 refine sx_store (vs := [.bool (ng (cap (x + y))), s30]) rfl rfl f34 rfl Try.sizeOf29 (Nat.le_of_ble_eq_true rfl) (one_cons rfl (one_cons os_30.one one_nil)) (fun w31 sw31 fw31 cw31 => ?_)
 have zw31 := cw31.size
 have gw31 : Blk w31 b6 [.bool (ng (cap (x + y))), s30] 29 := fw31
 refine wl_nil (q_n (k23 _ _ ?_))
 refine sx_sub (Sub.cons (t := 4) rfl (.nil)) ?_
 refine sx_retc ?_
 refine sx_ret1 Try.results79 ⟨_, rfl, gw31.loadA (vs := [.bool (ng (cap (x + y))), s30]) (look_lit rfl) Try.isAgg29 Try.sizeOf29⟩ ?_
 have q35 := Chg.step (l := 0) (h := 0) (Chg.zero (l := 0) (h := 0) (((((cb2.t cb4).t cb6).t c15).t c22).t c30)) cw31 (by omega)
 have f36 := os_30.chg cw31 (by omega)
 exact ⟨_, rfl, (Own.mono f36 (by omega) (by omega)), q35⟩

theorem c_IntAddE {w : World} {va : Value} {lva uva : Nat} {x : Int} {vb : Value} {lvb uvb : Nat} {y : Int} (hva : Sl w lva uva va (dg x.natAbs)) (hvb : Sl w lvb uvb vb (dg y.natAbs)) (hbx : (dg x.natAbs).length ≤ 49) (hby : (dg y.natAbs).length ≤ 49) :
  Ret Try.prog 79 [.agg #[.bool (ng x), va], .agg #[.bool (ng y), vb]] w fun v w' => ∃ s, v = .agg #[.bool (ng (x + y)), s] ∧ OwnI w' w.heap.size w'.heap.size s intT (dg (x + y).natAbs) ∧ Chg 0 0 w w' := by
 have h := c_IntAdd hva hvb (by omega) (by omega); rwa [cap_ok (by have := len_addI x y; omega)] at h

theorem c_l07Dec {w : World} {va : Value} {lva uva : Nat} {x : Int} {p : Int} (hva : OwnI w lva uva va intT (dg x.natAbs)) (hbx : (dg x.natAbs).length ≤ 1000) (hu : uva ≤ w.heap.size) :
  Ret Try.prog 66 [.agg #[.bool (ng x), va], .int .i64 p] w fun v w' => ∃ s, v = .tuple #[.agg #[.bool ((decR x p).1), s, .int .i64 ((decR x p).2.2.1)], .bool ((decR x p).2.2.2)] ∧ OwnI w' (lva) (uva) s intT ((decR x p).2.1) ∧ Chg 0 0 w w' := by
 refine sx_enter Try.func66 rfl Try.ntmps66 (Nat.le_of_ble_eq_true rfl) ?_
 refine sx_seq fun K1 k1 => sx_region ?_
 refine sx_box [.bool (ng x), va] rfl rfl rfl (fun b2 w3 eb2 sb2 fb2 cb2 => ?_)
 have zw3 := cb2.size
 refine sx_alloc [.bool false, (.slice none 0 0), .int .i64 0] rfl Try.zeroValue31 rfl (fun b4 w5 eb4 sb4 fb4 cb4 => ?_)
 have zw5 := cb4.size
 refine sa rfl rfl rfl rfl ?_
 refine wl_nil (q_n (k1 _ _ ?_))
 refine sx_seq fun K6 k6 => sx_region ?_
 have f7 := fb2.ext cb4
 refine sx_pure rfl rfl rfl (px_load rfl (f7.loadA (vs := [.bool (ng x), va]) (look_lit rfl) Try.isAgg29 Try.sizeOf29)) ?_
 refine sm rfl rfl rfl rfl ?_
 refine sx_pure rfl rfl rfl (px_build rfl (xbld31x0x1 rfl _)) ?_
 refine sx_alloc [.bool false, (.slice none 0 0), .int .i64 0] rfl Try.zeroValue31 rfl (fun b8 w9 eb8 sb8 fb8 cb8 => ?_)
 have zw9 := cb8.size
 have f11 := hva.ext cb2
 have f12 := f11.ext cb4
 have f13 := f12.ext cb8
 refine sx_store (vs := [.bool (ng x), va, .int .i64 p]) rfl rfl fb8 rfl Try.sizeOf31 (Nat.le_of_ble_eq_true rfl) (one_cons rfl (one_cons f13.one (one_cons rfl one_nil))) (fun w10 sw10 fw10 cw10 => ?_)
 have zw10 := cw10.size
 have gw10 : Blk w10 b8 [.bool (ng x), va, .int .i64 p] 31 := fw10
 refine wl_nil (q_n (k6 _ _ ?_))
 refine sx_seq fun K14 k14 => ?_
 refine sx_seq fun K15 k15 => sx_region ?_
 refine sx_pure rfl rfl rfl (px_load rfl (gw10.loadA (vs := [.bool (ng x), va, .int .i64 p]) (look_lit rfl) Try.isAgg31 Try.sizeOf31)) ?_
 have f16 := f13.chg cw10 (by omega)
 refine sx_call rfl rfl Try.call16 (c_sDecOk f16.sv (by omega)) (fun v17 w17 p17 => ?_)
 obtain ⟨rfl, c17⟩ := p17
 have zw17 := c17.size
 refine sx_pure rfl rfl rfl (px_notP rfl) ?_
 refine wl_nil (q_n (k15 _ _ ?_))
 refine sx_condP rfl (fun h13 => ?_) (fun h13 => ?_)
 ·
  refine sx_seq fun K18 k18 => sx_region ?_
  refine sx_pure rfl rfl rfl (px_build rfl (xbld31x  _)) ?_
  have f20 := fb4.ext cb8
  have f21 := f20.chg cw10 (by omega)
  have f22 := f21.ext c17
  refine sx_store (vs := [.bool false, (.slice none 0 0), .int .i64 0]) rfl rfl f22 rfl Try.sizeOf31 (Nat.le_of_ble_eq_true rfl) (one_cons rfl (one_cons rfl (one_cons rfl one_nil))) (fun w19 sw19 fw19 cw19 => ?_)
  have zw19 := cw19.size
  have gw19 : Blk w19 b4 [.bool false, (.slice none 0 0), .int .i64 0] 31 := fw19
  refine sa rfl rfl rfl rfl ?_
  refine wl_nil (q_n (k18 _ _ ?_))
  refine sx_retc ?_
  refine q_r (sx_ret2 Try.results66 ⟨_, rfl, gw19.loadA (vs := [.bool false, (.slice none 0 0), .int .i64 0]) (look_lit rfl) Try.isAgg31 Try.sizeOf31⟩ rfl ?_)
  rw [decR_no (by first | exact h13 | assumption)]
  have q23 := Chg.step (l := 0) (h := 0) (Chg.zero (l := 0) (h := 0) ((cb2.t cb4).t cb8)) cw10 (by omega)
  have q24 := Chg.step (l := 0) (h := 0) q23 c17 (by omega)
  have q25 := Chg.step (l := 0) (h := 0) q24 cw19 (by omega)
  exact ⟨_, rfl, Own.nil _ _ _ _ _, q25⟩
 ·
  refine sx_skip ?_
  refine q_n (k14 _ _ ?_)
  refine sx_seq fun K26 k26 => sx_region ?_
  have f27 := gw10.ext c17
  refine sx_pure rfl rfl rfl (px_load rfl (f27.loadA (vs := [.bool (ng x), va, .int .i64 p]) (look_lit rfl) Try.isAgg31 Try.sizeOf31)) ?_
  have f29 := fb4.ext cb8
  have f30 := f29.chg cw10 (by omega)
  have f31 := f30.ext c17
  have f32 := f16.ext c17
  refine sx_store (vs := [.bool (ng x), va, .int .i64 p]) rfl rfl f31 rfl Try.sizeOf31 (Nat.le_of_ble_eq_true rfl) (one_cons rfl (one_cons f32.one (one_cons rfl one_nil))) (fun w28 sw28 fw28 cw28 => ?_)
  have zw28 := cw28.size
  have gw28 : Blk w28 b4 [.bool (ng x), va, .int .i64 p] 31 := fw28
  refine sa rfl rfl rfl rfl ?_
  refine wl_nil (q_n (k26 _ _ ?_))
  refine sx_retc ?_
  refine sx_ret2 Try.results66 ⟨_, rfl, gw28.loadA (vs := [.bool (ng x), va, .int .i64 p]) (look_lit rfl) Try.isAgg31 Try.sizeOf31⟩ rfl ?_
  rw [decR_ok (by first | exact h13 | exact Decidable.not_not.1 h13)]
  have q33 := Chg.step (l := 0) (h := 0) (Chg.zero (l := 0) (h := 0) ((cb2.t cb4).t cb8)) cw10 (by omega)
  have q34 := Chg.step (l := 0) (h := 0) q33 c17 (by omega)
  have q35 := Chg.step (l := 0) (h := 0) q34 cw28 (by omega)
  have f36 := f32.chg cw28 (by omega)
  exact ⟨_, rfl, (Own.mono f36 (by omega) (by omega)), q35⟩

end Go.Proofs.Yteiifmkclokgnaa
