/- Contracts of functions of the program: what each call returns, and that it changes nothing that was. Conditions: as each says. -/
import Derived.Test.YteiifmkclokgnaaTy
import Derived.Test.YteiifmkclokgnaaNatC
set_option linter.unusedVariables false
set_option linter.unusedSimpArgs false
namespace Go.Proofs.Yteiifmkclokgnaa
open Go Go.RowKit
set_option maxRecDepth 100000
theorem c_szIntS {w : World} {va : Value} {lva uva : Nat} {zs : List Int} {n : Int} (hva : Sl w lva uva va (zs)) (bzs : zs.length ≤ 9223372036854775807) (hn : 0 ≤ n ∧ n ≤ 1048576) :
    Ret Try.prog 74 [va, .int .i64 n] w fun v w' => ∃ r, v = .int .i64 (r) ∧ (r < 0 ∨ (0 ≤ r ∧ r = n - (zs).length)) ∧ Chg 0 0 w w' := by
  have hva0 := hva.fit
  refine sx_enter Try.func74 rfl Try.ntmps74 (Nat.le_of_ble_eq_true rfl) ?_
  refine sx_seq fun K1 k1 => ?_
  refine sx_region ?_
  refine sx_pure rfl rfl rfl (px_assign rfl) ?_
  refine wl_nil ?_
  refine q_n (k1 _ _ ?_)
  refine sx_seq fun K2 k2 => ?_
  refine sx_region ?_
  refine sx_pure rfl rfl rfl (px_move rfl) ?_
  refine sx_pure rfl rfl rfl (px_move rfl) ?_
  refine sx_pure rfl rfl rfl (px_len rfl Try.underlying22 hva0) ?_
  refine sx_pure rfl rfl rfl (px_sub rfl rfl (by omega)) ?_
  refine sx_pure rfl rfl rfl (px_assign rfl) ?_
  refine wl_nil ?_
  refine q_n (k2 _ _ ?_)
  refine sx_seq fun K3 k3 => ?_
  refine sx_seq fun K4 k4 => ?_
  refine sx_region ?_
  refine sx_pure rfl rfl rfl (px_move rfl) ?_
  refine sx_pure rfl rfl rfl (px_lt rfl rfl) ?_
  refine wl_nil ?_
  refine q_n (k4 _ _ ?_)
  refine sx_condP rfl (fun h248 => ?_) (fun h248 => ?_)
  ·
    refine sx_seq fun K5 k5 => ?_
    refine sx_region ?_
    refine sx_pure rfl rfl rfl (px_assign rfl) ?_
    refine wl_nil ?_
    refine q_n (k5 _ _ ?_)
    refine sx_retc ?_
    refine q_r (sx_ret1 Try.results74 rfl ?_)
    exact ⟨_, rfl, by omega, (Chg.refl 0 0 _)⟩
  ·
    refine sx_skip ?_
    refine q_n (k3 _ _ ?_)
    refine sx_seq fun K6 k6 => ?_
    refine sx_region ?_
    refine sx_pure rfl rfl rfl (px_move rfl) ?_
    refine sx_pure rfl rfl rfl (px_assign rfl) ?_
    refine wl_nil ?_
    refine q_n (k6 _ _ ?_)
    refine sx_retc ?_
    refine sx_ret1 Try.results74 rfl ?_
    exact ⟨_, rfl, by omega, (Chg.refl 0 0 _)⟩

theorem c_szSigned {w : World} {n1 : Bool} {v1 : Value} {lv1 uv1 : Nat} {z1 : List Int} {n : Int} (hv1 : Sl w lv1 uv1 v1 (z1)) (bz1 : z1.length ≤ 9223372036854775807) (hn : 0 ≤ n ∧ n ≤ 1048576) :
    Ret Try.prog 40 [.agg #[.bool n1, v1], .int .i64 n] w fun v w' => ∃ r, v = .int .i64 (r) ∧ (r < 0 ∨ (0 ≤ r ∧ r = n - (z1).length)) ∧ Chg 0 0 w w' := by
  have hv10 := hv1.fit
  refine sx_enter Try.func40 rfl Try.ntmps40 (Nat.le_of_ble_eq_true rfl) ?_
  refine sx_seq fun K1 k1 => ?_
  refine sx_region ?_
  refine sx_box [.bool n1, v1] rfl rfl rfl (fun b2 w3 eb2 sb2 fb2 cb2 => ?_)
  have zw3 := cb2.size
  refine sx_pure rfl rfl rfl (px_assign rfl) ?_
  refine wl_nil ?_
  refine q_n (k1 _ _ ?_)
  refine sx_seq fun K4 k4 => ?_
  refine sx_region ?_
  refine sx_pure rfl rfl rfl (px_field rfl xfld24x1) ?_
  refine sx_pure rfl rfl rfl (px_load rfl (fb2.load1 rfl Try.isAgg22)) ?_
  refine sx_pure rfl rfl rfl (px_move rfl) ?_
  have f5 := hv10.ext cb2
  refine sx_call rfl rfl Try.call74 (c_szIntS f5 (by omega) (by omega)) (fun v6 w6 p6 => ?_)
  obtain ⟨r6, rfl, hr6, c6⟩ := p6
  have zw6 := c6.size
  refine sx_pure rfl rfl rfl (px_assign rfl) ?_
  refine wl_nil ?_
  refine q_n (k4 _ _ ?_)
  refine sx_seq fun K7 k7 => ?_
  refine sx_seq fun K8 k8 => ?_
  refine sx_region ?_
  refine sx_pure rfl rfl rfl (px_move rfl) ?_
  refine sx_pure rfl rfl rfl (px_lt rfl rfl) ?_
  refine wl_nil ?_
  refine q_n (k8 _ _ ?_)
  refine sx_condP rfl (fun h256 => ?_) (fun h256 => ?_)
  ·
    refine sx_seq fun K9 k9 => ?_
    refine sx_region ?_
    refine sx_pure rfl rfl rfl (px_assign rfl) ?_
    refine wl_nil ?_
    refine q_n (k9 _ _ ?_)
    refine sx_retc ?_
    refine q_r (sx_ret1 Try.results40 rfl ?_)
    have q10 := Chg.step (l := 0) (h := 0) cb2 c6 (by omega)
    exact ⟨_, rfl, by omega, q10⟩
  ·
    refine sx_skip ?_
    refine q_n (k7 _ _ ?_)
    refine sx_seq fun K11 k11 => ?_
    refine sx_region ?_
    refine sx_pure rfl rfl rfl (px_move rfl) ?_
    refine sx_pure rfl rfl rfl (px_assign rfl) ?_
    refine wl_nil ?_
    refine q_n (k11 _ _ ?_)
    refine sx_retc ?_
    refine sx_ret1 Try.results40 rfl ?_
    have q12 := Chg.step (l := 0) (h := 0) cb2 c6 (by omega)
    exact ⟨_, rfl, by omega, q12⟩

theorem c_szDec {w : World} {n1 : Bool} {v1 : Value} {lv1 uv1 : Nat} {z1 : List Int} {p1 : Int} {n : Int} (hv1 : Sl w lv1 uv1 v1 (z1)) (bz1 : z1.length ≤ 9223372036854775807) (hn : 0 ≤ n ∧ n ≤ 1048576) :
    Ret Try.prog 15 [.agg #[.bool n1, v1, .int .i64 p1], .int .i64 n] w fun v w' => ∃ r, v = .int .i64 (r) ∧ (r < 0 ∨ (0 ≤ r ∧ r = n - (z1).length)) ∧ Chg 0 0 w w' := by
  have hv10 := hv1.fit
  refine sx_enter Try.func15 rfl Try.ntmps15 (Nat.le_of_ble_eq_true rfl) ?_
  refine sx_seq fun K1 k1 => ?_
  refine sx_region ?_
  refine sx_box [.bool n1, v1, .int .i64 p1] rfl rfl rfl (fun b2 w3 eb2 sb2 fb2 cb2 => ?_)
  have zw3 := cb2.size
  refine sx_pure rfl rfl rfl (px_assign rfl) ?_
  refine wl_nil ?_
  refine q_n (k1 _ _ ?_)
  refine sx_seq fun K4 k4 => ?_
  refine sx_region ?_
  refine sx_pure rfl rfl rfl (px_field rfl xfld26x0) ?_
  refine sx_pure rfl rfl rfl (px_load rfl (fb2.loadA (vs := [.bool n1, v1]) (look_lit rfl) Try.isAgg24 Try.sizeOf24)) ?_
  refine sx_pure rfl rfl rfl (px_move rfl) ?_
  have f5 := hv10.ext cb2
  refine sx_call rfl rfl Try.call40 (c_szSigned f5 (by omega) (by omega)) (fun v6 w6 p6 => ?_)
  obtain ⟨r6, rfl, hr6, c6⟩ := p6
  have zw6 := c6.size
  refine sx_pure rfl rfl rfl (px_assign rfl) ?_
  refine wl_nil ?_
  refine q_n (k4 _ _ ?_)
  refine sx_seq fun K7 k7 => ?_
  refine sx_seq fun K8 k8 => ?_
  refine sx_region ?_
  refine sx_pure rfl rfl rfl (px_move rfl) ?_
  refine sx_pure rfl rfl rfl (px_lt rfl rfl) ?_
  refine wl_nil ?_
  refine q_n (k8 _ _ ?_)
  refine sx_condP rfl (fun h398 => ?_) (fun h398 => ?_)
  ·
    refine sx_seq fun K9 k9 => ?_
    refine sx_region ?_
    refine sx_pure rfl rfl rfl (px_assign rfl) ?_
    refine wl_nil ?_
    refine q_n (k9 _ _ ?_)
    refine sx_retc ?_
    refine q_r (sx_ret1 Try.results15 rfl ?_)
    have q10 := Chg.step (l := 0) (h := 0) cb2 c6 (by omega)
    exact ⟨_, rfl, by omega, q10⟩
  ·
    refine sx_skip ?_
    refine q_n (k7 _ _ ?_)
    refine sx_seq fun K11 k11 => ?_
    refine sx_region ?_
    refine sx_pure rfl rfl rfl (px_move rfl) ?_
    refine sx_pure rfl rfl rfl (px_assign rfl) ?_
    refine wl_nil ?_
    refine q_n (k11 _ _ ?_)
    refine sx_retc ?_
    refine sx_ret1 Try.results15 rfl ?_
    have q12 := Chg.step (l := 0) (h := 0) cb2 c6 (by omega)
    exact ⟨_, rfl, by omega, q12⟩

theorem c_toIntS {w : World} {va : Value} {lva uva : Nat} {zs : List Int} (hva : Sl w lva uva va (zs)) (h63 : zs.length ≤ 1048576) :
    Ret Try.prog 43 [va] w fun v w' => ∃ s, v = s ∧ OwnI w' w.heap.size w'.heap.size s intT (zs) ∧ Chg 0 0 w w' := by
  have hva0 := hva.fit
  refine sx_enter Try.func43 rfl Try.ntmps43 (Nat.le_of_ble_eq_true rfl) ?_
  refine sx_seq fun K1 k1 => ?_
  refine sx_region ?_
  refine sx_pure rfl rfl rfl (px_assign rfl) ?_
  refine wl_nil ?_
  refine q_n (k1 _ _ ?_)
  refine sx_seq fun K2 k2 => ?_
  refine sx_region ?_
  refine sx_pure rfl rfl rfl (px_move rfl) ?_
  refine sx_pure rfl rfl rfl (px_len rfl Try.underlying22 hva0) ?_
  refine sx_make (c := (zs).length) rfl xelt22 (rfl) (rfl) (by omega) (by unfold maxLen; omega) (fun s3 ws3 fs3 cs3 ls3 => ?_)
  have ns3 := fs3.made
  have zws3 := cs3.size
  refine sx_pure rfl rfl rfl (px_assign rfl) ?_
  refine wl_nil ?_
  refine q_n (k2 _ _ ?_)
  refine sx_seq fun K4 k4 => ?_
  refine sx_seq fun K5 k5 => ?_
  refine sx_region ?_
  refine sx_pure rfl rfl rfl (px_assign rfl) ?_
  refine wl_nil ?_
  refine q_n (k5 _ _ ?_)
  refine sx_block ?_
  refine sx_loop (fun mm aa w' => ∃ (k : Nat) (os : List Int), Agr 22 [(0, va), (3, s3), (4, .int .i64 ↑k)] aa ∧ Chg w.heap.size ws3.heap.size ws3 w' ∧ Own w' w.heap.size ws3.heap.size s3 3 os.length 1 (os.map (Value.int .i64)) ∧ (mm = zs.length - k) ∧ (k ≤ zs.length) ∧ (os.length = zs.length) ∧ (os.take k = zs.take k)) (_) (fun a ha => ⟨0, List.replicate zs.length 0, ha.sub (Sub.cons (t := 0) rfl (.cons (t := 3) rfl (.cons (t := 4) (look_int (t := 4) rfl (by first | omega | simp)) (.nil)))), Chg.refl _ _ _, (ns3.mono (by omega) (by omega)), rfl, by omega, by simp, by simp⟩) ?_
  rintro mm aa wl6 ⟨k, os, hAwl6, cwl6, hs_s3, hm, hk, ho, he⟩
  refine (show cw Try.prog 22 _ _ _ wl6 from ?_) aa hAwl6
  clear hAwl6
  have zwl6 := cwl6.size
  refine sx_seq fun K7 k7 => ?_
  refine sx_seq fun K8 k8 => ?_
  refine sx_region ?_
  refine sx_pure rfl rfl rfl (px_move rfl) ?_
  refine sx_pure rfl rfl rfl (px_move rfl) ?_
  have f9 := hva0.ext cs3
  have f10 := f9.chg cwl6 (by omega)
  refine sx_pure rfl rfl rfl (px_len rfl Try.underlying22 f10) ?_
  refine sx_pure rfl rfl rfl (px_lt rfl rfl) ?_
  refine wl_nil ?_
  refine q_n (k8 _ _ ?_)
  refine sx_condP rfl (fun h203 => ?_) (fun h203 => ?_)
  ·
    refine sx_skip ?_
    refine q_n (k7 _ _ ?_)
    refine sx_seq fun K11 k11 => ?_
    refine sx_block ?_
    refine sx_region ?_
    refine sx_pure rfl rfl rfl (px_move rfl) ?_
    refine sx_pure rfl rfl rfl (px_move rfl) ?_
    refine sx_pure rfl rfl rfl (px_move rfl) ?_
    refine sx_pure rfl rfl rfl (px_move rfl) ?_
    refine sx_pure rfl rfl rfl (px_index1 (j := k) rfl rfl (by omega) Try.underlying22 Try.sizeOf3 f10 (by omega)) ?_
    refine sx_pure rfl rfl rfl (px_load rfl (f10.load1 (at_int (by omega)) Try.isAgg3)) ?_
    refine sx_pure rfl rfl rfl (px_index1 (j := k) rfl rfl (by omega) Try.underlying22 Try.sizeOf3 hs_s3.sv (by omega)) ?_
    refine sx_storeO rfl rfl hs_s3 (by simp only [List.length_map]; omega) Try.sizeOf3 rfl (fun w12 sw12 fw12 cw12 => ?_)
    have zw12 := cw12.size
    have nw12 := fw12.set
    refine wl_nil ?_
    refine q_bn (q_n (k11 _ _ ?_))
    refine sx_region ?_
    refine sx_pure rfl rfl rfl (px_move rfl) ?_
    refine sx_pure rfl rfl rfl (px_add rfl rfl (by omega)) ?_
    refine sx_pure rfl rfl rfl (px_assign rfl) ?_
    refine wl_nil ?_
    have q13 := Chg.step (l := w.heap.size) (h := ws3.heap.size) cwl6 cw12 (by omega)
    exact fun a ha => ⟨_, by omega, (k + 1), (os.set k (zs.getD k 0)), ha.sub (Sub.cons (t := 0) rfl (.cons (t := 3) rfl (.cons (t := 4) (look_int (t := 4) rfl (by first | omega | simp)) (.nil)))), q13, (nw12.mono (by omega) (by omega)), rfl, by omega, by simp [ho], take_set_succ he (by omega) (by omega)⟩
  ·
    refine sx_exit ?_
    refine q_e (q_e (q_bx (q_n (k4 _ _ ?_))))
    refine sx_seq fun K14 k14 => ?_
    refine sx_region ?_
    refine sx_pure rfl rfl rfl (px_move rfl) ?_
    refine sx_pure rfl rfl rfl (px_assign rfl) ?_
    refine wl_nil ?_
    refine q_n (k14 _ _ ?_)
    refine sx_retc ?_
    refine sx_ret1 Try.results43 rfl ?_
    have e1 : k = zs.length := by omega
    rw [e1, List.take_length, List.take_of_length_le (by omega)] at he
    subst he
    have q15 := Chg.step (l := 0) (h := 0) cs3 cwl6 (by omega)
    exact ⟨_, rfl, Own.mono hs_s3 (by omega) (by omega), q15⟩

theorem c_toSigned {w : World} {n1 : Bool} {v1 : Value} {lv1 uv1 : Nat} {z1 : List Int} (hv1 : Sl w lv1 uv1 v1 (z1)) (bz1 : z1.length ≤ 1048576) :
    Ret Try.prog 42 [.agg #[.bool n1, v1]] w fun v w' => ∃ s1, v = .agg #[.bool (n1), s1] ∧ OwnI w' w.heap.size w'.heap.size s1 intT (z1) ∧ Chg 0 0 w w' := by
  have hv10 := hv1.fit
  refine sx_enter Try.func42 rfl Try.ntmps42 (Nat.le_of_ble_eq_true rfl) ?_
  refine sx_seq fun K1 k1 => ?_
  refine sx_region ?_
  refine sx_box [.bool n1, v1] rfl rfl rfl (fun b2 w3 eb2 sb2 fb2 cb2 => ?_)
  have zw3 := cb2.size
  refine sx_alloc [.bool false, (.slice none 0 0)] rfl Try.zeroValue29 rfl (fun b4 w5 eb4 sb4 fb4 cb4 => ?_)
  have zw5 := cb4.size
  refine wl_nil ?_
  refine q_n (k1 _ _ ?_)
  refine sx_seq fun K6 k6 => ?_
  refine sx_region ?_
  refine sx_alloc [.bool false, (.slice none 0 0)] rfl Try.zeroValue29 rfl (fun b7 w8 eb7 sb7 fb7 cb7 => ?_)
  have zw8 := cb7.size
  refine wl_nil ?_
  refine q_n (k6 _ _ ?_)
  refine sx_seq fun K9 k9 => ?_
  refine sx_region ?_
  refine sx_pure rfl rfl rfl (px_field rfl xfld24x0) ?_
  have f10 := fb2.ext cb4
  have f11 := f10.ext cb7
  refine sx_pure rfl rfl rfl (px_load rfl (f11.load1 rfl Try.isAgg4)) ?_
  refine sx_pure rfl rfl rfl (px_field rfl xfld29x0) ?_
  refine sx_store (vs := [.bool n1]) rfl rfl fb7 rfl Try.sizeOf4 (Nat.le_of_ble_eq_true rfl) (one_cons rfl one_nil) (fun w12 sw12 fw12 cw12 => ?_)
  have zw12 := cw12.size
  have gw12 : Blk w12 b7 [.bool n1, (.slice none 0 0)] 29 := fw12
  refine wl_nil ?_
  refine q_n (k9 _ _ ?_)
  refine sx_seq fun K13 k13 => ?_
  refine sx_region ?_
  refine sx_pure rfl rfl rfl (px_field rfl xfld24x1) ?_
  have f14 := f11.chg cw12 (by omega)
  refine sx_pure rfl rfl rfl (px_load rfl (f14.load1 rfl Try.isAgg22)) ?_
  have f15 := hv10.ext cb2
  have f16 := f15.ext cb4
  have f17 := f16.ext cb7
  have f18 := f17.chg cw12 (by omega)
  refine sx_call rfl rfl Try.call43 (c_toIntS f18 (by omega)) (fun v19 w19 p19 => ?_)
  obtain ⟨s19, rfl, os_19, c19⟩ := p19
  have zw19 := c19.size
  refine sx_pure rfl rfl rfl (px_field rfl xfld29x1) ?_
  have f21 := gw12.ext c19
  refine sx_store (vs := [v19]) rfl rfl f21 (cells_one os_19.one) Try.sizeOf22 (Nat.le_of_ble_eq_true rfl) (one_cons os_19.one one_nil) (fun w20 sw20 fw20 cw20 => ?_)
  have zw20 := cw20.size
  have gw20 : Blk w20 b7 [.bool n1, v19] 29 := fw20
  refine wl_nil ?_
  refine q_n (k13 _ _ ?_)
  refine sx_seq fun K22 k22 => ?_
  refine sx_region ?_
  refine sx_pure rfl rfl rfl (px_load rfl (gw20.loadA (vs := [.bool n1, v19]) (look_lit rfl) Try.isAgg29 Try.sizeOf29)) ?_
  have f24 := fb4.ext cb7
  have f25 := f24.chg cw12 (by omega)
  have f26 := f25.ext c19
  have f27 := f26.chg cw20 (by omega)
  have f28 := os_19.chg cw20 (by omega)
  refine sx_store (vs := [.bool n1, v19]) rfl rfl f27 rfl Try.sizeOf29 (Nat.le_of_ble_eq_true rfl) (one_cons rfl (one_cons f28.one one_nil)) (fun w23 sw23 fw23 cw23 => ?_)
  have zw23 := cw23.size
  have gw23 : Blk w23 b4 [.bool n1, v19] 29 := fw23
  refine wl_nil ?_
  refine q_n (k22 _ _ ?_)
  refine sx_retc ?_
  refine sx_ret1 Try.results42 ⟨_, rfl, gw23.loadA (vs := [.bool n1, v19]) (look_lit rfl) Try.isAgg29 Try.sizeOf29⟩ ?_
  have q29 := Chg.step (l := 0) (h := 0) cb2 cb4 (by omega)
  have q30 := Chg.step (l := 0) (h := 0) q29 cb7 (by omega)
  have q31 := Chg.step (l := 0) (h := 0) q30 cw12 (by omega)
  have q32 := Chg.step (l := 0) (h := 0) q31 c19 (by omega)
  have q33 := Chg.step (l := 0) (h := 0) q32 cw20 (by omega)
  have q34 := Chg.step (l := 0) (h := 0) q33 cw23 (by omega)
  have f35 := f28.chg cw23 (by omega)
  exact ⟨_, rfl, Own.mono f35 (by omega) (by omega), q34⟩

theorem c_toDec {w : World} {n1 : Bool} {v1 : Value} {lv1 uv1 : Nat} {z1 : List Int} {p1 : Int} (hv1 : Sl w lv1 uv1 v1 (z1)) (bz1 : z1.length ≤ 1048576) :
    Ret Try.prog 17 [.agg #[.bool n1, v1, .int .i64 p1]] w fun v w' => ∃ s1, v = .agg #[.bool (n1), s1, .int .i64 (p1)] ∧ OwnI w' w.heap.size w'.heap.size s1 intT (z1) ∧ Chg 0 0 w w' := by
  have hv10 := hv1.fit
  refine sx_enter Try.func17 rfl Try.ntmps17 (Nat.le_of_ble_eq_true rfl) ?_
  refine sx_seq fun K1 k1 => ?_
  refine sx_region ?_
  refine sx_box [.bool n1, v1, .int .i64 p1] rfl rfl rfl (fun b2 w3 eb2 sb2 fb2 cb2 => ?_)
  have zw3 := cb2.size
  refine sx_alloc [.bool false, (.slice none 0 0), .int .i64 0] rfl Try.zeroValue31 rfl (fun b4 w5 eb4 sb4 fb4 cb4 => ?_)
  have zw5 := cb4.size
  refine wl_nil ?_
  refine q_n (k1 _ _ ?_)
  refine sx_seq fun K6 k6 => ?_
  refine sx_region ?_
  refine sx_alloc [.bool false, (.slice none 0 0), .int .i64 0] rfl Try.zeroValue31 rfl (fun b7 w8 eb7 sb7 fb7 cb7 => ?_)
  have zw8 := cb7.size
  refine wl_nil ?_
  refine q_n (k6 _ _ ?_)
  refine sx_seq fun K9 k9 => ?_
  refine sx_region ?_
  refine sx_pure rfl rfl rfl (px_field rfl xfld26x0) ?_
  have f10 := fb2.ext cb4
  have f11 := f10.ext cb7
  refine sx_pure rfl rfl rfl (px_load rfl (f11.loadA (vs := [.bool n1, v1]) (look_lit rfl) Try.isAgg24 Try.sizeOf24)) ?_
  have f12 := hv10.ext cb2
  have f13 := f12.ext cb4
  have f14 := f13.ext cb7
  refine sx_call rfl rfl Try.call42 (c_toSigned f14 (by omega)) (fun v15 w15 p15 => ?_)
  obtain ⟨s115, rfl, os1_15, c15⟩ := p15
  have zw15 := c15.size
  refine sx_pure rfl rfl rfl (px_field rfl xfld31x0) ?_
  have f17 := fb7.ext c15
  refine sx_store (vs := [.bool n1, s115]) rfl rfl f17 rfl Try.sizeOf29 (Nat.le_of_ble_eq_true rfl) (one_cons rfl (one_cons os1_15.one one_nil)) (fun w16 sw16 fw16 cw16 => ?_)
  have zw16 := cw16.size
  have gw16 : Blk w16 b7 [.bool n1, s115, .int .i64 0] 31 := fw16
  refine wl_nil ?_
  refine q_n (k9 _ _ ?_)
  refine sx_seq fun K18 k18 => ?_
  refine sx_region ?_
  refine sx_pure rfl rfl rfl (px_field rfl xfld26x1) ?_
  have f19 := f11.ext c15
  have f20 := f19.chg cw16 (by omega)
  refine sx_pure rfl rfl rfl (px_load rfl (f20.load1 rfl Try.isAgg3)) ?_
  refine sx_pure rfl rfl rfl (px_field rfl xfld31x1) ?_
  refine sx_store (vs := [.int .i64 p1]) rfl rfl gw16 rfl Try.sizeOf3 (Nat.le_of_ble_eq_true rfl) (one_cons rfl one_nil) (fun w21 sw21 fw21 cw21 => ?_)
  have zw21 := cw21.size
  have gw21 : Blk w21 b7 [.bool n1, s115, .int .i64 p1] 31 := fw21
  refine wl_nil ?_
  refine q_n (k18 _ _ ?_)
  refine sx_seq fun K22 k22 => ?_
  refine sx_region ?_
  refine sx_pure rfl rfl rfl (px_load rfl (gw21.loadA (vs := [.bool n1, s115, .int .i64 p1]) (look_lit rfl) Try.isAgg31 Try.sizeOf31)) ?_
  have f24 := fb4.ext cb7
  have f25 := f24.ext c15
  have f26 := f25.chg cw16 (by omega)
  have f27 := f26.chg cw21 (by omega)
  have f28 := os1_15.chg cw16 (by omega)
  have f29 := f28.chg cw21 (by omega)
  refine sx_store (vs := [.bool n1, s115, .int .i64 p1]) rfl rfl f27 rfl Try.sizeOf31 (Nat.le_of_ble_eq_true rfl) (one_cons rfl (one_cons f29.one (one_cons rfl one_nil))) (fun w23 sw23 fw23 cw23 => ?_)
  have zw23 := cw23.size
  have gw23 : Blk w23 b4 [.bool n1, s115, .int .i64 p1] 31 := fw23
  refine wl_nil ?_
  refine q_n (k22 _ _ ?_)
  refine sx_retc ?_
  refine sx_ret1 Try.results17 ⟨_, rfl, gw23.loadA (vs := [.bool n1, s115, .int .i64 p1]) (look_lit rfl) Try.isAgg31 Try.sizeOf31⟩ ?_
  have q30 := Chg.step (l := 0) (h := 0) cb2 cb4 (by omega)
  have q31 := Chg.step (l := 0) (h := 0) q30 cb7 (by omega)
  have q32 := Chg.step (l := 0) (h := 0) q31 c15 (by omega)
  have q33 := Chg.step (l := 0) (h := 0) q32 cw16 (by omega)
  have q34 := Chg.step (l := 0) (h := 0) q33 cw21 (by omega)
  have q35 := Chg.step (l := 0) (h := 0) q34 cw23 (by omega)
  have f36 := f29.chg cw23 (by omega)
  exact ⟨_, rfl, Own.mono f36 (by omega) (by omega), q35⟩

theorem c_l01In {w : World} {n : Int} {lo : Int} {hi : Int} :
    Ret Try.prog 61 [.int .i64 n, .int .i64 lo, .int .i64 hi] w fun v w' => v = .bool (decide (lo ≤ n ∧ n ≤ hi)) ∧ Chg 0 0 w w' := by
  refine sx_enter Try.func61 rfl Try.ntmps61 (Nat.le_of_ble_eq_true rfl) ?_
  refine sx_seq fun K1 k1 => ?_
  refine sx_region ?_
  refine sx_pure rfl rfl rfl (px_assign rfl) ?_
  refine wl_nil ?_
  refine q_n (k1 _ _ ?_)
  refine sx_seq fun K2 k2 => ?_
  refine sx_region ?_
  refine sx_pure rfl rfl rfl (px_move rfl) ?_
  refine sx_pure rfl rfl rfl (px_move rfl) ?_
  refine sx_pure rfl rfl rfl (px_ge rfl rfl) ?_
  refine sx_pure rfl rfl rfl (px_move rfl) ?_
  refine sx_tmpP (t := 10) rfl (fun h5 => ?_) (fun h5 => ?_)
  ·
    refine sx_guardT rfl rfl rfl ?_
    refine sx_pure rfl rfl rfl (px_move rfl) ?_
    refine sx_guardT rfl rfl rfl ?_
    refine sx_pure rfl rfl rfl (px_move rfl) ?_
    refine sx_guardT rfl rfl rfl ?_
    refine sx_pure rfl rfl rfl (px_le rfl rfl) ?_
    refine sx_pure rfl rfl rfl (px_pick rfl rfl) ?_
    refine sx_pure rfl rfl rfl (px_assign rfl) ?_
    refine wl_nil ?_
    refine q_n (k2 _ _ ?_)
    refine sx_retc ?_
    refine sx_ret1 Try.results61 rfl ?_
    exact ⟨(by first | exact bIff (by omega) | exact bFalse (by omega) | exact bTrue (by omega)), (Chg.refl 0 0 _)⟩
  ·
    refine sx_guardF rfl rfl rfl rfl rfl rfl ?_
    refine sx_guardF rfl rfl rfl rfl rfl rfl ?_
    refine sx_guardF rfl rfl rfl rfl rfl rfl ?_
    refine sx_pure rfl rfl rfl (px_pick rfl rfl) ?_
    refine sx_pure rfl rfl rfl (px_assign rfl) ?_
    refine wl_nil ?_
    refine q_n (k2 _ _ ?_)
    refine sx_retc ?_
    refine sx_ret1 Try.results61 rfl ?_
    exact ⟨(by first | exact bIff (by omega) | exact bFalse (by omega) | exact bTrue (by omega)), (Chg.refl 0 0 _)⟩

theorem c_sNatOk {w : World} {va : Value} {lva uva : Nat} {zs : List Int} (hva : Sl w lva uva va (zs)) (h63 : zs.length ≤ 4611686018427387904) :
    Ret Try.prog 103 [va] w fun v w' => v = .bool (decide (NOk zs)) ∧ Chg 0 0 w w' := by
  have hva0 := hva.fit
  refine sx_enter Try.func103 rfl Try.ntmps103 (Nat.le_of_ble_eq_true rfl) ?_
  refine sx_seq fun K1 k1 => ?_
  refine sx_region ?_
  refine sx_pure rfl rfl rfl (px_assign rfl) ?_
  refine wl_nil ?_
  refine q_n (k1 _ _ ?_)
  refine sx_seq fun K2 k2 => ?_
  refine sx_seq fun K3 k3 => ?_
  refine sx_region ?_
  refine sx_pure rfl rfl rfl (px_move rfl) ?_
  refine sx_pure rfl rfl rfl (px_len rfl Try.underlying22 hva0) ?_
  refine sx_pure rfl rfl rfl (px_move rfl) ?_
  refine wl_nil ?_
  refine q_n (k3 _ _ ?_)
  refine sx_block ?_
  refine sx_loop (fun mm aa w' => ∃ (k : Nat), Agr 32 [(0, va), (5, va), (6, .int .i64 ↑zs.length), (7, .int .i64 ↑k)] aa ∧ Chg 0 0 w w' ∧ (mm = zs.length - k) ∧ (k ≤ zs.length) ∧ (∀ i, i < k → 0 ≤ zs.getD i 0 ∧ zs.getD i 0 < 1000000000)) (_) (fun a ha => ⟨0, ha.sub (Sub.cons (t := 0) rfl (.cons (t := 5) rfl (.cons (t := 6) (look_int (t := 6) rfl (by first | omega | simp)) (.cons (t := 7) (look_int (t := 7) rfl (by first | omega | simp)) (.nil))))), Chg.refl _ _ _, rfl, by omega, fun i h => by omega⟩) ?_
  rintro mm aa wl4 ⟨k, hAwl4, cwl4, hm, hk, hall⟩
  refine (show cw Try.prog 32 _ _ _ wl4 from ?_) aa hAwl4
  clear hAwl4
  have zwl4 := cwl4.size
  refine sx_seq fun K5 k5 => ?_
  refine sx_region ?_
  refine sx_pure rfl rfl rfl (px_lt rfl rfl) ?_
  refine wl_nil ?_
  refine q_n (k5 _ _ ?_)
  refine sx_seq fun K6 k6 => ?_
  refine sx_condP rfl (fun h7 => ?_) (fun h7 => ?_)
  ·
    refine sx_skip ?_
    refine q_n (k6 _ _ ?_)
    refine sx_seq fun K7 k7 => ?_
    refine sx_block ?_
    refine sx_seq fun K8 k8 => ?_
    refine sx_region ?_
    have f9 := hva0.ext cwl4
    refine sx_pure rfl rfl rfl (px_index1 (j := k) rfl rfl (by omega) Try.underlying22 Try.sizeOf3 f9 (by omega)) ?_
    refine sx_pure rfl rfl rfl (px_load rfl (f9.load1 (at_int (by omega)) Try.isAgg3)) ?_
    refine sx_pure rfl rfl rfl (px_assign rfl) ?_
    refine wl_nil ?_
    refine q_n (k8 _ _ ?_)
    refine sx_seq fun K10 k10 => ?_
    refine sx_region ?_
    refine sx_pure rfl rfl rfl (px_move rfl) ?_
    refine sx_call rfl rfl Try.call61 (c_l01In) (fun v11 w11 p11 => ?_)
    obtain ⟨rfl, c11⟩ := p11
    have zw11 := c11.size
    refine sx_pure rfl rfl rfl (px_notP rfl) ?_
    refine wl_nil ?_
    refine q_n (k10 _ _ ?_)
    refine sx_condP rfl (fun h8 => ?_) (fun h8 => ?_)
    ·
      refine sx_seq fun K12 k12 => ?_
      refine sx_region ?_
      refine sx_pure rfl rfl rfl (px_assign rfl) ?_
      refine wl_nil ?_
      refine q_n (k12 _ _ ?_)
      refine sx_retc ?_
      refine q_br (q_r (q_r (q_br (q_r (sx_ret1 Try.results103 rfl ?_)))))
      have q13 := Chg.step (l := 0) (h := 0) cwl4 c11 (by omega)
      exact ⟨bFalse (fun h => by have h1 := h.1.getD k; omega), q13⟩
    ·
      refine sx_skip ?_
      refine q_bn (q_n (k7 _ _ ?_))
      refine sx_region ?_
      refine sx_pure rfl rfl rfl (px_add rfl rfl (by omega)) ?_
      refine sx_pure rfl rfl rfl (px_move rfl) ?_
      refine wl_nil ?_
      have q14 := Chg.step (l := 0) (h := 0) cwl4 c11 (by omega)
      exact fun a ha => ⟨_, by omega, (k + 1), ha.sub (Sub.cons (t := 0) rfl (.cons (t := 5) rfl (.cons (t := 6) rfl (.cons (t := 7) (look_int (t := 7) rfl (by first | omega | simp)) (.nil))))), q14, rfl, by omega, lm_succ hall (by omega)⟩
  ·
    refine sx_exit ?_
    refine q_e (q_e (q_bx (q_n (k2 _ _ ?_))))
    refine sx_seq fun K15 k15 => ?_
    have ek : k = zs.length := by omega
    have hz : Lm zs := lm_mem (by rw [← ek]; exact hall)
    refine sx_region ?_
    refine sx_pure rfl rfl rfl (px_move rfl) ?_
    have f16 := hva0.ext cwl4
    refine sx_pure rfl rfl rfl (px_len rfl Try.underlying22 f16) ?_
    refine sx_pure rfl rfl rfl (px_le rfl rfl) ?_
    refine sx_pure rfl rfl rfl (px_move rfl) ?_
    refine sx_tmpP (t := 18) rfl (fun h12 => ?_) (fun h12 => ?_)
    ·
      refine sx_guardT rfl rfl rfl ?_
      refine sx_pure rfl rfl rfl (px_move rfl) ?_
      refine sx_guardT rfl rfl rfl ?_
      refine sx_pure rfl rfl rfl (px_len rfl Try.underlying22 f16) ?_
      refine sx_guardT rfl rfl rfl ?_
      refine sx_pure rfl rfl rfl (px_eq rfl rfl) ?_
      refine sx_guardT rfl rfl rfl ?_
      refine sx_pure rfl rfl rfl (px_move rfl) ?_
      refine sx_tmpP (t := 22) rfl (fun h12x1 => ?_) (fun h12x1 => ?_)
      ·
        refine sx_guardF rfl rfl rfl rfl rfl rfl ?_
        refine sx_guardF rfl rfl rfl rfl rfl rfl ?_
        refine sx_guardF rfl rfl rfl rfl rfl rfl ?_
        refine sx_guardF rfl rfl rfl rfl rfl rfl ?_
        refine sx_guardF rfl rfl rfl rfl rfl rfl ?_
        refine sx_guardF rfl rfl rfl rfl rfl rfl ?_
        refine sx_guardF rfl rfl rfl rfl rfl rfl ?_
        refine sx_guardT rfl rfl rfl ?_
        refine sx_pure rfl rfl rfl (px_pick rfl rfl) ?_
        refine sx_pure rfl rfl rfl (px_pick rfl rfl) ?_
        refine sx_pure rfl rfl rfl (px_assign rfl) ?_
        refine wl_nil ?_
        refine q_n (k15 _ _ ?_)
        refine sx_sub (Sub.cons (t := 2) rfl (.nil)) ?_
        refine sx_retc ?_
        refine sx_ret1 Try.results103 rfl ?_
        exact ⟨(by first | exact bFalse (fun h => by have h1 := h.2.1; omega) | exact bTrue (NOk_mk hz (by omega) (.inl (by omega))) | exact bIff (NOk_iff hz (by omega) (by omega))), cwl4⟩
      ·
        refine sx_guardT rfl rfl rfl ?_
        refine sx_pure rfl rfl rfl (px_move rfl) ?_
        refine sx_guardT rfl rfl rfl ?_
        refine sx_pure rfl rfl rfl (px_move rfl) ?_
        refine sx_guardT rfl rfl rfl ?_
        refine sx_pure rfl rfl rfl (px_len rfl Try.underlying22 f16) ?_
        refine sx_guardT rfl rfl rfl ?_
        refine sx_pure rfl rfl rfl (px_sub rfl rfl (by omega)) ?_
        refine sx_guardT rfl rfl rfl ?_
        refine sx_pure rfl rfl rfl (px_index1 (j := (zs.length - 1)) rfl rfl (by omega) Try.underlying22 Try.sizeOf3 f16 (by omega)) ?_
        refine sx_guardT rfl rfl rfl ?_
        refine sx_pure rfl rfl rfl (px_load rfl (f16.load1 (at_int (by omega)) Try.isAgg3)) ?_
        refine sx_guardT rfl rfl rfl ?_
        refine sx_pure rfl rfl rfl (px_ne rfl rfl) ?_
        refine sx_guardT rfl rfl rfl ?_
        refine sx_pure rfl rfl rfl (px_pick rfl rfl) ?_
        refine sx_pure rfl rfl rfl (px_pick rfl rfl) ?_
        refine sx_pure rfl rfl rfl (px_assign rfl) ?_
        refine wl_nil ?_
        refine q_n (k15 _ _ ?_)
        refine sx_sub (Sub.cons (t := 2) rfl (.nil)) ?_
        refine sx_retc ?_
        refine sx_ret1 Try.results103 rfl ?_
        exact ⟨(by first | exact bFalse (fun h => by have h1 := h.2.1; omega) | exact bTrue (NOk_mk hz (by omega) (.inl (by omega))) | exact bIff (NOk_iff hz (by omega) (by omega))), cwl4⟩
    ·
      refine sx_guardF rfl rfl rfl rfl rfl rfl ?_
      refine sx_guardF rfl rfl rfl rfl rfl rfl ?_
      refine sx_guardF rfl rfl rfl rfl rfl rfl ?_
      refine sx_guardF rfl rfl rfl rfl rfl rfl ?_
      refine sx_guardFU rfl rfl rfl rfl rfl ?_
      refine sx_guardFU rfl rfl rfl rfl rfl ?_
      refine sx_guardFU rfl rfl rfl rfl rfl ?_
      refine sx_guardFU rfl rfl rfl rfl rfl ?_
      refine sx_guardFU rfl rfl rfl rfl rfl ?_
      refine sx_guardFU rfl rfl rfl rfl rfl ?_
      refine sx_guardFU rfl rfl rfl rfl rfl ?_
      refine sx_guardF rfl rfl rfl rfl rfl rfl ?_
      refine sx_pure rfl rfl rfl (px_pick rfl rfl) ?_
      refine sx_pure rfl rfl rfl (px_assign rfl) ?_
      refine wl_nil ?_
      refine q_n (k15 _ _ ?_)
      refine sx_sub (Sub.cons (t := 2) rfl (.nil)) ?_
      refine sx_retc ?_
      refine sx_ret1 Try.results103 rfl ?_
      exact ⟨(by first | exact bFalse (fun h => by have h1 := h.2.1; omega) | exact bTrue (NOk_mk hz (by omega) (.inl (by omega))) | exact bIff (NOk_iff hz (by omega) (by omega))), cwl4⟩

theorem c_sIntOk {w : World} {n1 : Bool} {v1 : Value} {lv1 uv1 : Nat} {z1 : List Int} (hv1 : Sl w lv1 uv1 v1 (z1)) (h63 : z1.length ≤ 4611686018427387904) :
    Ret Try.prog 60 [.agg #[.bool n1, v1]] w fun v w' => v = .bool (decide (IOk n1 z1)) ∧ Chg 0 0 w w' := by
  have hv10 := hv1.fit
  refine sx_enter Try.func60 rfl Try.ntmps60 (Nat.le_of_ble_eq_true rfl) ?_
  refine sx_seq fun K1 k1 => ?_
  refine sx_region ?_
  refine sx_box [.bool n1, v1] rfl rfl rfl (fun b2 w3 eb2 sb2 fb2 cb2 => ?_)
  have zw3 := cb2.size
  refine sx_pure rfl rfl rfl (px_assign rfl) ?_
  refine wl_nil ?_
  refine q_n (k1 _ _ ?_)
  refine sx_seq fun K4 k4 => ?_
  refine sx_region ?_
  refine sx_pure rfl rfl rfl (px_field rfl xfld29x1) ?_
  refine sx_pure rfl rfl rfl (px_load rfl (fb2.load1 rfl Try.isAgg22)) ?_
  have f5 := hv10.ext cb2
  refine sx_call rfl rfl Try.call103 (c_sNatOk f5 (by omega)) (fun v6 w6 p6 => ?_)
  obtain ⟨rfl, c6⟩ := p6
  have zw6 := c6.size
  refine sx_pure rfl rfl rfl (px_move rfl) ?_
  refine sx_tmpP (t := 6) rfl (fun h6 => ?_) (fun h6 => ?_)
  ·
    refine sx_guardT rfl rfl rfl ?_
    refine sx_pure rfl rfl rfl (px_field rfl xfld29x0) ?_
    refine sx_guardT rfl rfl rfl ?_
    have f7 := fb2.ext c6
    refine sx_pure rfl rfl rfl (px_load rfl (f7.load1 rfl Try.isAgg4)) ?_
    refine sx_guardT rfl rfl rfl ?_
    refine sx_pure rfl rfl rfl (px_not rfl) ?_
    refine sx_guardT rfl rfl rfl ?_
    refine sx_pure rfl rfl rfl (px_move rfl) ?_
    refine sx_tmpB (t := 10) rfl (fun h6x1 => ?_) (fun h6x1 => ?_)
    ·
      refine sx_guardF rfl rfl rfl rfl rfl rfl ?_
      refine sx_guardF rfl rfl rfl rfl rfl rfl ?_
      refine sx_guardF rfl rfl rfl rfl rfl rfl ?_
      refine sx_guardF rfl rfl rfl rfl rfl rfl ?_
      refine sx_guardT rfl rfl rfl ?_
      refine sx_pure rfl rfl rfl (px_pick rfl rfl) ?_
      refine sx_pure rfl rfl rfl (px_pick rfl rfl) ?_
      refine sx_pure rfl rfl rfl (px_assign rfl) ?_
      refine wl_nil ?_
      refine q_n (k4 _ _ ?_)
      refine sx_sub (Sub.cons (t := 2) rfl (.nil)) ?_
      refine sx_retc ?_
      refine sx_ret1 Try.results60 rfl ?_
      have q8 := Chg.step (l := 0) (h := 0) cb2 c6 (by omega)
      exact ⟨(by first | exact bTrue (by grind [IOk]) | exact bFalse (by grind [IOk]) | exact bIff (by grind [IOk])), q8⟩
    ·
      refine sx_guardT rfl rfl rfl ?_
      refine sx_pure rfl rfl rfl (px_field rfl xfld29x1) ?_
      refine sx_guardT rfl rfl rfl ?_
      refine sx_pure rfl rfl rfl (px_load rfl (f7.load1 rfl Try.isAgg22)) ?_
      refine sx_guardT rfl rfl rfl ?_
      have f9 := f5.ext c6
      refine sx_pure rfl rfl rfl (px_len rfl Try.underlying22 f9) ?_
      refine sx_guardT rfl rfl rfl ?_
      refine sx_pure rfl rfl rfl (px_gt rfl rfl) ?_
      refine sx_guardT rfl rfl rfl ?_
      refine sx_pure rfl rfl rfl (px_pick rfl rfl) ?_
      refine sx_pure rfl rfl rfl (px_pick rfl rfl) ?_
      refine sx_pure rfl rfl rfl (px_assign rfl) ?_
      refine wl_nil ?_
      refine q_n (k4 _ _ ?_)
      refine sx_sub (Sub.cons (t := 2) rfl (.nil)) ?_
      refine sx_retc ?_
      refine sx_ret1 Try.results60 rfl ?_
      have q10 := Chg.step (l := 0) (h := 0) cb2 c6 (by omega)
      exact ⟨(by first | exact bTrue (by grind [IOk]) | exact bFalse (by grind [IOk]) | exact bIff (by grind [IOk])), q10⟩
  ·
    refine sx_guardF rfl rfl rfl rfl rfl rfl ?_
    refine sx_guardF rfl rfl rfl rfl rfl rfl ?_
    refine sx_guardF rfl rfl rfl rfl rfl rfl ?_
    refine sx_guardF rfl rfl rfl rfl rfl rfl ?_
    refine sx_guardFU rfl rfl rfl rfl rfl ?_
    refine sx_guardFU rfl rfl rfl rfl rfl ?_
    refine sx_guardFU rfl rfl rfl rfl rfl ?_
    refine sx_guardFU rfl rfl rfl rfl rfl ?_
    refine sx_guardF rfl rfl rfl rfl rfl rfl ?_
    refine sx_pure rfl rfl rfl (px_pick rfl rfl) ?_
    refine sx_pure rfl rfl rfl (px_assign rfl) ?_
    refine wl_nil ?_
    refine q_n (k4 _ _ ?_)
    refine sx_sub (Sub.cons (t := 2) rfl (.nil)) ?_
    refine sx_retc ?_
    refine sx_ret1 Try.results60 rfl ?_
    have q11 := Chg.step (l := 0) (h := 0) cb2 c6 (by omega)
    exact ⟨(by first | exact bTrue (by grind [IOk]) | exact bFalse (by grind [IOk]) | exact bIff (by grind [IOk])), q11⟩

theorem c_sDecOk {w : World} {n1 : Bool} {v1 : Value} {lv1 uv1 : Nat} {z1 : List Int} {p1 : Int} (hv1 : Sl w lv1 uv1 v1 (z1)) (h63 : z1.length ≤ 4611686018427387904) :
    Ret Try.prog 16 [.agg #[.bool n1, v1, .int .i64 p1]] w fun v w' => v = .bool (decide (DOk n1 z1 p1)) ∧ Chg 0 0 w w' := by
  have hv10 := hv1.fit
  refine sx_enter Try.func16 rfl Try.ntmps16 (Nat.le_of_ble_eq_true rfl) ?_
  refine sx_seq fun K1 k1 => ?_
  refine sx_region ?_
  refine sx_box [.bool n1, v1, .int .i64 p1] rfl rfl rfl (fun b2 w3 eb2 sb2 fb2 cb2 => ?_)
  have zw3 := cb2.size
  refine sx_pure rfl rfl rfl (px_assign rfl) ?_
  refine wl_nil ?_
  refine q_n (k1 _ _ ?_)
  refine sx_seq fun K4 k4 => ?_
  refine sx_region ?_
  refine sx_pure rfl rfl rfl (px_field rfl xfld31x0) ?_
  refine sx_pure rfl rfl rfl (px_load rfl (fb2.loadA (vs := [.bool n1, v1]) (look_lit rfl) Try.isAgg29 Try.sizeOf29)) ?_
  have f5 := hv10.ext cb2
  refine sx_call rfl rfl Try.call60 (c_sIntOk f5 (by omega)) (fun v6 w6 p6 => ?_)
  obtain ⟨rfl, c6⟩ := p6
  have zw6 := c6.size
  refine sx_pure rfl rfl rfl (px_move rfl) ?_
  refine sx_tmpP (t := 6) rfl (fun h7 => ?_) (fun h7 => ?_)
  ·
    refine sx_guardT rfl rfl rfl ?_
    refine sx_pure rfl rfl rfl (px_field rfl xfld31x0) ?_
    refine sx_guardT rfl rfl rfl ?_
    refine sx_pure rfl rfl rfl (px_field rfl xfld29x1) ?_
    refine sx_guardT rfl rfl rfl ?_
    have f7 := fb2.ext c6
    refine sx_pure rfl rfl rfl (px_load rfl (f7.load1 rfl Try.isAgg22)) ?_
    refine sx_guardT rfl rfl rfl ?_
    have f8 := f5.ext c6
    refine sx_pure rfl rfl rfl (px_len rfl Try.underlying22 f8) ?_
    refine sx_guardT rfl rfl rfl ?_
    refine sx_pure rfl rfl rfl (px_le rfl rfl) ?_
    refine sx_pure rfl rfl rfl (px_pick rfl rfl) ?_
    refine sx_pure rfl rfl rfl (px_move rfl) ?_
    refine sx_tmpP (t := 13) rfl (fun h7x1 => ?_) (fun h7x1 => ?_)
    ·
      refine sx_guardT rfl rfl rfl ?_
      refine sx_pure rfl rfl rfl (px_field rfl xfld31x1) ?_
      refine sx_guardT rfl rfl rfl ?_
      refine sx_pure rfl rfl rfl (px_load rfl (f7.load1 rfl Try.isAgg3)) ?_
      refine sx_guardT rfl rfl rfl ?_
      refine sx_call rfl rfl Try.call61 (c_l01In) (fun v9 w9 p9 => ?_)
      obtain ⟨rfl, c9⟩ := p9
      have zw9 := c9.size
      refine sx_pure rfl rfl rfl (px_pick rfl rfl) ?_
      refine sx_pure rfl rfl rfl (px_assign rfl) ?_
      refine wl_nil ?_
      refine q_n (k4 _ _ ?_)
      refine sx_sub (Sub.cons (t := 2) rfl (.nil)) ?_
      refine sx_retc ?_
      refine sx_ret1 Try.results16 rfl ?_
      have q10 := Chg.step (l := 0) (h := 0) cb2 c6 (by omega)
      have q11 := Chg.step (l := 0) (h := 0) q10 c9 (by omega)
      exact ⟨(by first | exact bTrue (by grind [DOk]) | exact bFalse (by grind [DOk]) | exact bIff (by grind [DOk])), q11⟩
    ·
      refine sx_guardF rfl rfl rfl rfl rfl rfl ?_
      refine sx_guardF rfl rfl rfl rfl rfl rfl ?_
      refine sx_guardF rfl rfl rfl rfl rfl rfl ?_
      refine sx_pure rfl rfl rfl (px_pick rfl rfl) ?_
      refine sx_pure rfl rfl rfl (px_assign rfl) ?_
      refine wl_nil ?_
      refine q_n (k4 _ _ ?_)
      refine sx_sub (Sub.cons (t := 2) rfl (.nil)) ?_
      refine sx_retc ?_
      refine sx_ret1 Try.results16 rfl ?_
      have q12 := Chg.step (l := 0) (h := 0) cb2 c6 (by omega)
      exact ⟨(by first | exact bTrue (by grind [DOk]) | exact bFalse (by grind [DOk]) | exact bIff (by grind [DOk])), q12⟩
  ·
    refine sx_guardF rfl rfl rfl rfl rfl rfl ?_
    refine sx_guardF rfl rfl rfl rfl rfl rfl ?_
    refine sx_guardF rfl rfl rfl rfl rfl rfl ?_
    refine sx_guardF rfl rfl rfl rfl rfl rfl ?_
    refine sx_guardF rfl rfl rfl rfl rfl rfl ?_
    refine sx_pure rfl rfl rfl (px_pick rfl rfl) ?_
    refine sx_pure rfl rfl rfl (px_move rfl) ?_
    refine sx_guardF rfl rfl rfl rfl rfl rfl ?_
    refine sx_guardF rfl rfl rfl rfl rfl rfl ?_
    refine sx_guardF rfl rfl rfl rfl rfl rfl ?_
    refine sx_pure rfl rfl rfl (px_pick rfl rfl) ?_
    refine sx_pure rfl rfl rfl (px_assign rfl) ?_
    refine wl_nil ?_
    refine q_n (k4 _ _ ?_)
    refine sx_sub (Sub.cons (t := 2) rfl (.nil)) ?_
    refine sx_retc ?_
    refine sx_ret1 Try.results16 rfl ?_
    have q13 := Chg.step (l := 0) (h := 0) cb2 c6 (by omega)
    exact ⟨(by first | exact bTrue (by grind [DOk]) | exact bFalse (by grind [DOk]) | exact bIff (by grind [DOk])), q13⟩

theorem c_iNatOk {w : World} {va : Value} {lva uva : Nat} {zs : List Int} (hva : Sl w lva uva va (zs)) (h63 : zs.length ≤ 4611686018427387904) :
    Ret Try.prog 104 [va] w fun v w' => v = .bool (decide (NOk zs)) ∧ Chg 0 0 w w' := by
  have hva0 := hva.fit
  refine sx_enter Try.func104 rfl Try.ntmps104 (Nat.le_of_ble_eq_true rfl) ?_
  refine sx_seq fun K1 k1 => ?_
  refine sx_region ?_
  refine sx_pure rfl rfl rfl (px_assign rfl) ?_
  refine wl_nil ?_
  refine q_n (k1 _ _ ?_)
  refine sx_seq fun K2 k2 => ?_
  refine sx_seq fun K3 k3 => ?_
  refine sx_region ?_
  refine sx_pure rfl rfl rfl (px_move rfl) ?_
  refine sx_pure rfl rfl rfl (px_len rfl Try.underlying22 hva0) ?_
  refine sx_pure rfl rfl rfl (px_gt rfl rfl) ?_
  refine sx_pure rfl rfl rfl (px_move rfl) ?_
  refine sx_tmpP (t := 8) rfl (fun h13 => ?_) (fun h13 => ?_)
  ·
    refine sx_guardF rfl rfl rfl rfl rfl rfl ?_
    refine sx_guardF rfl rfl rfl rfl rfl rfl ?_
    refine sx_guardF rfl rfl rfl rfl rfl rfl ?_
    refine sx_guardF rfl rfl rfl rfl rfl rfl ?_
    refine sx_guardFU rfl rfl rfl rfl rfl ?_
    refine sx_guardFU rfl rfl rfl rfl rfl ?_
    refine sx_guardFU rfl rfl rfl rfl rfl ?_
    refine sx_guardFU rfl rfl rfl rfl rfl ?_
    refine sx_guardFU rfl rfl rfl rfl rfl ?_
    refine sx_guardFU rfl rfl rfl rfl rfl ?_
    refine sx_guardFU rfl rfl rfl rfl rfl ?_
    refine sx_guardF rfl rfl rfl rfl rfl rfl ?_
    refine sx_pure rfl rfl rfl (px_pick rfl rfl) ?_
    refine wl_nil ?_
    refine q_n (k3 _ _ ?_)
    refine sx_sub (Sub.cons (t := 0) rfl (.cons (t := 2) rfl (.cons (t := 21) rfl (.nil)))) ?_
    refine sx_condT rfl ?_
    refine sx_seq fun K4 k4 => ?_
    refine sx_region ?_
    refine sx_pure rfl rfl rfl (px_assign rfl) ?_
    refine wl_nil ?_
    refine q_n (k4 _ _ ?_)
    refine sx_retc ?_
    refine q_r (sx_ret1 Try.results104 rfl ?_)
    exact ⟨bFalse (fun h => by first | (have h1 := h.2.1; omega) | exact h.2.2 ((last_getD (by omega)).2 (by assumption))), (Chg.refl 0 0 _)⟩
  ·
    refine sx_guardT rfl rfl rfl ?_
    refine sx_pure rfl rfl rfl (px_move rfl) ?_
    refine sx_guardT rfl rfl rfl ?_
    refine sx_pure rfl rfl rfl (px_len rfl Try.underlying22 hva0) ?_
    refine sx_guardT rfl rfl rfl ?_
    refine sx_pure rfl rfl rfl (px_gt rfl rfl) ?_
    refine sx_guardT rfl rfl rfl ?_
    refine sx_pure rfl rfl rfl (px_move rfl) ?_
    refine sx_tmpP (t := 12) rfl (fun h13x1 => ?_) (fun h13x1 => ?_)
    ·
      refine sx_guardT rfl rfl rfl ?_
      refine sx_pure rfl rfl rfl (px_move rfl) ?_
      refine sx_guardT rfl rfl rfl ?_
      refine sx_pure rfl rfl rfl (px_move rfl) ?_
      refine sx_guardT rfl rfl rfl ?_
      refine sx_pure rfl rfl rfl (px_len rfl Try.underlying22 hva0) ?_
      refine sx_guardT rfl rfl rfl ?_
      refine sx_pure rfl rfl rfl (px_sub rfl rfl (by omega)) ?_
      refine sx_guardT rfl rfl rfl ?_
      refine sx_pure rfl rfl rfl (px_index1 (j := (zs.length - 1)) rfl rfl (by omega) Try.underlying22 Try.sizeOf3 hva0 (by omega)) ?_
      refine sx_guardT rfl rfl rfl ?_
      refine sx_pure rfl rfl rfl (px_load rfl (hva0.load1 (at_int (by omega)) Try.isAgg3)) ?_
      refine sx_guardT rfl rfl rfl ?_
      refine sx_pure rfl rfl rfl (px_eq rfl rfl) ?_
      refine sx_guardT rfl rfl rfl ?_
      refine sx_pure rfl rfl rfl (px_pick rfl rfl) ?_
      refine sx_pure rfl rfl rfl (px_pick rfl rfl) ?_
      refine wl_nil ?_
      refine q_n (k3 _ _ ?_)
      refine sx_sub (Sub.cons (t := 0) rfl (.cons (t := 2) rfl (.cons (t := 21) rfl (.nil)))) ?_
      refine sx_condP rfl (fun h13x2 => ?_) (fun h13x2 => ?_)
      ·
        refine sx_seq fun K5 k5 => ?_
        refine sx_region ?_
        refine sx_pure rfl rfl rfl (px_assign rfl) ?_
        refine wl_nil ?_
        refine q_n (k5 _ _ ?_)
        refine sx_retc ?_
        refine q_r (sx_ret1 Try.results104 rfl ?_)
        exact ⟨bFalse (fun h => by first | (have h1 := h.2.1; omega) | exact h.2.2 ((last_getD (by omega)).2 (by assumption))), (Chg.refl 0 0 _)⟩
      ·
        refine sx_skip ?_
        refine q_n (k2 _ _ ?_)
        refine sx_seq fun K6 k6 => ?_
        refine sx_seq fun K7 k7 => ?_
        refine sx_region ?_
        refine sx_pure rfl rfl rfl (px_move rfl) ?_
        refine sx_pure rfl rfl rfl (px_len rfl Try.underlying22 hva0) ?_
        refine sx_pure rfl rfl rfl (px_move rfl) ?_
        refine wl_nil ?_
        refine q_n (k7 _ _ ?_)
        refine sx_block ?_
        refine sx_loop (fun mm aa w' => ∃ (k : Nat), Agr 35 [(22, va), (23, .int .i64 ↑zs.length), (24, .int .i64 ↑k)] aa ∧ Chg 0 0 w w' ∧ (mm = zs.length - k) ∧ (k ≤ zs.length) ∧ (∀ i, i < k → 0 ≤ zs.getD i 0 ∧ zs.getD i 0 < 1000000000)) (_) (fun a ha => ⟨0, ha.sub (Sub.cons (t := 22) rfl (.cons (t := 23) (look_int (t := 23) rfl (by first | omega | simp)) (.cons (t := 24) (look_int (t := 24) rfl (by first | omega | simp)) (.nil)))), Chg.refl _ _ _, rfl, by omega, fun i h => by omega⟩) ?_
        rintro mm aa wl8 ⟨k, hAwl8, cwl8, hm, hk, hall⟩
        refine (show cw Try.prog 35 _ _ _ wl8 from ?_) aa hAwl8
        clear hAwl8
        have zwl8 := cwl8.size
        refine sx_seq fun K9 k9 => ?_
        refine sx_region ?_
        refine sx_pure rfl rfl rfl (px_lt rfl rfl) ?_
        refine wl_nil ?_
        refine q_n (k9 _ _ ?_)
        refine sx_seq fun K10 k10 => ?_
        refine sx_condP rfl (fun h16 => ?_) (fun h16 => ?_)
        ·
          refine sx_skip ?_
          refine q_n (k10 _ _ ?_)
          refine sx_seq fun K11 k11 => ?_
          refine sx_block ?_
          refine sx_seq fun K12 k12 => ?_
          refine sx_region ?_
          have f13 := hva0.ext cwl8
          refine sx_pure rfl rfl rfl (px_index1 (j := k) rfl rfl (by omega) Try.underlying22 Try.sizeOf3 f13 (by omega)) ?_
          refine sx_pure rfl rfl rfl (px_load rfl (f13.load1 (at_int (by omega)) Try.isAgg3)) ?_
          refine sx_pure rfl rfl rfl (px_assign rfl) ?_
          refine wl_nil ?_
          refine q_n (k12 _ _ ?_)
          refine sx_seq fun K14 k14 => ?_
          refine sx_region ?_
          refine sx_pure rfl rfl rfl (px_move rfl) ?_
          refine sx_pure rfl rfl rfl (px_lt rfl rfl) ?_
          refine sx_pure rfl rfl rfl (px_move rfl) ?_
          refine sx_tmpP (t := 30) rfl (fun h17 => ?_) (fun h17 => ?_)
          ·
            refine sx_guardF rfl rfl rfl rfl rfl rfl ?_
            refine sx_guardF rfl rfl rfl rfl rfl rfl ?_
            refine sx_pure rfl rfl rfl (px_pick rfl rfl) ?_
            refine wl_nil ?_
            refine q_n (k14 _ _ ?_)
            refine sx_condT rfl ?_
            refine sx_seq fun K15 k15 => ?_
            refine sx_region ?_
            refine sx_pure rfl rfl rfl (px_assign rfl) ?_
            refine wl_nil ?_
            refine q_n (k15 _ _ ?_)
            refine sx_retc ?_
            refine q_br (q_r (q_r (q_br (q_r (sx_ret1 Try.results104 rfl ?_)))))
            exact ⟨bFalse (fun h => by have h1 := h.1.getD k; omega), cwl8⟩
          ·
            refine sx_guardT rfl rfl rfl ?_
            refine sx_pure rfl rfl rfl (px_move rfl) ?_
            refine sx_guardT rfl rfl rfl ?_
            refine sx_pure rfl rfl rfl (px_ge rfl rfl) ?_
            refine sx_pure rfl rfl rfl (px_pick rfl rfl) ?_
            refine wl_nil ?_
            refine q_n (k14 _ _ ?_)
            refine sx_condP rfl (fun h17x1 => ?_) (fun h17x1 => ?_)
            ·
              refine sx_seq fun K16 k16 => ?_
              refine sx_region ?_
              refine sx_pure rfl rfl rfl (px_assign rfl) ?_
              refine wl_nil ?_
              refine q_n (k16 _ _ ?_)
              refine sx_retc ?_
              refine q_br (q_r (q_r (q_br (q_r (sx_ret1 Try.results104 rfl ?_)))))
              exact ⟨bFalse (fun h => by have h1 := h.1.getD k; omega), cwl8⟩
            ·
              refine sx_skip ?_
              refine q_bn (q_n (k11 _ _ ?_))
              refine sx_region ?_
              refine sx_pure rfl rfl rfl (px_add rfl rfl (by omega)) ?_
              refine sx_pure rfl rfl rfl (px_move rfl) ?_
              refine wl_nil ?_
              exact fun a ha => ⟨_, by omega, (k + 1), ha.sub (Sub.cons (t := 22) rfl (.cons (t := 23) rfl (.cons (t := 24) (look_int (t := 24) rfl (by first | omega | simp)) (.nil)))), cwl8, rfl, by omega, lm_succ hall (by omega)⟩
        ·
          refine sx_exit ?_
          refine q_e (q_e (q_bx (q_n (k6 _ _ ?_))))
          refine sx_seq fun K17 k17 => ?_
          refine sx_region ?_
          refine sx_pure rfl rfl rfl (px_assign rfl) ?_
          refine wl_nil ?_
          refine q_n (k17 _ _ ?_)
          refine sx_retc ?_
          refine sx_ret1 Try.results104 rfl ?_
          have ek : k = zs.length := by omega
          have hz : Lm zs := lm_mem (by rw [← ek]; exact hall)
          exact ⟨bTrue (NOk_mk hz (by omega) (by first | exact .inl (by omega) | exact .inr (by assumption))), cwl8⟩
    ·
      refine sx_guardF rfl rfl rfl rfl rfl rfl ?_
      refine sx_guardF rfl rfl rfl rfl rfl rfl ?_
      refine sx_guardF rfl rfl rfl rfl rfl rfl ?_
      refine sx_guardF rfl rfl rfl rfl rfl rfl ?_
      refine sx_guardF rfl rfl rfl rfl rfl rfl ?_
      refine sx_guardF rfl rfl rfl rfl rfl rfl ?_
      refine sx_guardF rfl rfl rfl rfl rfl rfl ?_
      refine sx_guardT rfl rfl rfl ?_
      refine sx_pure rfl rfl rfl (px_pick rfl rfl) ?_
      refine sx_pure rfl rfl rfl (px_pick rfl rfl) ?_
      refine wl_nil ?_
      refine q_n (k3 _ _ ?_)
      refine sx_sub (Sub.cons (t := 0) rfl (.cons (t := 2) rfl (.cons (t := 21) rfl (.nil)))) ?_
      refine sx_condF rfl ?_
      refine sx_skip ?_
      refine q_n (k2 _ _ ?_)
      refine sx_seq fun K18 k18 => ?_
      refine sx_seq fun K19 k19 => ?_
      refine sx_region ?_
      refine sx_pure rfl rfl rfl (px_move rfl) ?_
      refine sx_pure rfl rfl rfl (px_len rfl Try.underlying22 hva0) ?_
      refine sx_pure rfl rfl rfl (px_move rfl) ?_
      refine wl_nil ?_
      refine q_n (k19 _ _ ?_)
      refine sx_block ?_
      refine sx_loop (fun mm aa w' => ∃ (k : Nat), Agr 35 [(22, va), (23, .int .i64 ↑zs.length), (24, .int .i64 ↑k)] aa ∧ Chg 0 0 w w' ∧ (mm = zs.length - k) ∧ (k ≤ zs.length) ∧ (∀ i, i < k → 0 ≤ zs.getD i 0 ∧ zs.getD i 0 < 1000000000)) (_) (fun a ha => ⟨0, ha.sub (Sub.cons (t := 22) rfl (.cons (t := 23) (look_int (t := 23) rfl (by first | omega | simp)) (.cons (t := 24) (look_int (t := 24) rfl (by first | omega | simp)) (.nil)))), Chg.refl _ _ _, rfl, by omega, fun i h => by omega⟩) ?_
      rintro mm aa wl20 ⟨k, hAwl20, cwl20, hm, hk, hall⟩
      refine (show cw Try.prog 35 _ _ _ wl20 from ?_) aa hAwl20
      clear hAwl20
      have zwl20 := cwl20.size
      refine sx_seq fun K21 k21 => ?_
      refine sx_region ?_
      refine sx_pure rfl rfl rfl (px_lt rfl rfl) ?_
      refine wl_nil ?_
      refine q_n (k21 _ _ ?_)
      refine sx_seq fun K22 k22 => ?_
      refine sx_condP rfl (fun h16 => ?_) (fun h16 => ?_)
      ·
        refine sx_skip ?_
        refine q_n (k22 _ _ ?_)
        refine sx_seq fun K23 k23 => ?_
        refine sx_block ?_
        refine sx_seq fun K24 k24 => ?_
        refine sx_region ?_
        have f25 := hva0.ext cwl20
        refine sx_pure rfl rfl rfl (px_index1 (j := k) rfl rfl (by omega) Try.underlying22 Try.sizeOf3 f25 (by omega)) ?_
        refine sx_pure rfl rfl rfl (px_load rfl (f25.load1 (at_int (by omega)) Try.isAgg3)) ?_
        refine sx_pure rfl rfl rfl (px_assign rfl) ?_
        refine wl_nil ?_
        refine q_n (k24 _ _ ?_)
        refine sx_seq fun K26 k26 => ?_
        refine sx_region ?_
        refine sx_pure rfl rfl rfl (px_move rfl) ?_
        refine sx_pure rfl rfl rfl (px_lt rfl rfl) ?_
        refine sx_pure rfl rfl rfl (px_move rfl) ?_
        refine sx_tmpP (t := 30) rfl (fun h17 => ?_) (fun h17 => ?_)
        ·
          refine sx_guardF rfl rfl rfl rfl rfl rfl ?_
          refine sx_guardF rfl rfl rfl rfl rfl rfl ?_
          refine sx_pure rfl rfl rfl (px_pick rfl rfl) ?_
          refine wl_nil ?_
          refine q_n (k26 _ _ ?_)
          refine sx_condT rfl ?_
          refine sx_seq fun K27 k27 => ?_
          refine sx_region ?_
          refine sx_pure rfl rfl rfl (px_assign rfl) ?_
          refine wl_nil ?_
          refine q_n (k27 _ _ ?_)
          refine sx_retc ?_
          refine q_br (q_r (q_r (q_br (q_r (sx_ret1 Try.results104 rfl ?_)))))
          exact ⟨bFalse (fun h => by have h1 := h.1.getD k; omega), cwl20⟩
        ·
          refine sx_guardT rfl rfl rfl ?_
          refine sx_pure rfl rfl rfl (px_move rfl) ?_
          refine sx_guardT rfl rfl rfl ?_
          refine sx_pure rfl rfl rfl (px_ge rfl rfl) ?_
          refine sx_pure rfl rfl rfl (px_pick rfl rfl) ?_
          refine wl_nil ?_
          refine q_n (k26 _ _ ?_)
          refine sx_condP rfl (fun h17x1 => ?_) (fun h17x1 => ?_)
          ·
            refine sx_seq fun K28 k28 => ?_
            refine sx_region ?_
            refine sx_pure rfl rfl rfl (px_assign rfl) ?_
            refine wl_nil ?_
            refine q_n (k28 _ _ ?_)
            refine sx_retc ?_
            refine q_br (q_r (q_r (q_br (q_r (sx_ret1 Try.results104 rfl ?_)))))
            exact ⟨bFalse (fun h => by have h1 := h.1.getD k; omega), cwl20⟩
          ·
            refine sx_skip ?_
            refine q_bn (q_n (k23 _ _ ?_))
            refine sx_region ?_
            refine sx_pure rfl rfl rfl (px_add rfl rfl (by omega)) ?_
            refine sx_pure rfl rfl rfl (px_move rfl) ?_
            refine wl_nil ?_
            exact fun a ha => ⟨_, by omega, (k + 1), ha.sub (Sub.cons (t := 22) rfl (.cons (t := 23) rfl (.cons (t := 24) (look_int (t := 24) rfl (by first | omega | simp)) (.nil)))), cwl20, rfl, by omega, lm_succ hall (by omega)⟩
      ·
        refine sx_exit ?_
        refine q_e (q_e (q_bx (q_n (k18 _ _ ?_))))
        refine sx_seq fun K29 k29 => ?_
        refine sx_region ?_
        refine sx_pure rfl rfl rfl (px_assign rfl) ?_
        refine wl_nil ?_
        refine q_n (k29 _ _ ?_)
        refine sx_retc ?_
        refine sx_ret1 Try.results104 rfl ?_
        have ek : k = zs.length := by omega
        have hz : Lm zs := lm_mem (by rw [← ek]; exact hall)
        exact ⟨bTrue (NOk_mk hz (by omega) (by first | exact .inl (by omega) | exact .inr (by assumption))), cwl20⟩

theorem c_iIntOk {w : World} {n1 : Bool} {v1 : Value} {lv1 uv1 : Nat} {z1 : List Int} (hv1 : Sl w lv1 uv1 v1 (z1)) (h63 : z1.length ≤ 4611686018427387904) :
    Ret Try.prog 62 [.agg #[.bool n1, v1]] w fun v w' => v = .bool (decide (IOk n1 z1)) ∧ Chg 0 0 w w' := by
  have hv10 := hv1.fit
  refine sx_enter Try.func62 rfl Try.ntmps62 (Nat.le_of_ble_eq_true rfl) ?_
  refine sx_seq fun K1 k1 => ?_
  refine sx_region ?_
  refine sx_box [.bool n1, v1] rfl rfl rfl (fun b2 w3 eb2 sb2 fb2 cb2 => ?_)
  have zw3 := cb2.size
  refine sx_pure rfl rfl rfl (px_assign rfl) ?_
  refine wl_nil ?_
  refine q_n (k1 _ _ ?_)
  refine sx_seq fun K4 k4 => ?_
  refine sx_region ?_
  refine sx_pure rfl rfl rfl (px_field rfl xfld29x1) ?_
  refine sx_pure rfl rfl rfl (px_load rfl (fb2.load1 rfl Try.isAgg22)) ?_
  have f5 := hv10.ext cb2
  refine sx_call rfl rfl Try.call104 (c_iNatOk f5 (by omega)) (fun v6 w6 p6 => ?_)
  obtain ⟨rfl, c6⟩ := p6
  have zw6 := c6.size
  refine sx_pure rfl rfl rfl (px_move rfl) ?_
  refine sx_tmpP (t := 6) rfl (fun h10 => ?_) (fun h10 => ?_)
  ·
    refine sx_guardT rfl rfl rfl ?_
    refine sx_pure rfl rfl rfl (px_field rfl xfld29x0) ?_
    refine sx_guardT rfl rfl rfl ?_
    have f7 := fb2.ext c6
    refine sx_pure rfl rfl rfl (px_load rfl (f7.load1 rfl Try.isAgg4)) ?_
    refine sx_guardT rfl rfl rfl ?_
    refine sx_pure rfl rfl rfl (px_not rfl) ?_
    refine sx_guardT rfl rfl rfl ?_
    refine sx_pure rfl rfl rfl (px_move rfl) ?_
    refine sx_tmpB (t := 10) rfl (fun h10x1 => ?_) (fun h10x1 => ?_)
    ·
      refine sx_guardF rfl rfl rfl rfl rfl rfl ?_
      refine sx_guardF rfl rfl rfl rfl rfl rfl ?_
      refine sx_guardF rfl rfl rfl rfl rfl rfl ?_
      refine sx_guardF rfl rfl rfl rfl rfl rfl ?_
      refine sx_guardT rfl rfl rfl ?_
      refine sx_pure rfl rfl rfl (px_pick rfl rfl) ?_
      refine sx_pure rfl rfl rfl (px_pick rfl rfl) ?_
      refine sx_pure rfl rfl rfl (px_assign rfl) ?_
      refine wl_nil ?_
      refine q_n (k4 _ _ ?_)
      refine sx_sub (Sub.cons (t := 2) rfl (.nil)) ?_
      refine sx_retc ?_
      refine sx_ret1 Try.results62 rfl ?_
      have q8 := Chg.step (l := 0) (h := 0) cb2 c6 (by omega)
      exact ⟨(by first | exact bTrue (by grind [IOk]) | exact bFalse (by grind [IOk]) | exact bIff (by grind [IOk])), q8⟩
    ·
      refine sx_guardT rfl rfl rfl ?_
      refine sx_pure rfl rfl rfl (px_field rfl xfld29x1) ?_
      refine sx_guardT rfl rfl rfl ?_
      refine sx_pure rfl rfl rfl (px_load rfl (f7.load1 rfl Try.isAgg22)) ?_
      refine sx_guardT rfl rfl rfl ?_
      have f9 := f5.ext c6
      refine sx_pure rfl rfl rfl (px_len rfl Try.underlying22 f9) ?_
      refine sx_guardT rfl rfl rfl ?_
      refine sx_pure rfl rfl rfl (px_gt rfl rfl) ?_
      refine sx_guardT rfl rfl rfl ?_
      refine sx_pure rfl rfl rfl (px_pick rfl rfl) ?_
      refine sx_pure rfl rfl rfl (px_pick rfl rfl) ?_
      refine sx_pure rfl rfl rfl (px_assign rfl) ?_
      refine wl_nil ?_
      refine q_n (k4 _ _ ?_)
      refine sx_sub (Sub.cons (t := 2) rfl (.nil)) ?_
      refine sx_retc ?_
      refine sx_ret1 Try.results62 rfl ?_
      have q10 := Chg.step (l := 0) (h := 0) cb2 c6 (by omega)
      exact ⟨(by first | exact bTrue (by grind [IOk]) | exact bFalse (by grind [IOk]) | exact bIff (by grind [IOk])), q10⟩
  ·
    refine sx_guardF rfl rfl rfl rfl rfl rfl ?_
    refine sx_guardF rfl rfl rfl rfl rfl rfl ?_
    refine sx_guardF rfl rfl rfl rfl rfl rfl ?_
    refine sx_guardF rfl rfl rfl rfl rfl rfl ?_
    refine sx_guardFU rfl rfl rfl rfl rfl ?_
    refine sx_guardFU rfl rfl rfl rfl rfl ?_
    refine sx_guardFU rfl rfl rfl rfl rfl ?_
    refine sx_guardFU rfl rfl rfl rfl rfl ?_
    refine sx_guardF rfl rfl rfl rfl rfl rfl ?_
    refine sx_pure rfl rfl rfl (px_pick rfl rfl) ?_
    refine sx_pure rfl rfl rfl (px_assign rfl) ?_
    refine wl_nil ?_
    refine q_n (k4 _ _ ?_)
    refine sx_sub (Sub.cons (t := 2) rfl (.nil)) ?_
    refine sx_retc ?_
    refine sx_ret1 Try.results62 rfl ?_
    have q11 := Chg.step (l := 0) (h := 0) cb2 c6 (by omega)
    exact ⟨(by first | exact bTrue (by grind [IOk]) | exact bFalse (by grind [IOk]) | exact bIff (by grind [IOk])), q11⟩

theorem c_isScale {w : World} {p : Int} :
    Ret Try.prog 63 [.int .i64 p] w fun v w' => v = .bool (decide (0 ≤ p ∧ p ≤ 30)) ∧ Chg 0 0 w w' := by
  refine sx_enter Try.func63 rfl Try.ntmps63 (Nat.le_of_ble_eq_true rfl) ?_
  refine sx_seq fun K1 k1 => ?_
  refine sx_region ?_
  refine sx_pure rfl rfl rfl (px_assign rfl) ?_
  refine wl_nil ?_
  refine q_n (k1 _ _ ?_)
  refine sx_seq fun K2 k2 => ?_
  refine sx_region ?_
  refine sx_pure rfl rfl rfl (px_move rfl) ?_
  refine sx_pure rfl rfl rfl (px_ge rfl rfl) ?_
  refine sx_pure rfl rfl rfl (px_move rfl) ?_
  refine sx_tmpP (t := 5) rfl (fun h15 => ?_) (fun h15 => ?_)
  ·
    refine sx_guardT rfl rfl rfl ?_
    refine sx_pure rfl rfl rfl (px_move rfl) ?_
    refine sx_guardT rfl rfl rfl ?_
    refine sx_pure rfl rfl rfl (px_le rfl rfl) ?_
    refine sx_pure rfl rfl rfl (px_pick rfl rfl) ?_
    refine sx_pure rfl rfl rfl (px_assign rfl) ?_
    refine wl_nil ?_
    refine q_n (k2 _ _ ?_)
    refine sx_retc ?_
    refine sx_ret1 Try.results63 rfl ?_
    exact ⟨(by first | exact bTrue (by grind) | exact bFalse (by grind) | exact bIff (by grind)), (Chg.refl 0 0 _)⟩
  ·
    refine sx_guardF rfl rfl rfl rfl rfl rfl ?_
    refine sx_guardF rfl rfl rfl rfl rfl rfl ?_
    refine sx_pure rfl rfl rfl (px_pick rfl rfl) ?_
    refine sx_pure rfl rfl rfl (px_assign rfl) ?_
    refine wl_nil ?_
    refine q_n (k2 _ _ ?_)
    refine sx_retc ?_
    refine sx_ret1 Try.results63 rfl ?_
    exact ⟨(by first | exact bTrue (by grind) | exact bFalse (by grind) | exact bIff (by grind)), (Chg.refl 0 0 _)⟩

theorem c_iDecOk {w : World} {n1 : Bool} {v1 : Value} {lv1 uv1 : Nat} {z1 : List Int} {p1 : Int} (hv1 : Sl w lv1 uv1 v1 (z1)) (h63 : z1.length ≤ 4611686018427387904) :
    Ret Try.prog 18 [.agg #[.bool n1, v1, .int .i64 p1]] w fun v w' => v = .bool (decide (DOk n1 z1 p1)) ∧ Chg 0 0 w w' := by
  have hv10 := hv1.fit
  refine sx_enter Try.func18 rfl Try.ntmps18 (Nat.le_of_ble_eq_true rfl) ?_
  refine sx_seq fun K1 k1 => ?_
  refine sx_region ?_
  refine sx_box [.bool n1, v1, .int .i64 p1] rfl rfl rfl (fun b2 w3 eb2 sb2 fb2 cb2 => ?_)
  have zw3 := cb2.size
  refine sx_pure rfl rfl rfl (px_assign rfl) ?_
  refine wl_nil ?_
  refine q_n (k1 _ _ ?_)
  refine sx_seq fun K4 k4 => ?_
  refine sx_region ?_
  refine sx_pure rfl rfl rfl (px_field rfl xfld31x0) ?_
  refine sx_pure rfl rfl rfl (px_load rfl (fb2.loadA (vs := [.bool n1, v1]) (look_lit rfl) Try.isAgg29 Try.sizeOf29)) ?_
  have f5 := hv10.ext cb2
  refine sx_call rfl rfl Try.call62 (c_iIntOk f5 (by omega)) (fun v6 w6 p6 => ?_)
  obtain ⟨rfl, c6⟩ := p6
  have zw6 := c6.size
  refine sx_pure rfl rfl rfl (px_move rfl) ?_
  refine sx_tmpP (t := 6) rfl (fun h18 => ?_) (fun h18 => ?_)
  ·
    refine sx_guardT rfl rfl rfl ?_
    refine sx_pure rfl rfl rfl (px_field rfl xfld31x0) ?_
    refine sx_guardT rfl rfl rfl ?_
    refine sx_pure rfl rfl rfl (px_field rfl xfld29x1) ?_
    refine sx_guardT rfl rfl rfl ?_
    have f7 := fb2.ext c6
    refine sx_pure rfl rfl rfl (px_load rfl (f7.load1 rfl Try.isAgg22)) ?_
    refine sx_guardT rfl rfl rfl ?_
    have f8 := f5.ext c6
    refine sx_pure rfl rfl rfl (px_len rfl Try.underlying22 f8) ?_
    refine sx_guardT rfl rfl rfl ?_
    refine sx_pure rfl rfl rfl (px_le rfl rfl) ?_
    refine sx_pure rfl rfl rfl (px_pick rfl rfl) ?_
    refine sx_pure rfl rfl rfl (px_move rfl) ?_
    refine sx_tmpP (t := 13) rfl (fun h18x1 => ?_) (fun h18x1 => ?_)
    ·
      refine sx_guardT rfl rfl rfl ?_
      refine sx_pure rfl rfl rfl (px_field rfl xfld31x1) ?_
      refine sx_guardT rfl rfl rfl ?_
      refine sx_pure rfl rfl rfl (px_load rfl (f7.load1 rfl Try.isAgg3)) ?_
      refine sx_guardT rfl rfl rfl ?_
      refine sx_call rfl rfl Try.call63 (c_isScale) (fun v9 w9 p9 => ?_)
      obtain ⟨rfl, c9⟩ := p9
      have zw9 := c9.size
      refine sx_pure rfl rfl rfl (px_pick rfl rfl) ?_
      refine sx_pure rfl rfl rfl (px_assign rfl) ?_
      refine wl_nil ?_
      refine q_n (k4 _ _ ?_)
      refine sx_sub (Sub.cons (t := 2) rfl (.nil)) ?_
      refine sx_retc ?_
      refine sx_ret1 Try.results18 rfl ?_
      have q10 := Chg.step (l := 0) (h := 0) cb2 c6 (by omega)
      have q11 := Chg.step (l := 0) (h := 0) q10 c9 (by omega)
      exact ⟨(by first | exact bTrue (by grind [DOk]) | exact bFalse (by grind [DOk]) | exact bIff (by grind [DOk])), q11⟩
    ·
      refine sx_guardF rfl rfl rfl rfl rfl rfl ?_
      refine sx_guardF rfl rfl rfl rfl rfl rfl ?_
      refine sx_guardF rfl rfl rfl rfl rfl rfl ?_
      refine sx_pure rfl rfl rfl (px_pick rfl rfl) ?_
      refine sx_pure rfl rfl rfl (px_assign rfl) ?_
      refine wl_nil ?_
      refine q_n (k4 _ _ ?_)
      refine sx_sub (Sub.cons (t := 2) rfl (.nil)) ?_
      refine sx_retc ?_
      refine sx_ret1 Try.results18 rfl ?_
      have q12 := Chg.step (l := 0) (h := 0) cb2 c6 (by omega)
      exact ⟨(by first | exact bTrue (by grind [DOk]) | exact bFalse (by grind [DOk]) | exact bIff (by grind [DOk])), q12⟩
  ·
    refine sx_guardF rfl rfl rfl rfl rfl rfl ?_
    refine sx_guardF rfl rfl rfl rfl rfl rfl ?_
    refine sx_guardF rfl rfl rfl rfl rfl rfl ?_
    refine sx_guardF rfl rfl rfl rfl rfl rfl ?_
    refine sx_guardF rfl rfl rfl rfl rfl rfl ?_
    refine sx_pure rfl rfl rfl (px_pick rfl rfl) ?_
    refine sx_pure rfl rfl rfl (px_move rfl) ?_
    refine sx_guardF rfl rfl rfl rfl rfl rfl ?_
    refine sx_guardF rfl rfl rfl rfl rfl rfl ?_
    refine sx_guardF rfl rfl rfl rfl rfl rfl ?_
    refine sx_pure rfl rfl rfl (px_pick rfl rfl) ?_
    refine sx_pure rfl rfl rfl (px_assign rfl) ?_
    refine wl_nil ?_
    refine q_n (k4 _ _ ?_)
    refine sx_sub (Sub.cons (t := 2) rfl (.nil)) ?_
    refine sx_retc ?_
    refine sx_ret1 Try.results18 rfl ?_
    have q13 := Chg.step (l := 0) (h := 0) cb2 c6 (by omega)
    exact ⟨(by first | exact bTrue (by grind [DOk]) | exact bFalse (by grind [DOk]) | exact bIff (by grind [DOk])), q13⟩

theorem c_eqIntS {w : World} {va : Value} {lva uva : Nat} {zs : List Int} {vb : Value} {lvb uvb : Nat} {ys : List Int} (hva : Sl w lva uva va (zs)) (hvb : Sl w lvb uvb vb (ys)) (h63 : zs.length ≤ 4611686018427387904 ∧ ys.length ≤ 4611686018427387904) :
    Ret Try.prog 46 [va, vb] w fun v w' => v = .bool (decide (zs = ys)) ∧ Chg 0 0 w w' := by
  have hva0 := hva.fit
  have hvb0 := hvb.fit
  have hneq : zs.length ≠ ys.length → zs ≠ ys := fun h e => h (by rw [e])
  refine sx_enter Try.func46 rfl Try.ntmps46 (Nat.le_of_ble_eq_true rfl) ?_
  refine sx_seq fun K1 k1 => ?_
  refine sx_region ?_
  refine sx_pure rfl rfl rfl (px_assign rfl) ?_
  refine wl_nil ?_
  refine q_n (k1 _ _ ?_)
  refine sx_seq fun K2 k2 => ?_
  refine sx_seq fun K3 k3 => ?_
  refine sx_region ?_
  refine sx_pure rfl rfl rfl (px_move rfl) ?_
  refine sx_pure rfl rfl rfl (px_len rfl Try.underlying22 hva0) ?_
  refine sx_pure rfl rfl rfl (px_move rfl) ?_
  refine sx_pure rfl rfl rfl (px_len rfl Try.underlying22 hvb0) ?_
  refine sx_pure rfl rfl rfl (px_ne rfl rfl) ?_
  refine wl_nil ?_
  refine q_n (k3 _ _ ?_)
  refine sx_condP rfl (fun h210 => ?_) (fun h210 => ?_)
  ·
    refine sx_seq fun K4 k4 => ?_
    refine sx_region ?_
    refine sx_pure rfl rfl rfl (px_assign rfl) ?_
    refine wl_nil ?_
    refine q_n (k4 _ _ ?_)
    refine sx_retc ?_
    refine q_r (sx_ret1 Try.results46 rfl ?_)
    exact ⟨bFalse (hneq (by omega)), (Chg.refl 0 0 _)⟩
  ·
    refine sx_skip ?_
    refine q_n (k2 _ _ ?_)
    refine sx_seq fun K5 k5 => ?_
    refine sx_seq fun K6 k6 => ?_
    refine sx_region ?_
    refine sx_pure rfl rfl rfl (px_assign rfl) ?_
    refine wl_nil ?_
    refine q_n (k6 _ _ ?_)
    refine sx_block ?_
    refine sx_loop (fun mm aa w' => ∃ (k : Nat), Agr 26 [(0, va), (1, vb), (5, .int .i64 ↑k)] aa ∧ Chg 0 0 w w' ∧ (mm = zs.length - k) ∧ (k ≤ zs.length) ∧ (zs.take k = ys.take k)) (_) (fun a ha => ⟨0, ha.sub (Sub.cons (t := 0) rfl (.cons (t := 1) rfl (.cons (t := 5) (look_int (t := 5) rfl (by first | omega | simp)) (.nil)))), Chg.refl _ _ _, rfl, by omega, by simp⟩) ?_
    rintro mm aa wl7 ⟨k, hAwl7, cwl7, hm, hk, he⟩
    refine (show cw Try.prog 26 _ _ _ wl7 from ?_) aa hAwl7
    clear hAwl7
    have zwl7 := cwl7.size
    refine sx_seq fun K8 k8 => ?_
    refine sx_seq fun K9 k9 => ?_
    refine sx_region ?_
    refine sx_pure rfl rfl rfl (px_move rfl) ?_
    refine sx_pure rfl rfl rfl (px_move rfl) ?_
    have f10 := hva0.ext cwl7
    refine sx_pure rfl rfl rfl (px_len rfl Try.underlying22 f10) ?_
    refine sx_pure rfl rfl rfl (px_lt rfl rfl) ?_
    refine wl_nil ?_
    refine q_n (k9 _ _ ?_)
    refine sx_condP rfl (fun h213 => ?_) (fun h213 => ?_)
    ·
      refine sx_skip ?_
      refine q_n (k8 _ _ ?_)
      refine sx_seq fun K11 k11 => ?_
      refine sx_block ?_
      refine sx_seq fun K12 k12 => ?_
      have f13 := hvb0.ext cwl7
      refine dx_region (fun w' => Chg 0 0 wl7 w') (by kernel_rfl) (Chg.zero (Chg.drew _)) ?_
      have d14 := Chg.drew wl7
      have s14 : Chg 0 0 wl7 (World.drew wl7) := Chg.zero (Chg.drew _)
      have y14 : (World.drew wl7).heap.size = wl7.heap.size := rfl
      generalize World.drew wl7 = w14 at *
      have zw14 := d14.size
      refine dx_take 0 rfl rfl rfl rfl (by kernel_rfl) (by kernel_rfl) (by kernel_rfl) s14 (fun _ hS => px_move rfl) ?_
      refine dx_take 1 rfl rfl rfl rfl (by kernel_rfl) (by kernel_rfl) (by kernel_rfl) s14 (fun _ hS => px_move rfl) ?_
      refine dx_take 2 rfl rfl rfl rfl (by kernel_rfl) (by kernel_rfl) (by kernel_rfl) s14 (fun _ hS => px_index1 (j := k) rfl rfl (by omega) Try.underlying22 Try.sizeOf3 ((f10).chg hS (by omega)) (by omega)) ?_
      refine dx_take 3 rfl rfl rfl rfl (by kernel_rfl) (by kernel_rfl) (by kernel_rfl) s14 (fun _ hS => px_load rfl (((f10).chg hS (by omega)).load1 (at_int (by omega)) Try.isAgg3)) ?_
      refine dx_take 4 rfl rfl rfl rfl (by kernel_rfl) (by kernel_rfl) (by kernel_rfl) s14 (fun _ hS => px_move rfl) ?_
      refine dx_take 5 rfl rfl rfl rfl (by kernel_rfl) (by kernel_rfl) (by kernel_rfl) s14 (fun _ hS => px_move rfl) ?_
      refine dx_take 6 rfl rfl rfl rfl (by kernel_rfl) (by kernel_rfl) (by kernel_rfl) s14 (fun _ hS => px_index1 (j := k) rfl rfl (by omega) Try.underlying22 Try.sizeOf3 ((f13).chg hS (by omega)) (by omega)) ?_
      refine dx_take 7 rfl rfl rfl rfl (by kernel_rfl) (by kernel_rfl) (by kernel_rfl) s14 (fun _ hS => px_load rfl (((f13).chg hS (by omega)).load1 (at_int (by omega)) Try.isAgg3)) ?_
      refine dx_take 8 rfl rfl rfl rfl (by kernel_rfl) (by kernel_rfl) (by kernel_rfl) s14 (fun _ hS => px_ne rfl rfl) ?_
      refine dx_done (by kernel_rfl) ?_
      refine q_n (k12 _ _ ?_)
      refine sx_sub (Sub.cons (t := 0) rfl (.cons (t := 1) rfl (.cons (t := 5) rfl (.cons (t := 25) rfl (.nil))))) ?_
      refine sx_condP rfl (fun h214 => ?_) (fun h214 => ?_)
      ·
        refine sx_seq fun K15 k15 => ?_
        refine sx_region ?_
        refine sx_pure rfl rfl rfl (px_assign rfl) ?_
        refine wl_nil ?_
        refine q_n (k15 _ _ ?_)
        refine sx_retc ?_
        refine q_br (q_r (q_r (q_br (q_r (sx_ret1 Try.results46 rfl ?_)))))
        have q16 := Chg.step (l := 0) (h := 0) cwl7 d14 (by omega)
        exact ⟨bFalse (ne_of_getD h214), q16⟩
      ·
        refine sx_skip ?_
        refine q_bn (q_n (k11 _ _ ?_))
        refine sx_region ?_
        refine sx_pure rfl rfl rfl (px_move rfl) ?_
        refine sx_pure rfl rfl rfl (px_add rfl rfl (by omega)) ?_
        refine sx_pure rfl rfl rfl (px_assign rfl) ?_
        refine wl_nil ?_
        have q17 := Chg.step (l := 0) (h := 0) cwl7 d14 (by omega)
        exact fun a ha => ⟨_, by omega, (k + 1), ha.sub (Sub.cons (t := 0) rfl (.cons (t := 1) rfl (.cons (t := 5) (look_int (t := 5) rfl (by first | omega | simp)) (.nil)))), q17, rfl, by omega, take_succ_eq he (by omega) (by omega) (Decidable.not_not.1 h214)⟩
    ·
      refine sx_exit ?_
      refine q_e (q_e (q_bx (q_n (k5 _ _ ?_))))
      refine sx_seq fun K18 k18 => ?_
      refine sx_region ?_
      refine sx_pure rfl rfl rfl (px_assign rfl) ?_
      refine wl_nil ?_
      refine q_n (k18 _ _ ?_)
      refine sx_retc ?_
      refine sx_ret1 Try.results46 rfl ?_
      have e1 : k = zs.length := by omega
      rw [e1, List.take_length, List.take_of_length_le (by omega)] at he
      exact ⟨bTrue he, cwl7⟩

theorem c_eqSigned {w : World} {n1 : Bool} {v1 : Value} {lv1 uv1 : Nat} {z1 : List Int} {n2 : Bool} {v2 : Value} {lv2 uv2 : Nat} {z2 : List Int} (hv1 : Sl w lv1 uv1 v1 (z1)) (hv2 : Sl w lv2 uv2 v2 (z2)) (h63 : z1.length ≤ 4611686018427387904 ∧ z2.length ≤ 4611686018427387904) :
    Ret Try.prog 45 [.agg #[.bool n1, v1], .agg #[.bool n2, v2]] w fun v w' => v = .bool (decide (n1 = n2 ∧ z1 = z2)) ∧ Chg 0 0 w w' := by
  have hv10 := hv1.fit
  have hv20 := hv2.fit
  refine sx_enter Try.func45 rfl Try.ntmps45 (Nat.le_of_ble_eq_true rfl) ?_
  refine sx_seq fun K1 k1 => ?_
  refine sx_region ?_
  refine sx_box [.bool n1, v1] rfl rfl rfl (fun b2 w3 eb2 sb2 fb2 cb2 => ?_)
  have zw3 := cb2.size
  refine sx_box [.bool n2, v2] rfl rfl rfl (fun b4 w5 eb4 sb4 fb4 cb4 => ?_)
  have zw5 := cb4.size
  refine sx_pure rfl rfl rfl (px_assign rfl) ?_
  refine wl_nil ?_
  refine q_n (k1 _ _ ?_)
  refine sx_seq fun K6 k6 => ?_
  refine sx_seq fun K7 k7 => ?_
  refine sx_region ?_
  refine sx_pure rfl rfl rfl (px_field rfl xfld29x0) ?_
  have f8 := fb2.ext cb4
  refine sx_pure rfl rfl rfl (px_load rfl (f8.load1 rfl Try.isAgg4)) ?_
  refine sx_pure rfl rfl rfl (px_field rfl xfld29x0) ?_
  refine sx_pure rfl rfl rfl (px_load rfl (fb4.load1 rfl Try.isAgg4)) ?_
  refine sx_pure rfl rfl rfl (px_neB Try.underlying4 rfl rfl) ?_
  refine wl_nil ?_
  refine q_n (k7 _ _ ?_)
  refine sx_condB rfl (fun h263 => ?_) (fun h263 => ?_)
  ·
    refine sx_seq fun K9 k9 => ?_
    refine sx_region ?_
    refine sx_pure rfl rfl rfl (px_assign rfl) ?_
    refine wl_nil ?_
    refine q_n (k9 _ _ ?_)
    refine sx_retc ?_
    refine q_r (sx_ret1 Try.results45 rfl ?_)
    have q10 := Chg.step (l := 0) (h := 0) cb2 cb4 (by omega)
    exact ⟨(by first | exact bTrue (by grind) | exact bFalse (by grind) | exact bIff (by grind)), q10⟩
  ·
    refine sx_skip ?_
    refine q_n (k6 _ _ ?_)
    refine sx_seq fun K11 k11 => ?_
    refine sx_seq fun K12 k12 => ?_
    refine sx_region ?_
    refine sx_pure rfl rfl rfl (px_field rfl xfld29x1) ?_
    refine sx_pure rfl rfl rfl (px_load rfl (f8.load1 rfl Try.isAgg22)) ?_
    refine sx_pure rfl rfl rfl (px_field rfl xfld29x1) ?_
    refine sx_pure rfl rfl rfl (px_load rfl (fb4.load1 rfl Try.isAgg22)) ?_
    have f13 := hv10.ext cb2
    have f14 := f13.ext cb4
    have f15 := hv20.ext cb2
    have f16 := f15.ext cb4
    refine sx_call rfl rfl Try.call46 (c_eqIntS f14 f16 (by omega)) (fun v17 w17 p17 => ?_)
    obtain ⟨rfl, c17⟩ := p17
    have zw17 := c17.size
    refine sx_pure rfl rfl rfl (px_notP rfl) ?_
    refine wl_nil ?_
    refine q_n (k12 _ _ ?_)
    refine sx_sub (Sub.cons (t := 4) rfl (.cons (t := 15) rfl (.nil))) ?_
    refine sx_condP rfl (fun h266 => ?_) (fun h266 => ?_)
    ·
      refine sx_seq fun K18 k18 => ?_
      refine sx_region ?_
      refine sx_pure rfl rfl rfl (px_assign rfl) ?_
      refine wl_nil ?_
      refine q_n (k18 _ _ ?_)
      refine sx_retc ?_
      refine q_r (sx_ret1 Try.results45 rfl ?_)
      have q19 := Chg.step (l := 0) (h := 0) cb2 cb4 (by omega)
      have q20 := Chg.step (l := 0) (h := 0) q19 c17 (by omega)
      exact ⟨(by first | exact bTrue (by grind) | exact bFalse (by grind) | exact bIff (by grind)), q20⟩
    ·
      refine sx_skip ?_
      refine q_n (k11 _ _ ?_)
      refine sx_seq fun K21 k21 => ?_
      refine sx_region ?_
      refine sx_pure rfl rfl rfl (px_assign rfl) ?_
      refine wl_nil ?_
      refine q_n (k21 _ _ ?_)
      refine sx_retc ?_
      refine sx_ret1 Try.results45 rfl ?_
      have q22 := Chg.step (l := 0) (h := 0) cb2 cb4 (by omega)
      have q23 := Chg.step (l := 0) (h := 0) q22 c17 (by omega)
      exact ⟨(by first | exact bTrue (by grind) | exact bFalse (by grind) | exact bIff (by grind)), q23⟩

theorem c_eqDec {w : World} {n1 : Bool} {v1 : Value} {lv1 uv1 : Nat} {z1 : List Int} {p1 : Int} {n2 : Bool} {v2 : Value} {lv2 uv2 : Nat} {z2 : List Int} {p2 : Int} (hv1 : Sl w lv1 uv1 v1 (z1)) (hv2 : Sl w lv2 uv2 v2 (z2)) (h63 : z1.length ≤ 4611686018427387904 ∧ z2.length ≤ 4611686018427387904) :
    Ret Try.prog 19 [.agg #[.bool n1, v1, .int .i64 p1], .agg #[.bool n2, v2, .int .i64 p2]] w fun v w' => v = .bool (decide (n1 = n2 ∧ z1 = z2 ∧ p1 = p2)) ∧ Chg 0 0 w w' := by
  have hv10 := hv1.fit
  have hv20 := hv2.fit
  refine sx_enter Try.func19 rfl Try.ntmps19 (Nat.le_of_ble_eq_true rfl) ?_
  refine sx_seq fun K1 k1 => ?_
  refine sx_region ?_
  refine sx_box [.bool n1, v1, .int .i64 p1] rfl rfl rfl (fun b2 w3 eb2 sb2 fb2 cb2 => ?_)
  have zw3 := cb2.size
  refine sx_box [.bool n2, v2, .int .i64 p2] rfl rfl rfl (fun b4 w5 eb4 sb4 fb4 cb4 => ?_)
  have zw5 := cb4.size
  refine sx_pure rfl rfl rfl (px_assign rfl) ?_
  refine wl_nil ?_
  refine q_n (k1 _ _ ?_)
  refine sx_seq fun K6 k6 => ?_
  refine sx_seq fun K7 k7 => ?_
  refine sx_region ?_
  refine sx_pure rfl rfl rfl (px_field rfl xfld31x0) ?_
  have f8 := fb2.ext cb4
  refine sx_pure rfl rfl rfl (px_load rfl (f8.loadA (vs := [.bool n1, v1]) (look_lit rfl) Try.isAgg29 Try.sizeOf29)) ?_
  refine sx_pure rfl rfl rfl (px_field rfl xfld31x0) ?_
  refine sx_pure rfl rfl rfl (px_load rfl (fb4.loadA (vs := [.bool n2, v2]) (look_lit rfl) Try.isAgg29 Try.sizeOf29)) ?_
  have f9 := hv10.ext cb2
  have f10 := f9.ext cb4
  have f11 := hv20.ext cb2
  have f12 := f11.ext cb4
  refine sx_call rfl rfl Try.call45 (c_eqSigned f10 f12 (by omega)) (fun v13 w13 p13 => ?_)
  obtain ⟨rfl, c13⟩ := p13
  have zw13 := c13.size
  refine sx_pure rfl rfl rfl (px_notP rfl) ?_
  refine wl_nil ?_
  refine q_n (k7 _ _ ?_)
  refine sx_condP rfl (fun h405 => ?_) (fun h405 => ?_)
  ·
    refine sx_seq fun K14 k14 => ?_
    refine sx_region ?_
    refine sx_pure rfl rfl rfl (px_assign rfl) ?_
    refine wl_nil ?_
    refine q_n (k14 _ _ ?_)
    refine sx_retc ?_
    refine q_r (sx_ret1 Try.results19 rfl ?_)
    have q15 := Chg.step (l := 0) (h := 0) cb2 cb4 (by omega)
    have q16 := Chg.step (l := 0) (h := 0) q15 c13 (by omega)
    exact ⟨(by first | exact bTrue (by grind) | exact bFalse (by grind) | exact bIff (by grind)), q16⟩
  ·
    refine sx_skip ?_
    refine q_n (k6 _ _ ?_)
    refine sx_seq fun K17 k17 => ?_
    refine sx_seq fun K18 k18 => ?_
    refine sx_region ?_
    refine sx_pure rfl rfl rfl (px_field rfl xfld31x1) ?_
    have f19 := f8.ext c13
    refine sx_pure rfl rfl rfl (px_load rfl (f19.load1 rfl Try.isAgg3)) ?_
    refine sx_pure rfl rfl rfl (px_field rfl xfld31x1) ?_
    have f20 := fb4.ext c13
    refine sx_pure rfl rfl rfl (px_load rfl (f20.load1 rfl Try.isAgg3)) ?_
    refine sx_pure rfl rfl rfl (px_ne rfl rfl) ?_
    refine wl_nil ?_
    refine q_n (k18 _ _ ?_)
    refine sx_sub (Sub.cons (t := 4) rfl (.cons (t := 15) rfl (.nil))) ?_
    refine sx_condP rfl (fun h408 => ?_) (fun h408 => ?_)
    ·
      refine sx_seq fun K21 k21 => ?_
      refine sx_region ?_
      refine sx_pure rfl rfl rfl (px_assign rfl) ?_
      refine wl_nil ?_
      refine q_n (k21 _ _ ?_)
      refine sx_retc ?_
      refine q_r (sx_ret1 Try.results19 rfl ?_)
      have q22 := Chg.step (l := 0) (h := 0) cb2 cb4 (by omega)
      have q23 := Chg.step (l := 0) (h := 0) q22 c13 (by omega)
      exact ⟨(by first | exact bTrue (by grind) | exact bFalse (by grind) | exact bIff (by grind)), q23⟩
    ·
      refine sx_skip ?_
      refine q_n (k17 _ _ ?_)
      refine sx_seq fun K24 k24 => ?_
      refine sx_region ?_
      refine sx_pure rfl rfl rfl (px_assign rfl) ?_
      refine wl_nil ?_
      refine q_n (k24 _ _ ?_)
      refine sx_retc ?_
      refine sx_ret1 Try.results19 rfl ?_
      have q25 := Chg.step (l := 0) (h := 0) cb2 cb4 (by omega)
      have q26 := Chg.step (l := 0) (h := 0) q25 c13 (by omega)
      exact ⟨(by first | exact bTrue (by grind) | exact bFalse (by grind) | exact bIff (by grind)), q26⟩

theorem law_DecOk {w : World} {n1 : Bool} {v1 : Value} {lv1 uv1 : Nat} {z1 : List Int} {p1 : Int} (hv1 : Sl w lv1 uv1 v1 (z1)) (bz1 : z1.length ≤ 9223372036854775807) :
    Ret Try.prog 3 [.agg #[.bool n1, v1, .int .i64 p1]] w fun v w' => v = .bool (true) ∧ Chg 0 0 w w' := by
  have hv10 := hv1.fit
  refine sx_enter Try.func3 rfl Try.ntmps3 (Nat.le_of_ble_eq_true rfl) ?_
  refine sx_seq fun K1 k1 => ?_
  refine sx_region ?_
  refine sx_box [.bool n1, v1, .int .i64 p1] rfl rfl rfl (fun b2 w3 eb2 sb2 fb2 cb2 => ?_)
  have zw3 := cb2.size
  refine sx_pure rfl rfl rfl (px_assign rfl) ?_
  refine wl_nil ?_
  refine q_n (k1 _ _ ?_)
  refine sx_seq fun K4 k4 => ?_
  refine sx_region ?_
  refine sx_pure rfl rfl rfl (px_assign rfl) ?_
  refine wl_nil ?_
  refine q_n (k4 _ _ ?_)
  refine sx_seq fun K5 k5 => ?_
  refine sx_region ?_
  refine sx_pure rfl rfl rfl (px_load rfl (fb2.loadA (vs := [.bool n1, v1, .int .i64 p1]) (look_lit rfl) Try.isAgg26 Try.sizeOf26)) ?_
  refine sx_pure rfl rfl rfl (px_move rfl) ?_
  have f6 := hv10.ext cb2
  refine sx_call rfl rfl Try.call15 (c_szDec f6 (by omega) (by omega)) (fun v7 w7 p7 => ?_)
  obtain ⟨r7, rfl, hr7, c7⟩ := p7
  have zw7 := c7.size
  refine sx_pure rfl rfl rfl (px_assign rfl) ?_
  refine wl_nil ?_
  refine q_n (k5 _ _ ?_)
  refine sx_seq fun K8 k8 => ?_
  refine sx_seq fun K9 k9 => ?_
  refine sx_region ?_
  refine sx_pure rfl rfl rfl (px_move rfl) ?_
  refine sx_pure rfl rfl rfl (px_lt rfl rfl) ?_
  refine wl_nil ?_
  refine q_n (k9 _ _ ?_)
  refine sx_condP rfl (fun h4245 => ?_) (fun h4245 => ?_)
  ·
    refine sx_seq fun K10 k10 => ?_
    refine sx_region ?_
    refine sx_pure rfl rfl rfl (px_assign rfl) ?_
    refine wl_nil ?_
    refine q_n (k10 _ _ ?_)
    refine sx_retc ?_
    refine q_r (sx_ret1 Try.results3 rfl ?_)
    have q11 := Chg.step (l := 0) (h := 0) cb2 c7 (by omega)
    exact ⟨rfl, q11⟩
  ·
    refine sx_skip ?_
    refine q_n (k8 _ _ ?_)
    refine sx_seq fun K12 k12 => ?_
    refine sx_region ?_
    have f13 := fb2.ext c7
    refine sx_pure rfl rfl rfl (px_load rfl (f13.loadA (vs := [.bool n1, v1, .int .i64 p1]) (look_lit rfl) Try.isAgg26 Try.sizeOf26)) ?_
    have f14 := f6.ext c7
    refine sx_call rfl rfl Try.call17 (c_toDec f14 (by omega)) (fun v15 w15 p15 => ?_)
    obtain ⟨s115, rfl, os1_15, c15⟩ := p15
    have zw15 := c15.size
    refine sx_call rfl rfl Try.call16 (c_sDecOk os1_15.sv (by omega)) (fun v16 w16 p16 => ?_)
    obtain ⟨rfl, c16⟩ := p16
    have zw16 := c16.size
    refine sx_pure rfl rfl rfl (px_assign rfl) ?_
    refine wl_nil ?_
    refine q_n (k12 _ _ ?_)
    refine sx_seq fun K17 k17 => ?_
    refine sx_region ?_
    have f18 := f13.ext c15
    have f19 := f18.ext c16
    refine sx_pure rfl rfl rfl (px_load rfl (f19.loadA (vs := [.bool n1, v1, .int .i64 p1]) (look_lit rfl) Try.isAgg26 Try.sizeOf26)) ?_
    have f20 := f14.ext c15
    have f21 := f20.ext c16
    refine sx_call rfl rfl Try.call17 (c_toDec f21 (by omega)) (fun v22 w22 p22 => ?_)
    obtain ⟨s122, rfl, os1_22, c22⟩ := p22
    have zw22 := c22.size
    refine sx_alloc [.bool false, (.slice none 0 0), .int .i64 0] rfl Try.zeroValue31 rfl (fun b23 w24 eb23 sb23 fb23 cb23 => ?_)
    have zw24 := cb23.size
    have f26 := os1_22.ext cb23
    refine sx_store (vs := [.bool n1, s122, .int .i64 p1]) rfl rfl fb23 rfl Try.sizeOf31 (Nat.le_of_ble_eq_true rfl) (one_cons rfl (one_cons f26.one (one_cons rfl one_nil))) (fun w25 sw25 fw25 cw25 => ?_)
    have zw25 := cw25.size
    have gw25 : Blk w25 b23 [.bool n1, s122, .int .i64 p1] 31 := fw25
    refine wl_nil ?_
    refine q_n (k17 _ _ ?_)
    refine sx_sub (Sub.cons (t := 1) rfl (.cons (t := 2) rfl (.cons (t := 4) rfl (.cons (t := 5) rfl (.nil))))) ?_
    refine sx_seq fun K27 k27 => ?_
    refine sx_region ?_
    refine sx_pure rfl rfl rfl (px_load rfl (gw25.loadA (vs := [.bool n1, s122, .int .i64 p1]) (look_lit rfl) Try.isAgg31 Try.sizeOf31)) ?_
    have f28 := f26.chg cw25 (by omega)
    refine sx_call rfl rfl Try.call18 (c_iDecOk f28.sv (by omega)) (fun v29 w29 p29 => ?_)
    obtain ⟨rfl, c29⟩ := p29
    have zw29 := c29.size
    refine sx_pure rfl rfl rfl (px_assign rfl) ?_
    refine wl_nil ?_
    refine q_n (k27 _ _ ?_)
    refine sx_seq fun K30 k30 => ?_
    refine sx_seq fun K31 k31 => ?_
    refine sx_region ?_
    refine sx_pure rfl rfl rfl (px_move rfl) ?_
    refine sx_pure rfl rfl rfl (px_move rfl) ?_
    refine sx_pure rfl rfl rfl (px_neB Try.underlying4 rfl rfl) ?_
    refine wl_nil ?_
    refine q_n (k31 _ _ ?_)
    have h4251 : ((decide (DOk n1 z1 p1)) != (decide (DOk n1 z1 p1))) = false := by simp
    refine sx_condBF rfl h4251 ?_
    refine sx_skip ?_
    refine q_n (k30 _ _ ?_)
    refine sx_seq fun K32 k32 => ?_
    refine sx_seq fun K33 k33 => ?_
    have f34 := f19.ext c22
    have f35 := f34.ext cb23
    have f36 := f35.chg cw25 (by omega)
    have f37 := f36.ext c29
    have f38 := gw25.ext c29
    have f39 := f21.ext c22
    have f40 := f39.ext cb23
    have f41 := f40.chg cw25 (by omega)
    have f42 := f41.ext c29
    have f43 := os1_15.ext c16
    have f44 := f43.ext c22
    have f45 := f44.ext cb23
    have f46 := f45.chg cw25 (by omega)
    have f47 := f46.ext c29
    have f48 := f28.ext c29
    refine dx_region (fun w' => Chg 0 0 w29 w') (by kernel_rfl) (Chg.zero (Chg.drew _)) ?_
    have d49 := Chg.drew w29
    have s49 : Chg 0 0 w29 (World.drew w29) := Chg.zero (Chg.drew _)
    have y49 : (World.drew w29).heap.size = w29.heap.size := rfl
    generalize World.drew w29 = w49 at *
    have zw49 := d49.size
    refine dx_take 0 rfl rfl rfl rfl (by kernel_rfl) (by kernel_rfl) (by kernel_rfl) s49 (fun _ hS => px_load rfl ((f38.chg hS (by omega)).loadA (vs := [.bool n1, s122, .int .i64 p1]) (look_lit rfl) Try.isAgg31 Try.sizeOf31)) ?_
    refine dx_take 1 rfl rfl rfl rfl (by kernel_rfl) (by kernel_rfl) (by kernel_rfl) s49 (fun _ hS => px_load rfl ((f37.chg hS (by omega)).loadA (vs := [.bool n1, v1, .int .i64 p1]) (look_lit rfl) Try.isAgg26 Try.sizeOf26)) ?_
    refine dx_eff 2 rfl (by kernel_rfl) ?_
    have f50 := f42.ext d49
    refine sx_call rfl rfl Try.call17 (c_toDec f50 (by omega)) (fun v51 w51 p51 => ?_)
    obtain ⟨s151, rfl, os1_51, c51⟩ := p51
    have zw51 := c51.size
    have q53 := Chg.step (l := 0) (h := 0) d49 c51 (by omega)
    have s52 : Chg 0 0 w29 w51 := q53
    refine wl_nil ?_
    refine dx_next s52 ?_
    refine dx_eff 3 rfl (by kernel_rfl) ?_
    have f54 := f48.ext d49
    have f55 := f54.ext c51
    refine sx_call rfl rfl Try.call19 (c_eqDec f55.sv os1_51.sv (by omega)) (fun v56 w56 p56 => ?_)
    obtain ⟨rfl, c56⟩ := p56
    have zw56 := c56.size
    have q58 := Chg.step (l := 0) (h := 0) d49 c51 (by omega)
    have q59 := Chg.step (l := 0) (h := 0) q58 c56 (by omega)
    have s57 : Chg 0 0 w29 w56 := q59
    refine wl_nil ?_
    refine dx_next s57 ?_
    refine dx_take 4 rfl rfl rfl rfl (by kernel_rfl) (by kernel_rfl) (by kernel_rfl) s57 (fun _ hS => px_notP rfl) ?_
    refine dx_done (by kernel_rfl) ?_
    refine q_n (k33 _ _ ?_)
    refine sx_sub (Sub.cons (t := 2) rfl (.cons (t := 26) rfl (.nil))) ?_
    have h4254 : ¬ (¬ (n1 = n1 ∧ z1 = z1 ∧ p1 = p1)) := by simp
    refine sx_condPF rfl h4254 ?_
    refine sx_skip ?_
    refine q_n (k32 _ _ ?_)
    refine sx_seq fun K60 k60 => ?_
    refine sx_region ?_
    refine sx_pure rfl rfl rfl (px_assign rfl) ?_
    refine wl_nil ?_
    refine q_n (k60 _ _ ?_)
    refine sx_retc ?_
    refine sx_ret1 Try.results3 rfl ?_
    have q61 := Chg.step (l := 0) (h := 0) cb2 c7 (by omega)
    have q62 := Chg.step (l := 0) (h := 0) q61 c15 (by omega)
    have q63 := Chg.step (l := 0) (h := 0) q62 c16 (by omega)
    have q64 := Chg.step (l := 0) (h := 0) q63 c22 (by omega)
    have q65 := Chg.step (l := 0) (h := 0) q64 cb23 (by omega)
    have q66 := Chg.step (l := 0) (h := 0) q65 cw25 (by omega)
    have q67 := Chg.step (l := 0) (h := 0) q66 c29 (by omega)
    have q68 := Chg.step (l := 0) (h := 0) q67 d49 (by omega)
    have q69 := Chg.step (l := 0) (h := 0) q68 c51 (by omega)
    have q70 := Chg.step (l := 0) (h := 0) q69 c56 (by omega)
    exact ⟨rfl, q70⟩

end Go.Proofs.Yteiifmkclokgnaa
