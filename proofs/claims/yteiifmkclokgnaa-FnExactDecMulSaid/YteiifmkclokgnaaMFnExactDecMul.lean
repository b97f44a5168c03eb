/- Contracts of functions of the program: what each call returns, and that it changes nothing that was. Conditions: as each says. -/
import Derived.Test.YteiifmkclokgnaaTy
import Derived.Test.YteiifmkclokgnaaNatD
set_option linter.unusedVariables false
set_option linter.unusedSimpArgs false
namespace Go.Proofs.Yteiifmkclokgnaa
open Go Go.RowKit
set_option maxRecDepth 100000
theorem c_szIntS {w : World} {va : Value} {lva uva : Nat} {zs : List Int} {n : Int} (hva : Sl w lva uva va (zs)) (bzs : zs.length ≤ 9223372036854775807) (hn : 0 ≤ n ∧ n ≤ 1048576) :
    Ret Try.prog 74 [va, .int .i64 n] w fun v w' => ∃ r, v = .int .i64 (r) ∧ (r < 0 ∨ (0 ≤ r ∧ r = n - (zs).length)) ∧ Chg 0 0 w w' := by
  have hva0 := hva.fit
  refine sx_enter Try.func74 rfl Try.ntmps74 (Nat.le_of_ble_eq_true rfl) ?_
  refine sx_seq fun K1 k1 => ?_
  refine sx_region ?_
  refine sx_pure rfl rfl rfl (px_assign rfl) ?_
  refine wl_nil ?_
  refine q_n (k1 _ _ ?_)
  refine sx_seq fun K2 k2 => ?_
  refine sx_region ?_
  refine sx_pure rfl rfl rfl (px_move rfl) ?_
  refine sx_pure rfl rfl rfl (px_move rfl) ?_
  refine sx_pure rfl rfl rfl (px_len rfl Try.underlying22 hva0) ?_
  refine sx_pure rfl rfl rfl (px_sub rfl rfl (by omega)) ?_
  refine sx_pure rfl rfl rfl (px_assign rfl) ?_
  refine wl_nil ?_
  refine q_n (k2 _ _ ?_)
  refine sx_seq fun K3 k3 => ?_
  refine sx_seq fun K4 k4 => ?_
  refine sx_region ?_
  refine sx_pure rfl rfl rfl (px_move rfl) ?_
  refine sx_pure rfl rfl rfl (px_lt rfl rfl) ?_
  refine wl_nil ?_
  refine q_n (k4 _ _ ?_)
  refine sx_condP rfl (fun h248 => ?_) (fun h248 => ?_)
  ·
    refine sx_seq fun K5 k5 => ?_
    refine sx_region ?_
    refine sx_pure rfl rfl rfl (px_assign rfl) ?_
    refine wl_nil ?_
    refine q_n (k5 _ _ ?_)
    refine sx_retc ?_
    refine q_r (sx_ret1 Try.results74 rfl ?_)
    exact ⟨_, rfl, by omega, (Chg.refl 0 0 _)⟩
  ·
    refine sx_skip ?_
    refine q_n (k3 _ _ ?_)
    refine sx_seq fun K6 k6 => ?_
    refine sx_region ?_
    refine sx_pure rfl rfl rfl (px_move rfl) ?_
    refine sx_pure rfl rfl rfl (px_assign rfl) ?_
    refine wl_nil ?_
    refine q_n (k6 _ _ ?_)
    refine sx_retc ?_
    refine sx_ret1 Try.results74 rfl ?_
    exact ⟨_, rfl, by omega, (Chg.refl 0 0 _)⟩

theorem c_szSigned {w : World} {n1 : Bool} {v1 : Value} {lv1 uv1 : Nat} {z1 : List Int} {n : Int} (hv1 : Sl w lv1 uv1 v1 (z1)) (bz1 : z1.length ≤ 9223372036854775807) (hn : 0 ≤ n ∧ n ≤ 1048576) :
    Ret Try.prog 40 [.agg #[.bool n1, v1], .int .i64 n] w fun v w' => ∃ r, v = .int .i64 (r) ∧ (r < 0 ∨ (0 ≤ r ∧ r = n - (z1).length)) ∧ Chg 0 0 w w' := by
  have hv10 := hv1.fit
  refine sx_enter Try.func40 rfl Try.ntmps40 (Nat.le_of_ble_eq_true rfl) ?_
  refine sx_seq fun K1 k1 => ?_
  refine sx_region ?_
  refine sx_box [.bool n1, v1] rfl rfl rfl (fun b2 w3 eb2 sb2 fb2 cb2 => ?_)
  have zw3 := cb2.size
  refine sx_pure rfl rfl rfl (px_assign rfl) ?_
  refine wl_nil ?_
  refine q_n (k1 _ _ ?_)
  refine sx_seq fun K4 k4 => ?_
  refine sx_region ?_
  refine sx_pure rfl rfl rfl (px_field rfl xfld24x1) ?_
  refine sx_pure rfl rfl rfl (px_load rfl (fb2.load1 rfl Try.isAgg22)) ?_
  refine sx_pure rfl rfl rfl (px_move rfl) ?_
  have f5 := hv10.ext cb2
  refine sx_call rfl rfl Try.call74 (c_szIntS f5 (by omega) (by omega)) (fun v6 w6 p6 => ?_)
  obtain ⟨r6, rfl, hr6, c6⟩ := p6
  have zw6 := c6.size
  refine sx_pure rfl rfl rfl (px_assign rfl) ?_
  refine wl_nil ?_
  refine q_n (k4 _ _ ?_)
  refine sx_seq fun K7 k7 => ?_
  refine sx_seq fun K8 k8 => ?_
  refine sx_region ?_
  refine sx_pure rfl rfl rfl (px_move rfl) ?_
  refine sx_pure rfl rfl rfl (px_lt rfl rfl) ?_
  refine wl_nil ?_
  refine q_n (k8 _ _ ?_)
  refine sx_condP rfl (fun h256 => ?_) (fun h256 => ?_)
  ·
    refine sx_seq fun K9 k9 => ?_
    refine sx_region ?_
    refine sx_pure rfl rfl rfl (px_assign rfl) ?_
    refine wl_nil ?_
    refine q_n (k9 _ _ ?_)
    refine sx_retc ?_
    refine q_r (sx_ret1 Try.results40 rfl ?_)
    have q10 := Chg.step (l := 0) (h := 0) cb2 c6 (by omega)
    exact ⟨_, rfl, by omega, q10⟩
  ·
    refine sx_skip ?_
    refine q_n (k7 _ _ ?_)
    refine sx_seq fun K11 k11 => ?_
    refine sx_region ?_
    refine sx_pure rfl rfl rfl (px_move rfl) ?_
    refine sx_pure rfl rfl rfl (px_assign rfl) ?_
    refine wl_nil ?_
    refine q_n (k11 _ _ ?_)
    refine sx_retc ?_
    refine sx_ret1 Try.results40 rfl ?_
    have q12 := Chg.step (l := 0) (h := 0) cb2 c6 (by omega)
    exact ⟨_, rfl, by omega, q12⟩

theorem c_szDec {w : World} {n1 : Bool} {v1 : Value} {lv1 uv1 : Nat} {z1 : List Int} {p1 : Int} {n : Int} (hv1 : Sl w lv1 uv1 v1 (z1)) (bz1 : z1.length ≤ 9223372036854775807) (hn : 0 ≤ n ∧ n ≤ 1048576) :
    Ret Try.prog 15 [.agg #[.bool n1, v1, .int .i64 p1], .int .i64 n] w fun v w' => ∃ r, v = .int .i64 (r) ∧ (r < 0 ∨ (0 ≤ r ∧ r = n - (z1).length)) ∧ Chg 0 0 w w' := by
  have hv10 := hv1.fit
  refine sx_enter Try.func15 rfl Try.ntmps15 (Nat.le_of_ble_eq_true rfl) ?_
  refine sx_seq fun K1 k1 => ?_
  refine sx_region ?_
  refine sx_box [.bool n1, v1, .int .i64 p1] rfl rfl rfl (fun b2 w3 eb2 sb2 fb2 cb2 => ?_)
  have zw3 := cb2.size
  refine sx_pure rfl rfl rfl (px_assign rfl) ?_
  refine wl_nil ?_
  refine q_n (k1 _ _ ?_)
  refine sx_seq fun K4 k4 => ?_
  refine sx_region ?_
  refine sx_pure rfl rfl rfl (px_field rfl xfld26x0) ?_
  refine sx_pure rfl rfl rfl (px_load rfl (fb2.loadA (vs := [.bool n1, v1]) (look_lit rfl) Try.isAgg24 Try.sizeOf24)) ?_
  refine sx_pure rfl rfl rfl (px_move rfl) ?_
  have f5 := hv10.ext cb2
  refine sx_call rfl rfl Try.call40 (c_szSigned f5 (by omega) (by omega)) (fun v6 w6 p6 => ?_)
  obtain ⟨r6, rfl, hr6, c6⟩ := p6
  have zw6 := c6.size
  refine sx_pure rfl rfl rfl (px_assign rfl) ?_
  refine wl_nil ?_
  refine q_n (k4 _ _ ?_)
  refine sx_seq fun K7 k7 => ?_
  refine sx_seq fun K8 k8 => ?_
  refine sx_region ?_
  refine sx_pure rfl rfl rfl (px_move rfl) ?_
  refine sx_pure rfl rfl rfl (px_lt rfl rfl) ?_
  refine wl_nil ?_
  refine q_n (k8 _ _ ?_)
  refine sx_condP rfl (fun h398 => ?_) (fun h398 => ?_)
  ·
    refine sx_seq fun K9 k9 => ?_
    refine sx_region ?_
    refine sx_pure rfl rfl rfl (px_assign rfl) ?_
    refine wl_nil ?_
    refine q_n (k9 _ _ ?_)
    refine sx_retc ?_
    refine q_r (sx_ret1 Try.results15 rfl ?_)
    have q10 := Chg.step (l := 0) (h := 0) cb2 c6 (by omega)
    exact ⟨_, rfl, by omega, q10⟩
  ·
    refine sx_skip ?_
    refine q_n (k7 _ _ ?_)
    refine sx_seq fun K11 k11 => ?_
    refine sx_region ?_
    refine sx_pure rfl rfl rfl (px_move rfl) ?_
    refine sx_pure rfl rfl rfl (px_assign rfl) ?_
    refine wl_nil ?_
    refine q_n (k11 _ _ ?_)
    refine sx_retc ?_
    refine sx_ret1 Try.results15 rfl ?_
    have q12 := Chg.step (l := 0) (h := 0) cb2 c6 (by omega)
    exact ⟨_, rfl, by omega, q12⟩

theorem c_toIntS {w : World} {va : Value} {lva uva : Nat} {zs : List Int} (hva : Sl w lva uva va (zs)) (h63 : zs.length ≤ 1048576) :
    Ret Try.prog 43 [va] w fun v w' => ∃ s, v = s ∧ OwnI w' w.heap.size w'.heap.size s intT (zs) ∧ Chg 0 0 w w' := by
  have hva0 := hva.fit
  refine sx_enter Try.func43 rfl Try.ntmps43 (Nat.le_of_ble_eq_true rfl) ?_
  refine sx_seq fun K1 k1 => ?_
  refine sx_region ?_
  refine sx_pure rfl rfl rfl (px_assign rfl) ?_
  refine wl_nil ?_
  refine q_n (k1 _ _ ?_)
  refine sx_seq fun K2 k2 => ?_
  refine sx_region ?_
  refine sx_pure rfl rfl rfl (px_move rfl) ?_
  refine sx_pure rfl rfl rfl (px_len rfl Try.underlying22 hva0) ?_
  refine sx_make (c := (zs).length) rfl xelt22 (rfl) (rfl) (by omega) (by unfold maxLen; omega) (fun s3 ws3 fs3 cs3 ls3 => ?_)
  have ns3 := fs3.made
  have zws3 := cs3.size
  refine sx_pure rfl rfl rfl (px_assign rfl) ?_
  refine wl_nil ?_
  refine q_n (k2 _ _ ?_)
  refine sx_seq fun K4 k4 => ?_
  refine sx_seq fun K5 k5 => ?_
  refine sx_region ?_
  refine sx_pure rfl rfl rfl (px_assign rfl) ?_
  refine wl_nil ?_
  refine q_n (k5 _ _ ?_)
  refine sx_block ?_
  refine sx_loop (fun mm aa w' => ∃ (k : Nat) (os : List Int), Agr 22 [(0, va), (3, s3), (4, .int .i64 ↑k)] aa ∧ Chg w.heap.size ws3.heap.size ws3 w' ∧ Own w' w.heap.size ws3.heap.size s3 3 os.length 1 (os.map (Value.int .i64)) ∧ (mm = zs.length - k) ∧ (k ≤ zs.length) ∧ (os.length = zs.length) ∧ (os.take k = zs.take k)) (_) (fun a ha => ⟨0, List.replicate zs.length 0, ha.sub (Sub.cons (t := 0) rfl (.cons (t := 3) rfl (.cons (t := 4) (look_int (t := 4) rfl (by first | omega | simp)) (.nil)))), Chg.refl _ _ _, (ns3.mono (by omega) (by omega)), rfl, by omega, by simp, by simp⟩) ?_
  rintro mm aa wl6 ⟨k, os, hAwl6, cwl6, hs_s3, hm, hk, ho, he⟩
  refine (show cw Try.prog 22 _ _ _ wl6 from ?_) aa hAwl6
  clear hAwl6
  have zwl6 := cwl6.size
  refine sx_seq fun K7 k7 => ?_
  refine sx_seq fun K8 k8 => ?_
  refine sx_region ?_
  refine sx_pure rfl rfl rfl (px_move rfl) ?_
  refine sx_pure rfl rfl rfl (px_move rfl) ?_
  have f9 := hva0.ext cs3
  have f10 := f9.chg cwl6 (by omega)
  refine sx_pure rfl rfl rfl (px_len rfl Try.underlying22 f10) ?_
  refine sx_pure rfl rfl rfl (px_lt rfl rfl) ?_
  refine wl_nil ?_
  refine q_n (k8 _ _ ?_)
  refine sx_condP rfl (fun h203 => ?_) (fun h203 => ?_)
  ·
    refine sx_skip ?_
    refine q_n (k7 _ _ ?_)
    refine sx_seq fun K11 k11 => ?_
    refine sx_block ?_
    refine sx_region ?_
    refine sx_pure rfl rfl rfl (px_move rfl) ?_
    refine sx_pure rfl rfl rfl (px_move rfl) ?_
    refine sx_pure rfl rfl rfl (px_move rfl) ?_
    refine sx_pure rfl rfl rfl (px_move rfl) ?_
    refine sx_pure rfl rfl rfl (px_index1 (j := k) rfl rfl (by omega) Try.underlying22 Try.sizeOf3 f10 (by omega)) ?_
    refine sx_pure rfl rfl rfl (px_load rfl (f10.load1 (at_int (by omega)) Try.isAgg3)) ?_
    refine sx_pure rfl rfl rfl (px_index1 (j := k) rfl rfl (by omega) Try.underlying22 Try.sizeOf3 hs_s3.sv (by omega)) ?_
    refine sx_storeO rfl rfl hs_s3 (by simp only [List.length_map]; omega) Try.sizeOf3 rfl (fun w12 sw12 fw12 cw12 => ?_)
    have zw12 := cw12.size
    have nw12 := fw12.set
    refine wl_nil ?_
    refine q_bn (q_n (k11 _ _ ?_))
    refine sx_region ?_
    refine sx_pure rfl rfl rfl (px_move rfl) ?_
    refine sx_pure rfl rfl rfl (px_add rfl rfl (by omega)) ?_
    refine sx_pure rfl rfl rfl (px_assign rfl) ?_
    refine wl_nil ?_
    have q13 := Chg.step (l := w.heap.size) (h := ws3.heap.size) cwl6 cw12 (by omega)
    exact fun a ha => ⟨_, by omega, (k + 1), (os.set k (zs.getD k 0)), ha.sub (Sub.cons (t := 0) rfl (.cons (t := 3) rfl (.cons (t := 4) (look_int (t := 4) rfl (by first | omega | simp)) (.nil)))), q13, (nw12.mono (by omega) (by omega)), rfl, by omega, by simp [ho], take_set_succ he (by omega) (by omega)⟩
  ·
    refine sx_exit ?_
    refine q_e (q_e (q_bx (q_n (k4 _ _ ?_))))
    refine sx_seq fun K14 k14 => ?_
    refine sx_region ?_
    refine sx_pure rfl rfl rfl (px_move rfl) ?_
    refine sx_pure rfl rfl rfl (px_assign rfl) ?_
    refine wl_nil ?_
    refine q_n (k14 _ _ ?_)
    refine sx_retc ?_
    refine sx_ret1 Try.results43 rfl ?_
    have e1 : k = zs.length := by omega
    rw [e1, List.take_length, List.take_of_length_le (by omega)] at he
    subst he
    have q15 := Chg.step (l := 0) (h := 0) cs3 cwl6 (by omega)
    exact ⟨_, rfl, Own.mono hs_s3 (by omega) (by omega), q15⟩

theorem c_toSigned {w : World} {n1 : Bool} {v1 : Value} {lv1 uv1 : Nat} {z1 : List Int} (hv1 : Sl w lv1 uv1 v1 (z1)) (bz1 : z1.length ≤ 1048576) :
    Ret Try.prog 42 [.agg #[.bool n1, v1]] w fun v w' => ∃ s1, v = .agg #[.bool (n1), s1] ∧ OwnI w' w.heap.size w'.heap.size s1 intT (z1) ∧ Chg 0 0 w w' := by
  have hv10 := hv1.fit
  refine sx_enter Try.func42 rfl Try.ntmps42 (Nat.le_of_ble_eq_true rfl) ?_
  refine sx_seq fun K1 k1 => ?_
  refine sx_region ?_
  refine sx_box [.bool n1, v1] rfl rfl rfl (fun b2 w3 eb2 sb2 fb2 cb2 => ?_)
  have zw3 := cb2.size
  refine sx_alloc [.bool false, (.slice none 0 0)] rfl Try.zeroValue29 rfl (fun b4 w5 eb4 sb4 fb4 cb4 => ?_)
  have zw5 := cb4.size
  refine wl_nil ?_
  refine q_n (k1 _ _ ?_)
  refine sx_seq fun K6 k6 => ?_
  refine sx_region ?_
  refine sx_alloc [.bool false, (.slice none 0 0)] rfl Try.zeroValue29 rfl (fun b7 w8 eb7 sb7 fb7 cb7 => ?_)
  have zw8 := cb7.size
  refine wl_nil ?_
  refine q_n (k6 _ _ ?_)
  refine sx_seq fun K9 k9 => ?_
  refine sx_region ?_
  refine sx_pure rfl rfl rfl (px_field rfl xfld24x0) ?_
  have f10 := fb2.ext cb4
  have f11 := f10.ext cb7
  refine sx_pure rfl rfl rfl (px_load rfl (f11.load1 rfl Try.isAgg4)) ?_
  refine sx_pure rfl rfl rfl (px_field rfl xfld29x0) ?_
  refine sx_store (vs := [.bool n1]) rfl rfl fb7 rfl Try.sizeOf4 (Nat.le_of_ble_eq_true rfl) (one_cons rfl one_nil) (fun w12 sw12 fw12 cw12 => ?_)
  have zw12 := cw12.size
  have gw12 : Blk w12 b7 [.bool n1, (.slice none 0 0)] 29 := fw12
  refine wl_nil ?_
  refine q_n (k9 _ _ ?_)
  refine sx_seq fun K13 k13 => ?_
  refine sx_region ?_
  refine sx_pure rfl rfl rfl (px_field rfl xfld24x1) ?_
  have f14 := f11.chg cw12 (by omega)
  refine sx_pure rfl rfl rfl (px_load rfl (f14.load1 rfl Try.isAgg22)) ?_
  have f15 := hv10.ext cb2
  have f16 := f15.ext cb4
  have f17 := f16.ext cb7
  have f18 := f17.chg cw12 (by omega)
  refine sx_call rfl rfl Try.call43 (c_toIntS f18 (by omega)) (fun v19 w19 p19 => ?_)
  obtain ⟨s19, rfl, os_19, c19⟩ := p19
  have zw19 := c19.size
  refine sx_pure rfl rfl rfl (px_field rfl xfld29x1) ?_
  have f21 := gw12.ext c19
  refine sx_store (vs := [v19]) rfl rfl f21 (cells_one os_19.one) Try.sizeOf22 (Nat.le_of_ble_eq_true rfl) (one_cons os_19.one one_nil) (fun w20 sw20 fw20 cw20 => ?_)
  have zw20 := cw20.size
  have gw20 : Blk w20 b7 [.bool n1, v19] 29 := fw20
  refine wl_nil ?_
  refine q_n (k13 _ _ ?_)
  refine sx_seq fun K22 k22 => ?_
  refine sx_region ?_
  refine sx_pure rfl rfl rfl (px_load rfl (gw20.loadA (vs := [.bool n1, v19]) (look_lit rfl) Try.isAgg29 Try.sizeOf29)) ?_
  have f24 := fb4.ext cb7
  have f25 := f24.chg cw12 (by omega)
  have f26 := f25.ext c19
  have f27 := f26.chg cw20 (by omega)
  have f28 := os_19.chg cw20 (by omega)
  refine sx_store (vs := [.bool n1, v19]) rfl rfl f27 rfl Try.sizeOf29 (Nat.le_of_ble_eq_true rfl) (one_cons rfl (one_cons f28.one one_nil)) (fun w23 sw23 fw23 cw23 => ?_)
  have zw23 := cw23.size
  have gw23 : Blk w23 b4 [.bool n1, v19] 29 := fw23
  refine wl_nil ?_
  refine q_n (k22 _ _ ?_)
  refine sx_retc ?_
  refine sx_ret1 Try.results42 ⟨_, rfl, gw23.loadA (vs := [.bool n1, v19]) (look_lit rfl) Try.isAgg29 Try.sizeOf29⟩ ?_
  have q29 := Chg.step (l := 0) (h := 0) cb2 cb4 (by omega)
  have q30 := Chg.step (l := 0) (h := 0) q29 cb7 (by omega)
  have q31 := Chg.step (l := 0) (h := 0) q30 cw12 (by omega)
  have q32 := Chg.step (l := 0) (h := 0) q31 c19 (by omega)
  have q33 := Chg.step (l := 0) (h := 0) q32 cw20 (by omega)
  have q34 := Chg.step (l := 0) (h := 0) q33 cw23 (by omega)
  have f35 := f28.chg cw23 (by omega)
  exact ⟨_, rfl, Own.mono f35 (by omega) (by omega), q34⟩

theorem c_toDec {w : World} {n1 : Bool} {v1 : Value} {lv1 uv1 : Nat} {z1 : List Int} {p1 : Int} (hv1 : Sl w lv1 uv1 v1 (z1)) (bz1 : z1.length ≤ 1048576) :
    Ret Try.prog 17 [.agg #[.bool n1, v1, .int .i64 p1]] w fun v w' => ∃ s1, v = .agg #[.bool (n1), s1, .int .i64 (p1)] ∧ OwnI w' w.heap.size w'.heap.size s1 intT (z1) ∧ Chg 0 0 w w' := by
  have hv10 := hv1.fit
  refine sx_enter Try.func17 rfl Try.ntmps17 (Nat.le_of_ble_eq_true rfl) ?_
  refine sx_seq fun K1 k1 => ?_
  refine sx_region ?_
  refine sx_box [.bool n1, v1, .int .i64 p1] rfl rfl rfl (fun b2 w3 eb2 sb2 fb2 cb2 => ?_)
  have zw3 := cb2.size
  refine sx_alloc [.bool false, (.slice none 0 0), .int .i64 0] rfl Try.zeroValue31 rfl (fun b4 w5 eb4 sb4 fb4 cb4 => ?_)
  have zw5 := cb4.size
  refine wl_nil ?_
  refine q_n (k1 _ _ ?_)
  refine sx_seq fun K6 k6 => ?_
  refine sx_region ?_
  refine sx_alloc [.bool false, (.slice none 0 0), .int .i64 0] rfl Try.zeroValue31 rfl (fun b7 w8 eb7 sb7 fb7 cb7 => ?_)
  have zw8 := cb7.size
  refine wl_nil ?_
  refine q_n (k6 _ _ ?_)
  refine sx_seq fun K9 k9 => ?_
  refine sx_region ?_
  refine sx_pure rfl rfl rfl (px_field rfl xfld26x0) ?_
  have f10 := fb2.ext cb4
  have f11 := f10.ext cb7
  refine sx_pure rfl rfl rfl (px_load rfl (f11.loadA (vs := [.bool n1, v1]) (look_lit rfl) Try.isAgg24 Try.sizeOf24)) ?_
  have f12 := hv10.ext cb2
  have f13 := f12.ext cb4
  have f14 := f13.ext cb7
  refine sx_call rfl rfl Try.call42 (c_toSigned f14 (by omega)) (fun v15 w15 p15 => ?_)
  obtain ⟨s115, rfl, os1_15, c15⟩ := p15
  have zw15 := c15.size
  refine sx_pure rfl rfl rfl (px_field rfl xfld31x0) ?_
  have f17 := fb7.ext c15
  refine sx_store (vs := [.bool n1, s115]) rfl rfl f17 rfl Try.sizeOf29 (Nat.le_of_ble_eq_true rfl) (one_cons rfl (one_cons os1_15.one one_nil)) (fun w16 sw16 fw16 cw16 => ?_)
  have zw16 := cw16.size
  have gw16 : Blk w16 b7 [.bool n1, s115, .int .i64 0] 31 := fw16
  refine wl_nil ?_
  refine q_n (k9 _ _ ?_)
  refine sx_seq fun K18 k18 => ?_
  refine sx_region ?_
  refine sx_pure rfl rfl rfl (px_field rfl xfld26x1) ?_
  have f19 := f11.ext c15
  have f20 := f19.chg cw16 (by omega)
  refine sx_pure rfl rfl rfl (px_load rfl (f20.load1 rfl Try.isAgg3)) ?_
  refine sx_pure rfl rfl rfl (px_field rfl xfld31x1) ?_
  refine sx_store (vs := [.int .i64 p1]) rfl rfl gw16 rfl Try.sizeOf3 (Nat.le_of_ble_eq_true rfl) (one_cons rfl one_nil) (fun w21 sw21 fw21 cw21 => ?_)
  have zw21 := cw21.size
  have gw21 : Blk w21 b7 [.bool n1, s115, .int .i64 p1] 31 := fw21
  refine wl_nil ?_
  refine q_n (k18 _ _ ?_)
  refine sx_seq fun K22 k22 => ?_
  refine sx_region ?_
  refine sx_pure rfl rfl rfl (px_load rfl (gw21.loadA (vs := [.bool n1, s115, .int .i64 p1]) (look_lit rfl) Try.isAgg31 Try.sizeOf31)) ?_
  have f24 := fb4.ext cb7
  have f25 := f24.ext c15
  have f26 := f25.chg cw16 (by omega)
  have f27 := f26.chg cw21 (by omega)
  have f28 := os1_15.chg cw16 (by omega)
  have f29 := f28.chg cw21 (by omega)
  refine sx_store (vs := [.bool n1, s115, .int .i64 p1]) rfl rfl f27 rfl Try.sizeOf31 (Nat.le_of_ble_eq_true rfl) (one_cons rfl (one_cons f29.one (one_cons rfl one_nil))) (fun w23 sw23 fw23 cw23 => ?_)
  have zw23 := cw23.size
  have gw23 : Blk w23 b4 [.bool n1, s115, .int .i64 p1] 31 := fw23
  refine wl_nil ?_
  refine q_n (k22 _ _ ?_)
  refine sx_retc ?_
  refine sx_ret1 Try.results17 ⟨_, rfl, gw23.loadA (vs := [.bool n1, s115, .int .i64 p1]) (look_lit rfl) Try.isAgg31 Try.sizeOf31⟩ ?_
  have q30 := Chg.step (l := 0) (h := 0) cb2 cb4 (by omega)
  have q31 := Chg.step (l := 0) (h := 0) q30 cb7 (by omega)
  have q32 := Chg.step (l := 0) (h := 0) q31 c15 (by omega)
  have q33 := Chg.step (l := 0) (h := 0) q32 cw16 (by omega)
  have q34 := Chg.step (l := 0) (h := 0) q33 cw21 (by omega)
  have q35 := Chg.step (l := 0) (h := 0) q34 cw23 (by omega)
  have f36 := f29.chg cw23 (by omega)
  exact ⟨_, rfl, Own.mono f36 (by omega) (by omega), q35⟩

theorem c_l01In {w : World} {n : Int} {lo : Int} {hi : Int} :
    Ret Try.prog 61 [.int .i64 n, .int .i64 lo, .int .i64 hi] w fun v w' => v = .bool (decide (lo ≤ n ∧ n ≤ hi)) ∧ Chg 0 0 w w' := by
  refine sx_enter Try.func61 rfl Try.ntmps61 (Nat.le_of_ble_eq_true rfl) ?_
  refine sx_seq fun K1 k1 => ?_
  refine sx_region ?_
  refine sx_pure rfl rfl rfl (px_assign rfl) ?_
  refine wl_nil ?_
  refine q_n (k1 _ _ ?_)
  refine sx_seq fun K2 k2 => ?_
  refine sx_region ?_
  refine sx_pure rfl rfl rfl (px_move rfl) ?_
  refine sx_pure rfl rfl rfl (px_move rfl) ?_
  refine sx_pure rfl rfl rfl (px_ge rfl rfl) ?_
  refine sx_pure rfl rfl rfl (px_move rfl) ?_
  refine sx_tmpP (t := 10) rfl (fun h5 => ?_) (fun h5 => ?_)
  ·
    refine sx_guardT rfl rfl rfl ?_
    refine sx_pure rfl rfl rfl (px_move rfl) ?_
    refine sx_guardT rfl rfl rfl ?_
    refine sx_pure rfl rfl rfl (px_move rfl) ?_
    refine sx_guardT rfl rfl rfl ?_
    refine sx_pure rfl rfl rfl (px_le rfl rfl) ?_
    refine sx_pure rfl rfl rfl (px_pick rfl rfl) ?_
    refine sx_pure rfl rfl rfl (px_assign rfl) ?_
    refine wl_nil ?_
    refine q_n (k2 _ _ ?_)
    refine sx_retc ?_
    refine sx_ret1 Try.results61 rfl ?_
    exact ⟨(by first | exact bIff (by omega) | exact bFalse (by omega) | exact bTrue (by omega)), (Chg.refl 0 0 _)⟩
  ·
    refine sx_guardF rfl rfl rfl rfl rfl rfl ?_
    refine sx_guardF rfl rfl rfl rfl rfl rfl ?_
    refine sx_guardF rfl rfl rfl rfl rfl rfl ?_
    refine sx_pure rfl rfl rfl (px_pick rfl rfl) ?_
    refine sx_pure rfl rfl rfl (px_assign rfl) ?_
    refine wl_nil ?_
    refine q_n (k2 _ _ ?_)
    refine sx_retc ?_
    refine sx_ret1 Try.results61 rfl ?_
    exact ⟨(by first | exact bIff (by omega) | exact bFalse (by omega) | exact bTrue (by omega)), (Chg.refl 0 0 _)⟩

theorem c_sNatOk {w : World} {va : Value} {lva uva : Nat} {zs : List Int} (hva : Sl w lva uva va (zs)) (h63 : zs.length ≤ 4611686018427387904) :
    Ret Try.prog 103 [va] w fun v w' => v = .bool (decide (NOk zs)) ∧ Chg 0 0 w w' := by
  have hva0 := hva.fit
  refine sx_enter Try.func103 rfl Try.ntmps103 (Nat.le_of_ble_eq_true rfl) ?_
  refine sx_seq fun K1 k1 => ?_
  refine sx_region ?_
  refine sx_pure rfl rfl rfl (px_assign rfl) ?_
  refine wl_nil ?_
  refine q_n (k1 _ _ ?_)
  refine sx_seq fun K2 k2 => ?_
  refine sx_seq fun K3 k3 => ?_
  refine sx_region ?_
  refine sx_pure rfl rfl rfl (px_move rfl) ?_
  refine sx_pure rfl rfl rfl (px_len rfl Try.underlying22 hva0) ?_
  refine sx_pure rfl rfl rfl (px_move rfl) ?_
  refine wl_nil ?_
  refine q_n (k3 _ _ ?_)
  refine sx_block ?_
  refine sx_loop (fun mm aa w' => ∃ (k : Nat), Agr 32 [(0, va), (5, va), (6, .int .i64 ↑zs.length), (7, .int .i64 ↑k)] aa ∧ Chg 0 0 w w' ∧ (mm = zs.length - k) ∧ (k ≤ zs.length) ∧ (∀ i, i < k → 0 ≤ zs.getD i 0 ∧ zs.getD i 0 < 1000000000)) (_) (fun a ha => ⟨0, ha.sub (Sub.cons (t := 0) rfl (.cons (t := 5) rfl (.cons (t := 6) (look_int (t := 6) rfl (by first | omega | simp)) (.cons (t := 7) (look_int (t := 7) rfl (by first | omega | simp)) (.nil))))), Chg.refl _ _ _, rfl, by omega, fun i h => by omega⟩) ?_
  rintro mm aa wl4 ⟨k, hAwl4, cwl4, hm, hk, hall⟩
  refine (show cw Try.prog 32 _ _ _ wl4 from ?_) aa hAwl4
  clear hAwl4
  have zwl4 := cwl4.size
  refine sx_seq fun K5 k5 => ?_
  refine sx_region ?_
  refine sx_pure rfl rfl rfl (px_lt rfl rfl) ?_
  refine wl_nil ?_
  refine q_n (k5 _ _ ?_)
  refine sx_seq fun K6 k6 => ?_
  refine sx_condP rfl (fun h7 => ?_) (fun h7 => ?_)
  ·
    refine sx_skip ?_
    refine q_n (k6 _ _ ?_)
    refine sx_seq fun K7 k7 => ?_
    refine sx_block ?_
    refine sx_seq fun K8 k8 => ?_
    refine sx_region ?_
    have f9 := hva0.ext cwl4
    refine sx_pure rfl rfl rfl (px_index1 (j := k) rfl rfl (by omega) Try.underlying22 Try.sizeOf3 f9 (by omega)) ?_
    refine sx_pure rfl rfl rfl (px_load rfl (f9.load1 (at_int (by omega)) Try.isAgg3)) ?_
    refine sx_pure rfl rfl rfl (px_assign rfl) ?_
    refine wl_nil ?_
    refine q_n (k8 _ _ ?_)
    refine sx_seq fun K10 k10 => ?_
    refine sx_region ?_
    refine sx_pure rfl rfl rfl (px_move rfl) ?_
    refine sx_call rfl rfl Try.call61 (c_l01In) (fun v11 w11 p11 => ?_)
    obtain ⟨rfl, c11⟩ := p11
    have zw11 := c11.size
    refine sx_pure rfl rfl rfl (px_notP rfl) ?_
    refine wl_nil ?_
    refine q_n (k10 _ _ ?_)
    refine sx_condP rfl (fun h8 => ?_) (fun h8 => ?_)
    ·
      refine sx_seq fun K12 k12 => ?_
      refine sx_region ?_
      refine sx_pure rfl rfl rfl (px_assign rfl) ?_
      refine wl_nil ?_
      refine q_n (k12 _ _ ?_)
      refine sx_retc ?_
      refine q_br (q_r (q_r (q_br (q_r (sx_ret1 Try.results103 rfl ?_)))))
      have q13 := Chg.step (l := 0) (h := 0) cwl4 c11 (by omega)
      exact ⟨bFalse (fun h => by have h1 := h.1.getD k; omega), q13⟩
    ·
      refine sx_skip ?_
      refine q_bn (q_n (k7 _ _ ?_))
      refine sx_region ?_
      refine sx_pure rfl rfl rfl (px_add rfl rfl (by omega)) ?_
      refine sx_pure rfl rfl rfl (px_move rfl) ?_
      refine wl_nil ?_
      have q14 := Chg.step (l := 0) (h := 0) cwl4 c11 (by omega)
      exact fun a ha => ⟨_, by omega, (k + 1), ha.sub (Sub.cons (t := 0) rfl (.cons (t := 5) rfl (.cons (t := 6) rfl (.cons (t := 7) (look_int (t := 7) rfl (by first | omega | simp)) (.nil))))), q14, rfl, by omega, lm_succ hall (by omega)⟩
  ·
    refine sx_exit ?_
    refine q_e (q_e (q_bx (q_n (k2 _ _ ?_))))
    refine sx_seq fun K15 k15 => ?_
    have ek : k = zs.length := by omega
    have hz : Lm zs := lm_mem (by rw [← ek]; exact hall)
    refine sx_region ?_
    refine sx_pure rfl rfl rfl (px_move rfl) ?_
    have f16 := hva0.ext cwl4
    refine sx_pure rfl rfl rfl (px_len rfl Try.underlying22 f16) ?_
    refine sx_pure rfl rfl rfl (px_le rfl rfl) ?_
    refine sx_pure rfl rfl rfl (px_move rfl) ?_
    refine sx_tmpP (t := 18) rfl (fun h12 => ?_) (fun h12 => ?_)
    ·
      refine sx_guardT rfl rfl rfl ?_
      refine sx_pure rfl rfl rfl (px_move rfl) ?_
      refine sx_guardT rfl rfl rfl ?_
      refine sx_pure rfl rfl rfl (px_len rfl Try.underlying22 f16) ?_
      refine sx_guardT rfl rfl rfl ?_
      refine sx_pure rfl rfl rfl (px_eq rfl rfl) ?_
      refine sx_guardT rfl rfl rfl ?_
      refine sx_pure rfl rfl rfl (px_move rfl) ?_
      refine sx_tmpP (t := 22) rfl (fun h12x1 => ?_) (fun h12x1 => ?_)
      ·
        refine sx_guardF rfl rfl rfl rfl rfl rfl ?_
        refine sx_guardF rfl rfl rfl rfl rfl rfl ?_
        refine sx_guardF rfl rfl rfl rfl rfl rfl ?_
        refine sx_guardF rfl rfl rfl rfl rfl rfl ?_
        refine sx_guardF rfl rfl rfl rfl rfl rfl ?_
        refine sx_guardF rfl rfl rfl rfl rfl rfl ?_
        refine sx_guardF rfl rfl rfl rfl rfl rfl ?_
        refine sx_guardT rfl rfl rfl ?_
        refine sx_pure rfl rfl rfl (px_pick rfl rfl) ?_
        refine sx_pure rfl rfl rfl (px_pick rfl rfl) ?_
        refine sx_pure rfl rfl rfl (px_assign rfl) ?_
        refine wl_nil ?_
        refine q_n (k15 _ _ ?_)
        refine sx_sub (Sub.cons (t := 2) rfl (.nil)) ?_
        refine sx_retc ?_
        refine sx_ret1 Try.results103 rfl ?_
        exact ⟨(by first | exact bFalse (fun h => by have h1 := h.2.1; omega) | exact bTrue (NOk_mk hz (by omega) (.inl (by omega))) | exact bIff (NOk_iff hz (by omega) (by omega))), cwl4⟩
      ·
        refine sx_guardT rfl rfl rfl ?_
        refine sx_pure rfl rfl rfl (px_move rfl) ?_
        refine sx_guardT rfl rfl rfl ?_
        refine sx_pure rfl rfl rfl (px_move rfl) ?_
        refine sx_guardT rfl rfl rfl ?_
        refine sx_pure rfl rfl rfl (px_len rfl Try.underlying22 f16) ?_
        refine sx_guardT rfl rfl rfl ?_
        refine sx_pure rfl rfl rfl (px_sub rfl rfl (by omega)) ?_
        refine sx_guardT rfl rfl rfl ?_
        refine sx_pure rfl rfl rfl (px_index1 (j := (zs.length - 1)) rfl rfl (by omega) Try.underlying22 Try.sizeOf3 f16 (by omega)) ?_
        refine sx_guardT rfl rfl rfl ?_
        refine sx_pure rfl rfl rfl (px_load rfl (f16.load1 (at_int (by omega)) Try.isAgg3)) ?_
        refine sx_guardT rfl rfl rfl ?_
        refine sx_pure rfl rfl rfl (px_ne rfl rfl) ?_
        refine sx_guardT rfl rfl rfl ?_
        refine sx_pure rfl rfl rfl (px_pick rfl rfl) ?_
        refine sx_pure rfl rfl rfl (px_pick rfl rfl) ?_
        refine sx_pure rfl rfl rfl (px_assign rfl) ?_
        refine wl_nil ?_
        refine q_n (k15 _ _ ?_)
        refine sx_sub (Sub.cons (t := 2) rfl (.nil)) ?_
        refine sx_retc ?_
        refine sx_ret1 Try.results103 rfl ?_
        exact ⟨(by first | exact bFalse (fun h => by have h1 := h.2.1; omega) | exact bTrue (NOk_mk hz (by omega) (.inl (by omega))) | exact bIff (NOk_iff hz (by omega) (by omega))), cwl4⟩
    ·
      refine sx_guardF rfl rfl rfl rfl rfl rfl ?_
      refine sx_guardF rfl rfl rfl rfl rfl rfl ?_
      refine sx_guardF rfl rfl rfl rfl rfl rfl ?_
      refine sx_guardF rfl rfl rfl rfl rfl rfl ?_
      refine sx_guardFU rfl rfl rfl rfl rfl ?_
      refine sx_guardFU rfl rfl rfl rfl rfl ?_
      refine sx_guardFU rfl rfl rfl rfl rfl ?_
      refine sx_guardFU rfl rfl rfl rfl rfl ?_
      refine sx_guardFU rfl rfl rfl rfl rfl ?_
      refine sx_guardFU rfl rfl rfl rfl rfl ?_
      refine sx_guardFU rfl rfl rfl rfl rfl ?_
      refine sx_guardF rfl rfl rfl rfl rfl rfl ?_
      refine sx_pure rfl rfl rfl (px_pick rfl rfl) ?_
      refine sx_pure rfl rfl rfl (px_assign rfl) ?_
      refine wl_nil ?_
      refine q_n (k15 _ _ ?_)
      refine sx_sub (Sub.cons (t := 2) rfl (.nil)) ?_
      refine sx_retc ?_
      refine sx_ret1 Try.results103 rfl ?_
      exact ⟨(by first | exact bFalse (fun h => by have h1 := h.2.1; omega) | exact bTrue (NOk_mk hz (by omega) (.inl (by omega))) | exact bIff (NOk_iff hz (by omega) (by omega))), cwl4⟩

theorem c_sIntOk {w : World} {n1 : Bool} {v1 : Value} {lv1 uv1 : Nat} {z1 : List Int} (hv1 : Sl w lv1 uv1 v1 (z1)) (h63 : z1.length ≤ 4611686018427387904) :
    Ret Try.prog 60 [.agg #[.bool n1, v1]] w fun v w' => v = .bool (decide (IOk n1 z1)) ∧ Chg 0 0 w w' := by
  have hv10 := hv1.fit
  refine sx_enter Try.func60 rfl Try.ntmps60 (Nat.le_of_ble_eq_true rfl) ?_
  refine sx_seq fun K1 k1 => ?_
  refine sx_region ?_
  refine sx_box [.bool n1, v1] rfl rfl rfl (fun b2 w3 eb2 sb2 fb2 cb2 => ?_)
  have zw3 := cb2.size
  refine sx_pure rfl rfl rfl (px_assign rfl) ?_
  refine wl_nil ?_
  refine q_n (k1 _ _ ?_)
  refine sx_seq fun K4 k4 => ?_
  refine sx_region ?_
  refine sx_pure rfl rfl rfl (px_field rfl xfld29x1) ?_
  refine sx_pure rfl rfl rfl (px_load rfl (fb2.load1 rfl Try.isAgg22)) ?_
  have f5 := hv10.ext cb2
  refine sx_call rfl rfl Try.call103 (c_sNatOk f5 (by omega)) (fun v6 w6 p6 => ?_)
  obtain ⟨rfl, c6⟩ := p6
  have zw6 := c6.size
  refine sx_pure rfl rfl rfl (px_move rfl) ?_
  refine sx_tmpP (t := 6) rfl (fun h6 => ?_) (fun h6 => ?_)
  ·
    refine sx_guardT rfl rfl rfl ?_
    refine sx_pure rfl rfl rfl (px_field rfl xfld29x0) ?_
    refine sx_guardT rfl rfl rfl ?_
    have f7 := fb2.ext c6
    refine sx_pure rfl rfl rfl (px_load rfl (f7.load1 rfl Try.isAgg4)) ?_
    refine sx_guardT rfl rfl rfl ?_
    refine sx_pure rfl rfl rfl (px_not rfl) ?_
    refine sx_guardT rfl rfl rfl ?_
    refine sx_pure rfl rfl rfl (px_move rfl) ?_
    refine sx_tmpB (t := 10) rfl (fun h6x1 => ?_) (fun h6x1 => ?_)
    ·
      refine sx_guardF rfl rfl rfl rfl rfl rfl ?_
      refine sx_guardF rfl rfl rfl rfl rfl rfl ?_
      refine sx_guardF rfl rfl rfl rfl rfl rfl ?_
      refine sx_guardF rfl rfl rfl rfl rfl rfl ?_
      refine sx_guardT rfl rfl rfl ?_
      refine sx_pure rfl rfl rfl (px_pick rfl rfl) ?_
      refine sx_pure rfl rfl rfl (px_pick rfl rfl) ?_
      refine sx_pure rfl rfl rfl (px_assign rfl) ?_
      refine wl_nil ?_
      refine q_n (k4 _ _ ?_)
      refine sx_sub (Sub.cons (t := 2) rfl (.nil)) ?_
      refine sx_retc ?_
      refine sx_ret1 Try.results60 rfl ?_
      have q8 := Chg.step (l := 0) (h := 0) cb2 c6 (by omega)
      exact ⟨(by first | exact bTrue (by grind [IOk]) | exact bFalse (by grind [IOk]) | exact bIff (by grind [IOk])), q8⟩
    ·
      refine sx_guardT rfl rfl rfl ?_
      refine sx_pure rfl rfl rfl (px_field rfl xfld29x1) ?_
      refine sx_guardT rfl rfl rfl ?_
      refine sx_pure rfl rfl rfl (px_load rfl (f7.load1 rfl Try.isAgg22)) ?_
      refine sx_guardT rfl rfl rfl ?_
      have f9 := f5.ext c6
      refine sx_pure rfl rfl rfl (px_len rfl Try.underlying22 f9) ?_
      refine sx_guardT rfl rfl rfl ?_
      refine sx_pure rfl rfl rfl (px_gt rfl rfl) ?_
      refine sx_guardT rfl rfl rfl ?_
      refine sx_pure rfl rfl rfl (px_pick rfl rfl) ?_
      refine sx_pure rfl rfl rfl (px_pick rfl rfl) ?_
      refine sx_pure rfl rfl rfl (px_assign rfl) ?_
      refine wl_nil ?_
      refine q_n (k4 _ _ ?_)
      refine sx_sub (Sub.cons (t := 2) rfl (.nil)) ?_
      refine sx_retc ?_
      refine sx_ret1 Try.results60 rfl ?_
      have q10 := Chg.step (l := 0) (h := 0) cb2 c6 (by omega)
      exact ⟨(by first | exact bTrue (by grind [IOk]) | exact bFalse (by grind [IOk]) | exact bIff (by grind [IOk])), q10⟩
  ·
    refine sx_guardF rfl rfl rfl rfl rfl rfl ?_
    refine sx_guardF rfl rfl rfl rfl rfl rfl ?_
    refine sx_guardF rfl rfl rfl rfl rfl rfl ?_
    refine sx_guardF rfl rfl rfl rfl rfl rfl ?_
    refine sx_guardFU rfl rfl rfl rfl rfl ?_
    refine sx_guardFU rfl rfl rfl rfl rfl ?_
    refine sx_guardFU rfl rfl rfl rfl rfl ?_
    refine sx_guardFU rfl rfl rfl rfl rfl ?_
    refine sx_guardF rfl rfl rfl rfl rfl rfl ?_
    refine sx_pure rfl rfl rfl (px_pick rfl rfl) ?_
    refine sx_pure rfl rfl rfl (px_assign rfl) ?_
    refine wl_nil ?_
    refine q_n (k4 _ _ ?_)
    refine sx_sub (Sub.cons (t := 2) rfl (.nil)) ?_
    refine sx_retc ?_
    refine sx_ret1 Try.results60 rfl ?_
    have q11 := Chg.step (l := 0) (h := 0) cb2 c6 (by omega)
    exact ⟨(by first | exact bTrue (by grind [IOk]) | exact bFalse (by grind [IOk]) | exact bIff (by grind [IOk])), q11⟩

theorem c_sDecOk {w : World} {n1 : Bool} {v1 : Value} {lv1 uv1 : Nat} {z1 : List Int} {p1 : Int} (hv1 : Sl w lv1 uv1 v1 (z1)) (h63 : z1.length ≤ 4611686018427387904) :
    Ret Try.prog 16 [.agg #[.bool n1, v1, .int .i64 p1]] w fun v w' => v = .bool (decide (DOk n1 z1 p1)) ∧ Chg 0 0 w w' := by
  have hv10 := hv1.fit
  refine sx_enter Try.func16 rfl Try.ntmps16 (Nat.le_of_ble_eq_true rfl) ?_
  refine sx_seq fun K1 k1 => ?_
  refine sx_region ?_
  refine sx_box [.bool n1, v1, .int .i64 p1] rfl rfl rfl (fun b2 w3 eb2 sb2 fb2 cb2 => ?_)
  have zw3 := cb2.size
  refine sx_pure rfl rfl rfl (px_assign rfl) ?_
  refine wl_nil ?_
  refine q_n (k1 _ _ ?_)
  refine sx_seq fun K4 k4 => ?_
  refine sx_region ?_
  refine sx_pure rfl rfl rfl (px_field rfl xfld31x0) ?_
  refine sx_pure rfl rfl rfl (px_load rfl (fb2.loadA (vs := [.bool n1, v1]) (look_lit rfl) Try.isAgg29 Try.sizeOf29)) ?_
  have f5 := hv10.ext cb2
  refine sx_call rfl rfl Try.call60 (c_sIntOk f5 (by omega)) (fun v6 w6 p6 => ?_)
  obtain ⟨rfl, c6⟩ := p6
  have zw6 := c6.size
  refine sx_pure rfl rfl rfl (px_move rfl) ?_
  refine sx_tmpP (t := 6) rfl (fun h7 => ?_) (fun h7 => ?_)
  ·
    refine sx_guardT rfl rfl rfl ?_
    refine sx_pure rfl rfl rfl (px_field rfl xfld31x0) ?_
    refine sx_guardT rfl rfl rfl ?_
    refine sx_pure rfl rfl rfl (px_field rfl xfld29x1) ?_
    refine sx_guardT rfl rfl rfl ?_
    have f7 := fb2.ext c6
    refine sx_pure rfl rfl rfl (px_load rfl (f7.load1 rfl Try.isAgg22)) ?_
    refine sx_guardT rfl rfl rfl ?_
    have f8 := f5.ext c6
    refine sx_pure rfl rfl rfl (px_len rfl Try.underlying22 f8) ?_
    refine sx_guardT rfl rfl rfl ?_
    refine sx_pure rfl rfl rfl (px_le rfl rfl) ?_
    refine sx_pure rfl rfl rfl (px_pick rfl rfl) ?_
    refine sx_pure rfl rfl rfl (px_move rfl) ?_
    refine sx_tmpP (t := 13) rfl (fun h7x1 => ?_) (fun h7x1 => ?_)
    ·
      refine sx_guardT rfl rfl rfl ?_
      refine sx_pure rfl rfl rfl (px_field rfl xfld31x1) ?_
      refine sx_guardT rfl rfl rfl ?_
      refine sx_pure rfl rfl rfl (px_load rfl (f7.load1 rfl Try.isAgg3)) ?_
      refine sx_guardT rfl rfl rfl ?_
      refine sx_call rfl rfl Try.call61 (c_l01In) (fun v9 w9 p9 => ?_)
      obtain ⟨rfl, c9⟩ := p9
      have zw9 := c9.size
      refine sx_pure rfl rfl rfl (px_pick rfl rfl) ?_
      refine sx_pure rfl rfl rfl (px_assign rfl) ?_
      refine wl_nil ?_
      refine q_n (k4 _ _ ?_)
      refine sx_sub (Sub.cons (t := 2) rfl (.nil)) ?_
      refine sx_retc ?_
      refine sx_ret1 Try.results16 rfl ?_
      have q10 := Chg.step (l := 0) (h := 0) cb2 c6 (by omega)
      have q11 := Chg.step (l := 0) (h := 0) q10 c9 (by omega)
      exact ⟨(by first | exact bTrue (by grind [DOk]) | exact bFalse (by grind [DOk]) | exact bIff (by grind [DOk])), q11⟩
    ·
      refine sx_guardF rfl rfl rfl rfl rfl rfl ?_
      refine sx_guardF rfl rfl rfl rfl rfl rfl ?_
      refine sx_guardF rfl rfl rfl rfl rfl rfl ?_
      refine sx_pure rfl rfl rfl (px_pick rfl rfl) ?_
      refine sx_pure rfl rfl rfl (px_assign rfl) ?_
      refine wl_nil ?_
      refine q_n (k4 _ _ ?_)
      refine sx_sub (Sub.cons (t := 2) rfl (.nil)) ?_
      refine sx_retc ?_
      refine sx_ret1 Try.results16 rfl ?_
      have q12 := Chg.step (l := 0) (h := 0) cb2 c6 (by omega)
      exact ⟨(by first | exact bTrue (by grind [DOk]) | exact bFalse (by grind [DOk]) | exact bIff (by grind [DOk])), q12⟩
  ·
    refine sx_guardF rfl rfl rfl rfl rfl rfl ?_
    refine sx_guardF rfl rfl rfl rfl rfl rfl ?_
    refine sx_guardF rfl rfl rfl rfl rfl rfl ?_
    refine sx_guardF rfl rfl rfl rfl rfl rfl ?_
    refine sx_guardF rfl rfl rfl rfl rfl rfl ?_
    refine sx_pure rfl rfl rfl (px_pick rfl rfl) ?_
    refine sx_pure rfl rfl rfl (px_move rfl) ?_
    refine sx_guardF rfl rfl rfl rfl rfl rfl ?_
    refine sx_guardF rfl rfl rfl rfl rfl rfl ?_
    refine sx_guardF rfl rfl rfl rfl rfl rfl ?_
    refine sx_pure rfl rfl rfl (px_pick rfl rfl) ?_
    refine sx_pure rfl rfl rfl (px_assign rfl) ?_
    refine wl_nil ?_
    refine q_n (k4 _ _ ?_)
    refine sx_sub (Sub.cons (t := 2) rfl (.nil)) ?_
    refine sx_retc ?_
    refine sx_ret1 Try.results16 rfl ?_
    have q13 := Chg.step (l := 0) (h := 0) cb2 c6 (by omega)
    exact ⟨(by first | exact bTrue (by grind [DOk]) | exact bFalse (by grind [DOk]) | exact bIff (by grind [DOk])), q13⟩

theorem c_l02Trim {w : World} {va : Value} {lva uva : Nat} {zs : List Int} (hva : OwnI w lva uva va intT (zs)) (hz : Lm zs) (h63 : zs.length ≤ 1000000) :
    Ret Try.prog 117 [va] w fun v w' => ∃ s, v = s ∧ OwnI w' (lva) (uva) s intT (dg (vl zs)) ∧ Chg 0 0 w w' := by
  refine sx_enter Try.func117 rfl Try.ntmps117 (Nat.le_of_ble_eq_true rfl) ?_
  refine sx_seq fun K1 k1 => ?_
  refine sx_region ?_
  refine sx_pure rfl rfl rfl (px_assign rfl) ?_
  refine wl_nil ?_
  refine q_n (k1 _ _ ?_)
  refine sx_seq fun K2 k2 => ?_
  refine sx_region ?_
  refine sx_pure rfl rfl rfl (px_move rfl) ?_
  refine sx_pure rfl rfl rfl (px_len rfl Try.underlying22 hva.sv) ?_
  refine sx_pure rfl rfl rfl (px_assign rfl) ?_
  refine wl_nil ?_
  refine q_n (k2 _ _ ?_)
  refine sx_seq fun K3 k3 => ?_
  refine sx_block ?_
  refine sx_loop (fun mm aa w' => ∃ (k : Nat), Agr 21 [(0, va), (3, .int .i64 ↑k)] aa ∧ Chg 0 0 w w' ∧ (mm = k) ∧ (k ≤ zs.length) ∧ (vl (zs.take k) = vl zs)) (_) (fun a ha => ⟨zs.length, ha.sub (Sub.cons (t := 0) rfl (.cons (t := 3) (look_int (t := 3) rfl (by first | omega | simp)) (.nil))), Chg.refl _ _ _, rfl, by omega, vl_take_all zs⟩) ?_
  rintro mm aa wl4 ⟨k, hAwl4, cwl4, hm, hk, hv⟩
  refine (show cw Try.prog 21 _ _ _ wl4 from ?_) aa hAwl4
  clear hAwl4
  have zwl4 := cwl4.size
  refine sx_seq fun K5 k5 => ?_
  refine sx_seq fun K6 k6 => ?_
  refine sx_region ?_
  refine sx_pure rfl rfl rfl (px_move rfl) ?_
  refine sx_pure rfl rfl rfl (px_gt rfl rfl) ?_
  refine sx_pure rfl rfl rfl (px_move rfl) ?_
  refine sx_tmpP (t := 8) rfl (fun h17 => ?_) (fun h17 => ?_)
  ·
    refine sx_guardT rfl rfl rfl ?_
    refine sx_pure rfl rfl rfl (px_move rfl) ?_
    refine sx_guardT rfl rfl rfl ?_
    refine sx_pure rfl rfl rfl (px_move rfl) ?_
    refine sx_guardT rfl rfl rfl ?_
    refine sx_pure rfl rfl rfl (px_sub rfl rfl (by omega)) ?_
    refine sx_guardT rfl rfl rfl ?_
    have f7 := hva.ext cwl4
    refine sx_pure rfl rfl rfl (px_index1 (j := (k - 1)) rfl rfl (by omega) Try.underlying22 Try.sizeOf3 f7.sv (by omega)) ?_
    refine sx_guardT rfl rfl rfl ?_
    refine sx_pure rfl rfl rfl (px_load rfl (f7.sv.load1 (at_int (by omega)) Try.isAgg3)) ?_
    refine sx_guardT rfl rfl rfl ?_
    refine sx_pure rfl rfl rfl (px_eq rfl rfl) ?_
    refine sx_pure rfl rfl rfl (px_pick rfl rfl) ?_
    refine wl_nil ?_
    refine q_n (k6 _ _ ?_)
    refine sx_condP rfl (fun h17x1 => ?_) (fun h17x1 => ?_)
    ·
      refine sx_skip ?_
      refine q_n (k5 _ _ ?_)
      refine sx_block ?_
      refine sx_region ?_
      refine sx_pure rfl rfl rfl (px_move rfl) ?_
      refine sx_pure rfl rfl rfl (px_sub rfl rfl (by omega)) ?_
      refine sx_pure rfl rfl rfl (px_assign rfl) ?_
      refine wl_nil ?_
      exact q_bn (fun a ha => ⟨_, by omega, (k - 1), ha.sub (Sub.cons (t := 0) rfl (.cons (t := 3) (look_int (t := 3) rfl (by first | omega | simp)) (.nil))), cwl4, rfl, by omega, trim_step (by omega) hk (by rw [getD_take (by omega)]; exact h17x1) hv⟩)
    ·
      refine sx_exit ?_
      refine q_e (q_e (q_bx (q_n (k3 _ _ ?_))))
      refine sx_seq fun K8 k8 => ?_
      refine sx_region ?_
      refine sx_pure rfl rfl rfl (px_move rfl) ?_
      refine sx_pure rfl rfl rfl (px_move rfl) ?_
      refine sx_pure rfl rfl rfl (px_sliceTo (h := k) rfl rfl (by omega) Try.underlying22 Try.sizeOf3 f7.sv (by omega)) ?_
      refine sx_pure rfl rfl rfl (px_assign rfl) ?_
      refine wl_nil ?_
      refine q_n (k8 _ _ ?_)
      refine sx_sub (Sub.cons (t := 2) rfl (.nil)) ?_
      refine sx_retc ?_
      refine sx_ret1 Try.results117 rfl ?_
      have hd := trim_done hz hk hv (by first | exact .inl (by omega) | exact .inr (by rw [getD_take (by omega)]; assumption))
      rw [← hd]
      exact ⟨_, rfl, (Own.takeI f7 (h := k) (by omega)), cwl4⟩
  ·
    refine sx_guardF rfl rfl rfl rfl rfl rfl ?_
    refine sx_guardF rfl rfl rfl rfl rfl rfl ?_
    refine sx_guardF rfl rfl rfl rfl rfl rfl ?_
    refine sx_guardF rfl rfl rfl rfl rfl rfl ?_
    refine sx_guardF rfl rfl rfl rfl rfl rfl ?_
    refine sx_guardF rfl rfl rfl rfl rfl rfl ?_
    refine sx_pure rfl rfl rfl (px_pick rfl rfl) ?_
    refine wl_nil ?_
    refine q_n (k6 _ _ ?_)
    refine sx_condF rfl ?_
    refine sx_exit ?_
    refine q_e (q_e (q_bx (q_n (k3 _ _ ?_))))
    refine sx_seq fun K9 k9 => ?_
    refine sx_region ?_
    refine sx_pure rfl rfl rfl (px_move rfl) ?_
    refine sx_pure rfl rfl rfl (px_move rfl) ?_
    have f10 := hva.ext cwl4
    refine sx_pure rfl rfl rfl (px_sliceTo (h := k) rfl rfl (by omega) Try.underlying22 Try.sizeOf3 f10.sv (by omega)) ?_
    refine sx_pure rfl rfl rfl (px_assign rfl) ?_
    refine wl_nil ?_
    refine q_n (k9 _ _ ?_)
    refine sx_sub (Sub.cons (t := 2) rfl (.nil)) ?_
    refine sx_retc ?_
    refine sx_ret1 Try.results117 rfl ?_
    have hd := trim_done hz hk hv (by first | exact .inl (by omega) | exact .inr (by rw [getD_take (by omega)]; assumption))
    rw [← hd]
    exact ⟨_, rfl, (Own.takeI f10 (h := k) (by omega)), cwl4⟩

theorem c_l02TrimS {w : World} {va : Value} {lva uva : Nat} {zs : List Int} (hva : Sl w lva uva va (zs)) (hz : Lm zs) (h63 : zs.length ≤ 1000000) :
    Ret Try.prog 117 [va] w fun v w' => ∃ s, v = s ∧ Sl w' (lva) (uva) s (dg (vl zs)) ∧ Chg 0 0 w w' := by
  refine sx_enter Try.func117 rfl Try.ntmps117 (Nat.le_of_ble_eq_true rfl) ?_
  refine sx_seq fun K1 k1 => ?_
  refine sx_region ?_
  refine sx_pure rfl rfl rfl (px_assign rfl) ?_
  refine wl_nil ?_
  refine q_n (k1 _ _ ?_)
  refine sx_seq fun K2 k2 => ?_
  refine sx_region ?_
  refine sx_pure rfl rfl rfl (px_move rfl) ?_
  refine sx_pure rfl rfl rfl (px_len rfl Try.underlying22 hva) ?_
  refine sx_pure rfl rfl rfl (px_assign rfl) ?_
  refine wl_nil ?_
  refine q_n (k2 _ _ ?_)
  refine sx_seq fun K3 k3 => ?_
  refine sx_block ?_
  refine sx_loop (fun mm aa w' => ∃ (k : Nat), Agr 21 [(0, va), (3, .int .i64 ↑k)] aa ∧ Chg 0 0 w w' ∧ (mm = k) ∧ (k ≤ zs.length) ∧ (vl (zs.take k) = vl zs)) (_) (fun a ha => ⟨zs.length, ha.sub (Sub.cons (t := 0) rfl (.cons (t := 3) (look_int (t := 3) rfl (by first | omega | simp)) (.nil))), Chg.refl _ _ _, rfl, by omega, vl_take_all zs⟩) ?_
  rintro mm aa wl4 ⟨k, hAwl4, cwl4, hm, hk, hv⟩
  refine (show cw Try.prog 21 _ _ _ wl4 from ?_) aa hAwl4
  clear hAwl4
  have zwl4 := cwl4.size
  refine sx_seq fun K5 k5 => ?_
  refine sx_seq fun K6 k6 => ?_
  refine sx_region ?_
  refine sx_pure rfl rfl rfl (px_move rfl) ?_
  refine sx_pure rfl rfl rfl (px_gt rfl rfl) ?_
  refine sx_pure rfl rfl rfl (px_move rfl) ?_
  refine sx_tmpP (t := 8) rfl (fun h17 => ?_) (fun h17 => ?_)
  ·
    refine sx_guardT rfl rfl rfl ?_
    refine sx_pure rfl rfl rfl (px_move rfl) ?_
    refine sx_guardT rfl rfl rfl ?_
    refine sx_pure rfl rfl rfl (px_move rfl) ?_
    refine sx_guardT rfl rfl rfl ?_
    refine sx_pure rfl rfl rfl (px_sub rfl rfl (by omega)) ?_
    refine sx_guardT rfl rfl rfl ?_
    have f7 := hva.ext cwl4
    refine sx_pure rfl rfl rfl (px_index1 (j := (k - 1)) rfl rfl (by omega) Try.underlying22 Try.sizeOf3 f7 (by omega)) ?_
    refine sx_guardT rfl rfl rfl ?_
    refine sx_pure rfl rfl rfl (px_load rfl (f7.load1 (at_int (by omega)) Try.isAgg3)) ?_
    refine sx_guardT rfl rfl rfl ?_
    refine sx_pure rfl rfl rfl (px_eq rfl rfl) ?_
    refine sx_pure rfl rfl rfl (px_pick rfl rfl) ?_
    refine wl_nil ?_
    refine q_n (k6 _ _ ?_)
    refine sx_condP rfl (fun h17x1 => ?_) (fun h17x1 => ?_)
    ·
      refine sx_skip ?_
      refine q_n (k5 _ _ ?_)
      refine sx_block ?_
      refine sx_region ?_
      refine sx_pure rfl rfl rfl (px_move rfl) ?_
      refine sx_pure rfl rfl rfl (px_sub rfl rfl (by omega)) ?_
      refine sx_pure rfl rfl rfl (px_assign rfl) ?_
      refine wl_nil ?_
      exact q_bn (fun a ha => ⟨_, by omega, (k - 1), ha.sub (Sub.cons (t := 0) rfl (.cons (t := 3) (look_int (t := 3) rfl (by first | omega | simp)) (.nil))), cwl4, rfl, by omega, trim_step (by omega) hk (by rw [getD_take (by omega)]; exact h17x1) hv⟩)
    ·
      refine sx_exit ?_
      refine q_e (q_e (q_bx (q_n (k3 _ _ ?_))))
      refine sx_seq fun K8 k8 => ?_
      refine sx_region ?_
      refine sx_pure rfl rfl rfl (px_move rfl) ?_
      refine sx_pure rfl rfl rfl (px_move rfl) ?_
      refine sx_pure rfl rfl rfl (px_sliceTo (h := k) rfl rfl (by omega) Try.underlying22 Try.sizeOf3 f7 (by omega)) ?_
      refine sx_pure rfl rfl rfl (px_assign rfl) ?_
      refine wl_nil ?_
      refine q_n (k8 _ _ ?_)
      refine sx_sub (Sub.cons (t := 2) rfl (.nil)) ?_
      refine sx_retc ?_
      refine sx_ret1 Try.results117 rfl ?_
      have hd := trim_done hz hk hv (by first | exact .inl (by omega) | exact .inr (by rw [getD_take (by omega)]; assumption))
      rw [← hd]
      exact ⟨_, rfl, (Sv.takeI f7 (h := k) (by omega)), cwl4⟩
  ·
    refine sx_guardF rfl rfl rfl rfl rfl rfl ?_
    refine sx_guardF rfl rfl rfl rfl rfl rfl ?_
    refine sx_guardF rfl rfl rfl rfl rfl rfl ?_
    refine sx_guardF rfl rfl rfl rfl rfl rfl ?_
    refine sx_guardF rfl rfl rfl rfl rfl rfl ?_
    refine sx_guardF rfl rfl rfl rfl rfl rfl ?_
    refine sx_pure rfl rfl rfl (px_pick rfl rfl) ?_
    refine wl_nil ?_
    refine q_n (k6 _ _ ?_)
    refine sx_condF rfl ?_
    refine sx_exit ?_
    refine q_e (q_e (q_bx (q_n (k3 _ _ ?_))))
    refine sx_seq fun K9 k9 => ?_
    refine sx_region ?_
    refine sx_pure rfl rfl rfl (px_move rfl) ?_
    refine sx_pure rfl rfl rfl (px_move rfl) ?_
    have f10 := hva.ext cwl4
    refine sx_pure rfl rfl rfl (px_sliceTo (h := k) rfl rfl (by omega) Try.underlying22 Try.sizeOf3 f10 (by omega)) ?_
    refine sx_pure rfl rfl rfl (px_assign rfl) ?_
    refine wl_nil ?_
    refine q_n (k9 _ _ ?_)
    refine sx_sub (Sub.cons (t := 2) rfl (.nil)) ?_
    refine sx_retc ?_
    refine sx_ret1 Try.results117 rfl ?_
    have hd := trim_done hz hk hv (by first | exact .inl (by omega) | exact .inr (by rw [getD_take (by omega)]; assumption))
    rw [← hd]
    exact ⟨_, rfl, (Sv.takeI f10 (h := k) (by omega)), cwl4⟩

theorem c_l02TrimD {w : World} {va : Value} {lva uva : Nat} {m : Nat} (hva : Sl w lva uva va (dg m)) (h63 : (dg m).length ≤ 1000000) :
    Ret Try.prog 117 [va] w fun v w' => ∃ s, v = s ∧ Sl w' (lva) (uva) s (dg m) ∧ Chg 0 0 w w' := by
  simpa only [vl_dg] using c_l02TrimS hva (Lm_dg m) h63

theorem c_l02Mul {w : World} {va : Value} {lva uva : Nat} {m : Nat} {vb : Value} {lvb uvb : Nat} {n : Nat} (hva : Sl w lva uva va (dg m)) (hvb : Sl w lvb uvb vb (dg n)) (hbm : (dg m).length ≤ 1000) (hbn : (dg n).length ≤ 1000) :
    Ret Try.prog 85 [va, vb] w fun v w' => ∃ s, v = s ∧ Sl w' (w.heap.size) (w'.heap.size) s (dg (m * n)) ∧ Chg 0 0 w w' := by
  have hva0 := hva.fit
  have hvb0 := hvb.fit
  refine sx_enter Try.func85 rfl Try.ntmps85 (Nat.le_of_ble_eq_true rfl) ?_
  refine sx_seq fun K1 k1 => ?_
  refine sx_region ?_
  refine sx_pure rfl rfl rfl (px_assign rfl) ?_
  refine wl_nil ?_
  refine q_n (k1 _ _ ?_)
  refine sx_seq fun K2 k2 => ?_
  refine sx_seq fun K3 k3 => ?_
  refine sx_region ?_
  refine sx_pure rfl rfl rfl (px_move rfl) ?_
  refine sx_pure rfl rfl rfl (px_len rfl Try.underlying22 hva0) ?_
  refine sx_pure rfl rfl rfl (px_eq rfl rfl) ?_
  refine sx_pure rfl rfl rfl (px_move rfl) ?_
  refine sx_tmpP (t := 15) rfl (fun h131 => ?_) (fun h131 => ?_)
  ·
    refine sx_guardF rfl rfl rfl rfl rfl rfl ?_
    refine sx_guardF rfl rfl rfl rfl rfl rfl ?_
    refine sx_guardF rfl rfl rfl rfl rfl rfl ?_
    refine sx_pure rfl rfl rfl (px_pick rfl rfl) ?_
    refine wl_nil ?_
    refine q_n (k3 _ _ ?_)
    refine sx_condT rfl ?_
    refine sx_seq fun K4 k4 => ?_
    refine sx_region ?_
    refine sx_pure rfl rfl rfl (px_assign rfl) ?_
    refine wl_nil ?_
    refine q_n (k4 _ _ ?_)
    refine sx_retc ?_
    refine q_r (sx_ret1 Try.results85 rfl ?_)
    have e0 : m * n = 0 := by first | (rw [dg_nil.1 (List.length_eq_zero_iff.1 (show (dg m).length = 0 by omega)), Nat.zero_mul]) | (rw [dg_nil.1 (List.length_eq_zero_iff.1 (show (dg n).length = 0 by omega)), Nat.mul_zero])
    rw [e0, dg_zero]
    exact ⟨_, rfl, Sv.nil _ _ _ _, (Chg.refl 0 0 _)⟩
  ·
    refine sx_guardT rfl rfl rfl ?_
    refine sx_pure rfl rfl rfl (px_move rfl) ?_
    refine sx_guardT rfl rfl rfl ?_
    refine sx_pure rfl rfl rfl (px_len rfl Try.underlying22 hvb0) ?_
    refine sx_guardT rfl rfl rfl ?_
    refine sx_pure rfl rfl rfl (px_eq rfl rfl) ?_
    refine sx_pure rfl rfl rfl (px_pick rfl rfl) ?_
    refine wl_nil ?_
    refine q_n (k3 _ _ ?_)
    refine sx_condP rfl (fun h131x1 => ?_) (fun h131x1 => ?_)
    ·
      refine sx_seq fun K5 k5 => ?_
      refine sx_region ?_
      refine sx_pure rfl rfl rfl (px_assign rfl) ?_
      refine wl_nil ?_
      refine q_n (k5 _ _ ?_)
      refine sx_retc ?_
      refine q_r (sx_ret1 Try.results85 rfl ?_)
      have e0 : m * n = 0 := by first | (rw [dg_nil.1 (List.length_eq_zero_iff.1 (show (dg m).length = 0 by omega)), Nat.zero_mul]) | (rw [dg_nil.1 (List.length_eq_zero_iff.1 (show (dg n).length = 0 by omega)), Nat.mul_zero])
      rw [e0, dg_zero]
      exact ⟨_, rfl, Sv.nil _ _ _ _, (Chg.refl 0 0 _)⟩
    ·
      refine sx_skip ?_
      refine q_n (k2 _ _ ?_)
      refine sx_seq fun K6 k6 => ?_
      refine sx_region ?_
      refine sx_pure rfl rfl rfl (px_move rfl) ?_
      refine sx_pure rfl rfl rfl (px_len rfl Try.underlying22 hva0) ?_
      refine sx_pure rfl rfl rfl (px_move rfl) ?_
      refine sx_pure rfl rfl rfl (px_len rfl Try.underlying22 hvb0) ?_
      refine sx_pure rfl rfl rfl (px_add rfl rfl (by omega)) ?_
      refine sx_make (c := (dg m).length + (dg n).length) rfl xelt22 (look_int rfl (by omega)) (look_int rfl (by omega)) (by omega) (by unfold maxLen; omega) (fun s7 ws7 fs7 cs7 ls7 => ?_)
      have ns7 := fs7.made
      have zws7 := cs7.size
      refine sx_pure rfl rfl rfl (px_assign rfl) ?_
      refine wl_nil ?_
      refine q_n (k6 _ _ ?_)
      refine sx_sub (Sub.cons (t := 0) rfl (.cons (t := 1) rfl (.cons (t := 4) rfl (.cons (t := 5) rfl (.nil))))) ?_
      refine sx_seq fun K8 k8 => ?_
      refine sx_seq fun K9 k9 => ?_
      refine sx_region ?_
      refine sx_pure rfl rfl rfl (px_move rfl) ?_
      have f10 := hva0.ext cs7
      refine sx_pure rfl rfl rfl (px_len rfl Try.underlying22 f10) ?_
      refine sx_pure rfl rfl rfl (px_move rfl) ?_
      refine wl_nil ?_
      refine q_n (k9 _ _ ?_)
      refine sx_block ?_
      refine sx_loop (fun mm aa w' => ∃ (k : Nat) (os : List Int), Agr 72 [(1, vb), (5, s7), (26, va), (27, .int .i64 (↑(dg m).length)), (28, .int .i64 ↑k)] aa ∧ Chg w.heap.size ws7.heap.size ws7 w' ∧ Own w' w.heap.size ws7.heap.size s7 intT os.length 1 (os.map (Value.int .i64)) ∧ (mm = (dg m).length - k) ∧ (k ≤ (dg m).length) ∧ (os.length = (dg m).length + (dg n).length) ∧ (Lm os) ∧ (∀ i, k + (dg n).length ≤ i → os.getD i 0 = 0) ∧ (vl os = vl ((dg m).take k) * n)) (_) (fun a ha => ⟨0, List.replicate ((dg m).length + (dg n).length) 0, ha.sub (Sub.cons (t := 1) rfl (.cons (t := 5) rfl (.cons (t := 26) rfl (.cons (t := 27) (look_int (t := 27) rfl (by first | omega | simp)) (.cons (t := 28) (look_int (t := 28) rfl (by first | omega | simp)) (.nil)))))), Chg.refl _ _ _, (ns7.mono (by omega) (by omega)), rfl, by omega, by simp, Lm.replicate _, fun i _ => zero_rep _ i (Nat.zero_le _), by rw [vl_replicate, List.take_zero]; simp [vl]⟩) ?_
      rintro mm aa wl11 ⟨k, os, hAwl11, cwl11, hs_s7, hm, hk, hos, hlm, hz, hv⟩
      refine (show cw Try.prog 72 _ _ _ wl11 from ?_) aa hAwl11
      clear hAwl11
      have zwl11 := cwl11.size
      have am := (Lm_dg m).getD k
      refine sx_seq fun K12 k12 => ?_
      refine sx_region ?_
      refine sx_pure rfl rfl rfl (px_lt rfl rfl) ?_
      refine wl_nil ?_
      refine q_n (k12 _ _ ?_)
      refine sx_seq fun K13 k13 => ?_
      refine sx_condP rfl (fun h135 => ?_) (fun h135 => ?_)
      ·
        refine sx_skip ?_
        refine q_n (k13 _ _ ?_)
        refine sx_seq fun K14 k14 => ?_
        refine sx_block ?_
        refine sx_seq fun K15 k15 => ?_
        refine sx_region ?_
        refine sx_pure rfl rfl rfl (px_move rfl) ?_
        have f16 := f10.chg cwl11 (by omega)
        refine sx_pure rfl rfl rfl (px_index1 (j := k) rfl rfl (by omega) Try.underlying22 Try.sizeOf3 f16 (by first | omega | (simp only [List.length_set]; omega))) ?_
        refine sx_pure rfl rfl rfl (px_load rfl (f16.load1 (at_int (by omega)) Try.isAgg3)) ?_
        refine sx_pure rfl rfl rfl (px_assign rfl) ?_
        refine sx_pure rfl rfl rfl (px_assign rfl) ?_
        refine wl_nil ?_
        refine q_n (k15 _ _ ?_)
        refine sx_seq fun K17 k17 => ?_
        refine sx_region ?_
        refine sx_pure rfl rfl rfl (px_assign rfl) ?_
        refine wl_nil ?_
        refine q_n (k17 _ _ ?_)
        refine sx_seq fun K18 k18 => ?_
        refine sx_seq fun K19 k19 => ?_
        refine sx_region ?_
        refine sx_pure rfl rfl rfl (px_move rfl) ?_
        have f20 := hvb0.ext cs7
        have f21 := f20.chg cwl11 (by omega)
        refine sx_pure rfl rfl rfl (px_len rfl Try.underlying22 f21) ?_
        refine sx_pure rfl rfl rfl (px_move rfl) ?_
        refine wl_nil ?_
        refine q_n (k19 _ _ ?_)
        refine sx_sub (Sub.cons (t := 1) rfl (.cons (t := 5) rfl (.cons (t := 6) rfl (.cons (t := 7) rfl (.cons (t := 8) rfl (.cons (t := 26) rfl (.cons (t := 27) rfl (.cons (t := 28) rfl (.cons (t := 33) rfl (.cons (t := 34) rfl (.cons (t := 35) rfl (.nil)))))))))))) ?_
        refine sx_block ?_
        refine sx_loop (fun mm aa w' => ∃ (j : Nat) (o2 : List Int) (c : Int), Agr 72 [(1, vb), (5, s7), (6, .int .i64 ↑k), (7, .int .i64 ((dg m).getD k 0)), (8, .int .i64 c), (26, va), (27, .int .i64 (↑(dg m).length)), (28, .int .i64 ↑k), (33, vb), (34, .int .i64 (↑(dg n).length)), (35, .int .i64 ↑j)] aa ∧ Chg w.heap.size ws7.heap.size wl11 w' ∧ Own w' w.heap.size ws7.heap.size s7 intT o2.length 1 (o2.map (Value.int .i64)) ∧ (mm = (dg n).length - j) ∧ (j ≤ (dg n).length) ∧ (o2.length = (dg m).length + (dg n).length) ∧ (Lm o2) ∧ (∀ i, k + (dg n).length ≤ i → o2.getD i 0 = 0) ∧ (0 ≤ c ∧ c < 1000000000) ∧ (vl o2 + Bs ^ (k + j) * c.toNat = vl os + Bs ^ k * (((dg m).getD k 0).toNat * vl ((dg n).take j)))) (_) (fun a ha => ⟨0, os, 0, ha.sub (Sub.cons (t := 1) rfl (.cons (t := 5) rfl (.cons (t := 6) rfl (.cons (t := 7) rfl (.cons (t := 8) (look_int (t := 8) rfl (by first | omega | simp)) (.cons (t := 26) rfl (.cons (t := 27) rfl (.cons (t := 28) rfl (.cons (t := 33) rfl (.cons (t := 34) (look_int (t := 34) rfl (by first | omega | simp)) (.cons (t := 35) (look_int (t := 35) rfl (by first | omega | simp)) (.nil)))))))))))), Chg.refl _ _ _, hs_s7, rfl, by omega, hos, hlm, hz, by omega, by simp [vl]⟩) ?_
        rintro mm aa wl22 ⟨j, o2, c, hAwl22, cwl22, hs_s7, hm, hj, hos2, hlm2, hz2, hc, hv2⟩
        refine (show cw Try.prog 72 _ _ _ wl22 from ?_) aa hAwl22
        clear hAwl22
        have zwl22 := cwl22.size
        have bn := (Lm_dg n).getD j
        have on := hlm2.getD (k + j)
        have hxy := mul_limb am.1 am.2 bn.1 bn.2
        refine sx_seq fun K23 k23 => ?_
        refine sx_region ?_
        refine sx_pure rfl rfl rfl (px_lt rfl rfl) ?_
        refine wl_nil ?_
        refine q_n (k23 _ _ ?_)
        refine sx_seq fun K24 k24 => ?_
        refine sx_condP rfl (fun h137 => ?_) (fun h137 => ?_)
        ·
          refine sx_skip ?_
          refine q_n (k24 _ _ ?_)
          refine sx_seq fun K25 k25 => ?_
          refine sx_block ?_
          refine sx_seq fun K26 k26 => ?_
          refine sx_region ?_
          refine sx_pure rfl rfl rfl (px_move rfl) ?_
          have f27 := f21.chg cwl22 (by omega)
          refine sx_pure rfl rfl rfl (px_index1 (j := j) rfl rfl (by omega) Try.underlying22 Try.sizeOf3 f27 (by first | omega | (simp only [List.length_set]; omega))) ?_
          refine sx_pure rfl rfl rfl (px_load rfl (f27.load1 (at_int (by omega)) Try.isAgg3)) ?_
          refine sx_pure rfl rfl rfl (px_assign rfl) ?_
          refine sx_pure rfl rfl rfl (px_assign rfl) ?_
          refine wl_nil ?_
          refine q_n (k26 _ _ ?_)
          refine sx_sub (Sub.cons (t := 1) rfl (.cons (t := 5) rfl (.cons (t := 6) rfl (.cons (t := 7) rfl (.cons (t := 8) rfl (.cons (t := 9) rfl (.cons (t := 10) rfl (.cons (t := 26) rfl (.cons (t := 27) rfl (.cons (t := 28) rfl (.cons (t := 33) rfl (.cons (t := 34) rfl (.cons (t := 35) rfl (.nil)))))))))))))) ?_
          refine sx_seq fun K28 k28 => ?_
          refine sx_region ?_
          refine sx_pure rfl rfl rfl (px_move rfl) ?_
          refine sx_pure rfl rfl rfl (px_move rfl) ?_
          refine sx_pure rfl rfl rfl (px_move rfl) ?_
          refine sx_pure rfl rfl rfl (px_add rfl rfl (by omega)) ?_
          refine sx_pure rfl rfl rfl (px_index1 (j := (k + j)) rfl rfl (by omega) Try.underlying22 Try.sizeOf3 hs_s7.sv (by first | omega | (simp only [List.length_set]; omega))) ?_
          refine sx_pure rfl rfl rfl (px_load rfl (hs_s7.sv.load1 (at_int (by omega)) Try.isAgg3)) ?_
          refine sx_pure rfl rfl rfl (px_move rfl) ?_
          refine sx_pure rfl rfl rfl (px_move rfl) ?_
          refine sx_pure rfl rfl rfl (px_mul rfl rfl (by omega)) ?_
          refine sx_pure rfl rfl rfl (px_add rfl rfl (by omega)) ?_
          refine sx_pure rfl rfl rfl (px_move rfl) ?_
          refine sx_pure rfl rfl rfl (px_add rfl rfl (by omega)) ?_
          refine sx_pure rfl rfl rfl (px_assign rfl) ?_
          refine wl_nil ?_
          refine q_n (k28 _ _ ?_)
          refine sx_sub (Sub.cons (t := 1) rfl (.cons (t := 5) rfl (.cons (t := 6) rfl (.cons (t := 7) rfl (.cons (t := 8) rfl (.cons (t := 9) rfl (.cons (t := 11) rfl (.cons (t := 26) rfl (.cons (t := 27) rfl (.cons (t := 28) rfl (.cons (t := 33) rfl (.cons (t := 34) rfl (.cons (t := 35) rfl (.nil)))))))))))))) ?_
          refine sx_seq fun K29 k29 => ?_
          refine sx_region ?_
          refine sx_pure rfl rfl rfl (px_move rfl) ?_
          refine sx_pure rfl rfl rfl (px_move rfl) ?_
          refine sx_pure rfl rfl rfl (px_move rfl) ?_
          refine sx_pure rfl rfl rfl (px_add rfl rfl (by omega)) ?_
          refine sx_pure rfl rfl rfl (px_move rfl) ?_
          refine sx_pure rfl rfl rfl (px_rem rfl rfl (by omega) (by omega)) ?_
          refine sx_pure rfl rfl rfl (px_index1 (j := (k + j)) rfl rfl (by omega) Try.underlying22 Try.sizeOf3 hs_s7.sv (by first | omega | (simp only [List.length_set]; omega))) ?_
          refine sx_storeO rfl rfl hs_s7 (by first | omega | (simp only [List.length_map]; omega)) Try.sizeOf3 rfl (fun w30 sw30 fw30 cw30 => ?_)
          have zw30 := cw30.size
          have nw30 := fw30.set
          refine wl_nil ?_
          refine q_n (k29 _ _ ?_)
          refine sx_sub (Sub.cons (t := 1) rfl (.cons (t := 5) rfl (.cons (t := 6) rfl (.cons (t := 7) rfl (.cons (t := 8) rfl (.cons (t := 11) rfl (.cons (t := 26) rfl (.cons (t := 27) rfl (.cons (t := 28) rfl (.cons (t := 33) rfl (.cons (t := 34) rfl (.cons (t := 35) rfl (.nil))))))))))))) ?_
          refine sx_region ?_
          refine sx_pure rfl rfl rfl (px_move rfl) ?_
          refine sx_pure rfl rfl rfl (px_quo rfl rfl (by omega) (by omega) (by omega)) ?_
          refine sx_pure rfl rfl rfl (px_assign rfl) ?_
          refine wl_nil ?_
          refine q_bn (q_n (k25 _ _ ?_))
          refine sx_region ?_
          refine sx_pure rfl rfl rfl (px_add rfl rfl (by omega)) ?_
          refine sx_pure rfl rfl rfl (px_move rfl) ?_
          refine wl_nil ?_
          have q31 := Chg.step (l := w.heap.size) (h := ws7.heap.size) cwl22 cw30 (by omega)
          have hs : ((((o2).getD (k + j) 0) + (((dg m).getD k 0) * ((dg n).getD j 0))) + c) = c + (o2.getD (k + j) 0 + (dg m).getD k 0 * (dg n).getD j 0) := by omega
          have hm2 := mul_step (V := vl os) hc.1 am.1 on.1 bn.1 (by omega) (by omega) hs hv2
          exact fun a ha => ⟨_, by omega, (j + 1), ((o2).set (k + j) (((((o2).getD (k + j) 0) + (((dg m).getD k 0) * ((dg n).getD j 0))) + c) % 1000000000)), (((((o2).getD (k + j) 0) + (((dg m).getD k 0) * ((dg n).getD j 0))) + c) / 1000000000), ha.sub (Sub.cons (t := 1) rfl (.cons (t := 5) rfl (.cons (t := 6) rfl (.cons (t := 7) rfl (.cons (t := 8) (look_int (t := 8) rfl (by first | omega | simp)) (.cons (t := 26) rfl (.cons (t := 27) rfl (.cons (t := 28) rfl (.cons (t := 33) rfl (.cons (t := 34) rfl (.cons (t := 35) (look_int (t := 35) rfl (by first | omega | simp)) (.nil)))))))))))), q31, (nw30.mono (by omega) (by omega)), rfl, by omega, by simpa using hos2, hlm2.set _ (by omega) (by omega), zero_set' hz2 (by omega), by omega, hm2⟩
        ·
          refine sx_exit ?_
          refine q_e (q_e (q_bx (q_n (k18 _ _ ?_))))
          have ej : j = (dg n).length := by omega
          rw [ej, List.take_length, vl_dg] at hv2
          refine sx_region ?_
          refine sx_pure rfl rfl rfl (px_move rfl) ?_
          refine sx_pure rfl rfl rfl (px_move rfl) ?_
          refine sx_pure rfl rfl rfl (px_move rfl) ?_
          have f32 := f21.chg cwl22 (by omega)
          refine sx_pure rfl rfl rfl (px_len rfl Try.underlying22 f32) ?_
          refine sx_pure rfl rfl rfl (px_add rfl rfl (by omega)) ?_
          refine sx_pure rfl rfl rfl (px_move rfl) ?_
          refine sx_pure rfl rfl rfl (px_index1 (j := (k + (dg n).length)) rfl rfl (by omega) Try.underlying22 Try.sizeOf3 hs_s7.sv (by first | omega | (simp only [List.length_set]; omega))) ?_
          refine sx_storeO rfl rfl hs_s7 (by first | omega | (simp only [List.length_map]; omega)) Try.sizeOf3 rfl (fun w33 sw33 fw33 cw33 => ?_)
          have zw33 := cw33.size
          have nw33 := fw33.set
          refine wl_nil ?_
          refine q_bn (q_n (k14 _ _ ?_))
          refine sx_sub (Sub.cons (t := 1) rfl (.cons (t := 5) rfl (.cons (t := 26) rfl (.cons (t := 27) rfl (.cons (t := 28) rfl (.nil)))))) ?_
          have oz := hz2 (k + (dg n).length) (Nat.le_refl _)
          have hosR : (o2.set (k + (dg n).length) c).length = (dg m).length + (dg n).length := by simpa using hos2
          have hlmR := hlm2.set (k + (dg n).length) hc.1 hc.2
          have hzR : ∀ i, k + (dg n).length + 1 ≤ i → (o2.set (k + (dg n).length) c).getD i 0 = 0 := zero_set hz2 (by omega)
          have hvR : vl (o2.set (k + (dg n).length) c) = vl os + Bs ^ k * (((dg m).getD k 0).toNat * n) := (carry_step (by omega) oz).trans hv2
          refine sx_region ?_
          refine sx_pure rfl rfl rfl (px_add rfl rfl (by omega)) ?_
          refine sx_pure rfl rfl rfl (px_move rfl) ?_
          refine wl_nil ?_
          have q34 := Chg.step (l := w.heap.size) (h := ws7.heap.size) cwl11 cwl22 (by omega)
          have q35 := Chg.step (l := w.heap.size) (h := ws7.heap.size) q34 cw33 (by omega)
          have hrow := mul_row (P := Bs ^ k) (a := ((dg m).getD k 0).toNat) hv
          rw [← vl_take_succ'] at hrow
          exact fun a ha => ⟨_, by omega, (k + 1), ((o2).set (k + (dg n).length) c), ha.sub (Sub.cons (t := 1) rfl (.cons (t := 5) rfl (.cons (t := 26) rfl (.cons (t := 27) rfl (.cons (t := 28) (look_int (t := 28) rfl (by first | omega | simp)) (.nil)))))), q35, (nw33.mono (by omega) (by omega)), rfl, by omega, by simpa using hosR, hlmR, fun i hi => hzR i (by omega), hvR.trans hrow⟩
      ·
        refine sx_exit ?_
        refine q_e (q_e (q_bx (q_n (k8 _ _ ?_))))
        refine sx_seq fun K36 k36 => ?_
        have ek : k = (dg m).length := by omega
        rw [ek, List.take_length, vl_dg] at hv
        have hzz := hlm
        refine sx_region ?_
        refine sx_pure rfl rfl rfl (px_move rfl) ?_
        refine sx_call rfl rfl Try.call117 (c_l02Trim hs_s7 (by assumption) (by first | omega | (simp only [List.length_append, List.length_set, List.length_replicate, List.length_cons, List.length_nil] at *; omega))) (fun v37 w37 p37 => ?_)
        obtain ⟨s37, rfl, os_37, c37⟩ := p37
        have zw37 := c37.size
        refine sx_pure rfl rfl rfl (px_assign rfl) ?_
        refine wl_nil ?_
        refine q_n (k36 _ _ ?_)
        refine sx_retc ?_
        refine sx_ret1 Try.results85 rfl ?_
        have hr := Own.sv os_37
        rw [hv] at hr
        have q38 := Chg.step (l := 0) (h := 0) cs7 cwl11 (by omega)
        have q39 := Chg.step (l := 0) (h := 0) q38 c37 (by omega)
        exact ⟨_, rfl, hr.mono (by omega) (by omega), q39⟩

theorem c_l02Cap {w : World} {va : Value} {lva uva : Nat} {m : Nat} (hva : Sl w lva uva va (dg m)) (h63 : (dg m).length ≤ 1000000) :
    Ret Try.prog 128 [va] w fun v w' => ∃ s, v = s ∧ Sl w' (lva) (uva) s (dg (capN m)) ∧ Chg 0 0 w w' := by
  refine sx_enter Try.func128 rfl Try.ntmps128 (Nat.le_of_ble_eq_true rfl) ?_
  refine sx_seq fun K1 k1 => ?_
  refine sx_region ?_
  refine sx_pure rfl rfl rfl (px_assign rfl) ?_
  refine wl_nil ?_
  refine q_n (k1 _ _ ?_)
  refine sx_seq fun K2 k2 => ?_
  refine sx_region ?_
  refine sx_pure rfl rfl rfl (px_move rfl) ?_
  refine sx_call rfl rfl Try.call117 (c_l02TrimD hva (by omega)) (fun v3 w3 p3 => ?_)
  obtain ⟨s3, rfl, os_3, c3⟩ := p3
  have zw3 := c3.size
  refine sx_pure rfl rfl rfl (px_assign rfl) ?_
  refine wl_nil ?_
  refine q_n (k2 _ _ ?_)
  refine sx_seq fun K4 k4 => ?_
  refine sx_seq fun K5 k5 => ?_
  refine sx_region ?_
  refine sx_pure rfl rfl rfl (px_move rfl) ?_
  refine sx_pure rfl rfl rfl (px_len rfl Try.underlying22 os_3) ?_
  refine sx_pure rfl rfl rfl (px_gt rfl rfl) ?_
  refine wl_nil ?_
  refine q_n (k5 _ _ ?_)
  refine sx_condP rfl (fun h25 => ?_) (fun h25 => ?_)
  ·
    refine sx_seq fun K6 k6 => ?_
    refine sx_region ?_
    refine sx_pure rfl rfl rfl (px_assign rfl) ?_
    refine wl_nil ?_
    refine q_n (k6 _ _ ?_)
    refine sx_retc ?_
    refine q_r (sx_ret1 Try.results128 rfl ?_)
    rw [capN_no (by omega), dg_zero]
    exact ⟨_, rfl, Sv.nil _ _ _ _, c3⟩
  ·
    refine sx_skip ?_
    refine q_n (k4 _ _ ?_)
    refine sx_seq fun K7 k7 => ?_
    refine sx_region ?_
    refine sx_pure rfl rfl rfl (px_move rfl) ?_
    refine sx_pure rfl rfl rfl (px_assign rfl) ?_
    refine wl_nil ?_
    refine q_n (k7 _ _ ?_)
    refine sx_retc ?_
    refine sx_ret1 Try.results128 rfl ?_
    rw [capN_ok (by omega)]
    exact ⟨_, rfl, (Sv.mono os_3 (by omega) (by omega)), c3⟩

theorem c_l04Make {w : World} {n : Bool} {va : Value} {lva uva : Nat} {m : Nat} (hva : Sl w lva uva va (dg m)) (h63 : (dg m).length ≤ 1000000) :
    Ret Try.prog 106 [.bool n, va] w fun v w' => ∃ s, v = .agg #[.bool (ng (capI n m)), s] ∧ OwnI w' w.heap.size w'.heap.size s intT (dg (capI n m).natAbs) ∧ Chg 0 0 w w' := by
  have hva0 := hva.fit
  have hcap : (dg (capN m)).length ≤ 50 := by unfold capN; split; assumption; rw [dg_zero]; simp
  refine sx_enter Try.func106 rfl Try.ntmps106 (Nat.le_of_ble_eq_true rfl) ?_
  refine sx_seq fun K1 k1 => ?_
  refine sx_region ?_
  refine sx_alloc [.bool false, (.slice none 0 0)] rfl Try.zeroValue29 rfl (fun b2 w3 eb2 sb2 fb2 cb2 => ?_)
  have zw3 := cb2.size
  refine wl_nil ?_
  refine q_n (k1 _ _ ?_)
  refine sx_seq fun K4 k4 => ?_
  refine sx_region ?_
  refine sx_pure rfl rfl rfl (px_move rfl) ?_
  have f5 := hva0.ext cb2
  refine sx_call rfl rfl Try.call128 (c_l02Cap f5 (by omega)) (fun v6 w6 p6 => ?_)
  obtain ⟨s6, rfl, os_6, c6⟩ := p6
  have zw6 := c6.size
  refine sx_pure rfl rfl rfl (px_assign rfl) ?_
  refine wl_nil ?_
  refine q_n (k4 _ _ ?_)
  refine sx_seq fun K7 k7 => ?_
  refine sx_region ?_
  refine sx_pure rfl rfl rfl (px_move rfl) ?_
  refine sx_pure rfl rfl rfl (px_move rfl) ?_
  refine sx_tmpB (t := 9) rfl (fun h10 => ?_) (fun h10 => ?_)
  ·
    refine sx_guardT rfl rfl rfl ?_
    refine sx_pure rfl rfl rfl (px_move rfl) ?_
    refine sx_guardT rfl rfl rfl ?_
    refine sx_pure rfl rfl rfl (px_len rfl Try.underlying22 os_6) ?_
    refine sx_guardT rfl rfl rfl ?_
    refine sx_pure rfl rfl rfl (px_gt rfl rfl) ?_
    refine sx_pure rfl rfl rfl (px_pick rfl rfl) ?_
    refine sx_lit0 rfl xelt22 (fun s8 ws8 ss8 fs8 cs8 => ?_)
    have zws8 := cs8.size
    refine sx_pure rfl rfl rfl (px_move rfl) ?_
    have f10 := os_6.ext cs8
    refine sx_append rfl xelt22 rfl rfl fs8 f10 one_int (by omega) (by first | omega | (simp only [List.length_nil]; omega)) (by unfold maxLen; first | omega | (simp only [List.length_nil]; omega)) (fun a9 w9 fw9 cw9 => ?_)
    have nw9 := Own.norm (f := (Value.int .i64)) (zs := dg (capN m)) fw9
    have zw9 := cw9.size
    refine sx_pure rfl rfl rfl (px_build rfl (xbld29x0x1 rfl nw9.one _)) ?_
    have f12 := fb2.ext c6
    have f13 := f12.ext cs8
    have f14 := f13.chg cw9 (by omega)
    refine sx_store (vs := [.bool (decide ((0 : Int) < ↑((dg (capN m)).length))), a9]) rfl rfl f14 rfl Try.sizeOf29 (Nat.le_of_ble_eq_true rfl) (one_cons rfl (one_cons nw9.one one_nil)) (fun w11 sw11 fw11 cw11 => ?_)
    have zw11 := cw11.size
    have gw11 : Blk w11 b2 [.bool (decide ((0 : Int) < ↑((dg (capN m)).length))), a9] 29 := fw11
    refine wl_nil ?_
    refine q_n (k7 _ _ ?_)
    refine sx_sub (Sub.cons (t := 4) rfl (.nil)) ?_
    refine sx_retc ?_
    refine sx_ret1 Try.results106 ⟨_, rfl, gw11.loadA (vs := [.bool (decide ((0 : Int) < ↑((dg (capN m)).length))), a9]) (look_lit rfl) Try.isAgg29 Try.sizeOf29⟩ ?_
    have hh := cap_sg n m
    rw [← hh.1, ← hh.2]
    have q15 := Chg.step (l := 0) (h := 0) cb2 c6 (by omega)
    have q16 := Chg.step (l := 0) (h := 0) q15 cs8 (by omega)
    have q17 := Chg.step (l := 0) (h := 0) q16 cw9 (by omega)
    have q18 := Chg.step (l := 0) (h := 0) q17 cw11 (by omega)
    have f19 := nw9.chg cw11 (by omega)
    exact ⟨_, by simp [nz, h10], (Own.mono f19 (by omega) (by omega)), q18⟩
  ·
    refine sx_guardF rfl rfl rfl rfl rfl rfl ?_
    refine sx_guardF rfl rfl rfl rfl rfl rfl ?_
    refine sx_guardF rfl rfl rfl rfl rfl rfl ?_
    refine sx_pure rfl rfl rfl (px_pick rfl rfl) ?_
    refine sx_lit0 rfl xelt22 (fun s20 ws20 ss20 fs20 cs20 => ?_)
    have zws20 := cs20.size
    refine sx_pure rfl rfl rfl (px_move rfl) ?_
    have f22 := os_6.ext cs20
    refine sx_append rfl xelt22 rfl rfl fs20 f22 one_int (by omega) (by first | omega | (simp only [List.length_nil]; omega)) (by unfold maxLen; first | omega | (simp only [List.length_nil]; omega)) (fun a21 w21 fw21 cw21 => ?_)
    have nw21 := Own.norm (f := (Value.int .i64)) (zs := dg (capN m)) fw21
    have zw21 := cw21.size
    refine sx_pure rfl rfl rfl (px_build rfl (xbld29x0x1 rfl nw21.one _)) ?_
    have f24 := fb2.ext c6
    have f25 := f24.ext cs20
    have f26 := f25.chg cw21 (by omega)
    refine sx_store (vs := [.bool false, a21]) rfl rfl f26 rfl Try.sizeOf29 (Nat.le_of_ble_eq_true rfl) (one_cons rfl (one_cons nw21.one one_nil)) (fun w23 sw23 fw23 cw23 => ?_)
    have zw23 := cw23.size
    have gw23 : Blk w23 b2 [.bool false, a21] 29 := fw23
    refine wl_nil ?_
    refine q_n (k7 _ _ ?_)
    refine sx_sub (Sub.cons (t := 4) rfl (.nil)) ?_
    refine sx_retc ?_
    refine sx_ret1 Try.results106 ⟨_, rfl, gw23.loadA (vs := [.bool false, a21]) (look_lit rfl) Try.isAgg29 Try.sizeOf29⟩ ?_
    have hh := cap_sg n m
    rw [← hh.1, ← hh.2]
    have q27 := Chg.step (l := 0) (h := 0) cb2 c6 (by omega)
    have q28 := Chg.step (l := 0) (h := 0) q27 cs20 (by omega)
    have q29 := Chg.step (l := 0) (h := 0) q28 cw21 (by omega)
    have q30 := Chg.step (l := 0) (h := 0) q29 cw23 (by omega)
    have f31 := nw21.chg cw23 (by omega)
    exact ⟨_, by simp [nz, h10], (Own.mono f31 (by omega) (by omega)), q30⟩

theorem c_IntMul {w : World} {va : Value} {lva uva : Nat} {x : Int} {vb : Value} {lvb uvb : Nat} {y : Int} (hva : Sl w lva uva va (dg x.natAbs)) (hvb : Sl w lvb uvb vb (dg y.natAbs)) (hbx : (dg x.natAbs).length ≤ 50) (hby : (dg y.natAbs).length ≤ 50) :
    Ret Try.prog 67 [.agg #[.bool (ng x), va], .agg #[.bool (ng y), vb]] w fun v w' => ∃ s, v = .agg #[.bool (ng (cap (x * y))), s] ∧ OwnI w' w.heap.size w'.heap.size s intT (dg (cap (x * y)).natAbs) ∧ Chg 0 0 w w' := by
  have hva0 := hva.fit
  have hvb0 := hvb.fit
  have l1 := len_mul x.natAbs y.natAbs
  refine sx_enter Try.func67 rfl Try.ntmps67 (Nat.le_of_ble_eq_true rfl) ?_
  refine sx_seq fun K1 k1 => ?_
  refine sx_region ?_
  refine sx_box [.bool (ng x), va] rfl rfl rfl (fun b2 w3 eb2 sb2 fb2 cb2 => ?_)
  have zw3 := cb2.size
  refine sx_box [.bool (ng y), vb] rfl rfl rfl (fun b4 w5 eb4 sb4 fb4 cb4 => ?_)
  have zw5 := cb4.size
  refine sx_alloc [.bool false, (.slice none 0 0)] rfl Try.zeroValue29 rfl (fun b6 w7 eb6 sb6 fb6 cb6 => ?_)
  have zw7 := cb6.size
  refine wl_nil ?_
  refine q_n (k1 _ _ ?_)
  refine sx_seq fun K8 k8 => ?_
  refine sx_seq fun K9 k9 => ?_
  refine sx_region ?_
  have f10 := fb2.ext cb4
  have f11 := f10.ext cb6
  refine sx_pure rfl rfl rfl (px_load rfl (f11.loadA (vs := [.bool (ng x), va]) (look_lit rfl) Try.isAgg29 Try.sizeOf29)) ?_
  have f12 := hva0.ext cb2
  have f13 := f12.ext cb4
  have f14 := f13.ext cb6
  refine sx_call rfl rfl Try.call60 (c_sIntOk f14 (by omega)) (fun v15 w15 p15 => ?_)
  obtain ⟨rfl, c15⟩ := p15
  have zw15 := c15.size
  refine sx_pure rfl rfl rfl (px_notP rfl) ?_
  refine sx_pure rfl rfl rfl (px_move rfl) ?_
  have h80 : ¬ (¬ (IOk (ng x) (dg x.natAbs))) := by first | exact fun h => h (IOk_ng (by omega)) | exact fun h => h (IOk_ng (by assumption))
  refine sx_tmpPF (t := 8) rfl h80 ?_
  refine sx_guardT rfl rfl rfl ?_
  have f16 := fb4.ext cb6
  have f17 := f16.ext c15
  refine sx_pure rfl rfl rfl (px_load rfl (f17.loadA (vs := [.bool (ng y), vb]) (look_lit rfl) Try.isAgg29 Try.sizeOf29)) ?_
  refine sx_guardT rfl rfl rfl ?_
  have f18 := hvb0.ext cb2
  have f19 := f18.ext cb4
  have f20 := f19.ext cb6
  have f21 := f20.ext c15
  refine sx_call rfl rfl Try.call60 (c_sIntOk f21 (by omega)) (fun v22 w22 p22 => ?_)
  obtain ⟨rfl, c22⟩ := p22
  have zw22 := c22.size
  refine sx_guardT rfl rfl rfl ?_
  refine sx_pure rfl rfl rfl (px_notP rfl) ?_
  refine sx_pure rfl rfl rfl (px_pick rfl rfl) ?_
  refine wl_nil ?_
  refine q_n (k9 _ _ ?_)
  have h80x1 : ¬ (¬ (IOk (ng y) (dg y.natAbs))) := by first | exact fun h => h (IOk_ng (by omega)) | exact fun h => h (IOk_ng (by assumption))
  refine sx_condPF rfl h80x1 ?_
  refine sx_skip ?_
  refine q_n (k8 _ _ ?_)
  refine sx_seq fun K23 k23 => ?_
  have f24 := f11.ext c15
  have f25 := f24.ext c22
  have f26 := f17.ext c22
  have f27 := f14.ext c15
  have f28 := f27.ext c22
  have f29 := f21.ext c22
  refine dx_region (fun w' => Chg b6 (b6 + 1) w22 w') (by kernel_rfl) (Chg.zero (Chg.drew _)) ?_
  have d30 := Chg.drew w22
  have s30 : Chg b6 (b6 + 1) w22 (World.drew w22) := Chg.zero (Chg.drew _)
  have y30 : (World.drew w22).heap.size = w22.heap.size := rfl
  generalize World.drew w22 = w30 at *
  have zw30 := d30.size
  refine dx_take 0 rfl rfl rfl rfl (by kernel_rfl) (by kernel_rfl) (by kernel_rfl) s30 (fun _ hS => px_field rfl xfld29x0) ?_
  refine dx_take 1 rfl rfl rfl rfl (by kernel_rfl) (by kernel_rfl) (by kernel_rfl) s30 (fun _ hS => px_load rfl ((f25.chg hS (by omega)).load1 rfl Try.isAgg4)) ?_
  refine dx_take 2 rfl rfl rfl rfl (by kernel_rfl) (by kernel_rfl) (by kernel_rfl) s30 (fun _ hS => px_field rfl xfld29x0) ?_
  refine dx_take 3 rfl rfl rfl rfl (by kernel_rfl) (by kernel_rfl) (by kernel_rfl) s30 (fun _ hS => px_load rfl ((f26.chg hS (by omega)).load1 rfl Try.isAgg4)) ?_
  refine dx_take 4 rfl rfl rfl rfl (by kernel_rfl) (by kernel_rfl) (by kernel_rfl) s30 (fun _ hS => px_neB Try.underlying4 rfl rfl) ?_
  refine dx_take 5 rfl rfl rfl rfl (by kernel_rfl) (by kernel_rfl) (by kernel_rfl) s30 (fun _ hS => px_field rfl xfld29x1) ?_
  refine dx_take 6 rfl rfl rfl rfl (by kernel_rfl) (by kernel_rfl) (by kernel_rfl) s30 (fun _ hS => px_load rfl ((f25.chg hS (by omega)).load1 rfl Try.isAgg22)) ?_
  refine dx_take 7 rfl rfl rfl rfl (by kernel_rfl) (by kernel_rfl) (by kernel_rfl) s30 (fun _ hS => px_field rfl xfld29x1) ?_
  refine dx_take 8 rfl rfl rfl rfl (by kernel_rfl) (by kernel_rfl) (by kernel_rfl) s30 (fun _ hS => px_load rfl ((f26.chg hS (by omega)).load1 rfl Try.isAgg22)) ?_
  refine dx_eff 9 rfl (by kernel_rfl) ?_
  have f31 := f28.ext d30
  have f32 := f29.ext d30
  refine sx_call rfl rfl Try.call85 (c_l02Mul f31 f32 (by omega) (by omega)) (fun v33 w33 p33 => ?_)
  obtain ⟨s33, rfl, os_33, c33⟩ := p33
  have zw33 := c33.size
  have q35 := Chg.step (l := b6) (h := (b6 + 1)) (Chg.zero (l := b6) (h := (b6 + 1)) d30) c33 (by omega)
  have s34 : Chg b6 (b6 + 1) w22 w33 := q35
  refine wl_nil ?_
  refine dx_next s34 ?_
  refine dx_eff 10 rfl (by kernel_rfl) ?_
  refine sx_call rfl rfl Try.call106 (c_l04Make os_33 (by omega)) (fun v36 w36 p36 => ?_)
  obtain ⟨s36, rfl, os_36, c36⟩ := p36
  have zw36 := c36.size
  have q38 := Chg.step (l := b6) (h := (b6 + 1)) (Chg.zero (l := b6) (h := (b6 + 1)) d30) c33 (by omega)
  have q39 := Chg.step (l := b6) (h := (b6 + 1)) q38 c36 (by omega)
  have s37 : Chg b6 (b6 + 1) w22 w36 := q39
  refine wl_nil ?_
  refine dx_next s37 ?_
  refine dx_eff 11 rfl (by kernel_rfl) ?_
  have f41 := fb6.ext c15
  have f42 := f41.ext c22
  have f43 := f42.ext d30
  have f44 := f43.ext c33
  have f45 := f44.ext c36
  refine sx_store (vs := [.bool (ng (capI ((ng x) != (ng y)) (x.natAbs * y.natAbs))), s36]) rfl rfl f45 rfl Try.sizeOf29 (Nat.le_of_ble_eq_true rfl) (one_cons rfl (one_cons os_36.one one_nil)) (fun w40 sw40 fw40 cw40 => ?_)
  have zw40 := cw40.size
  have gw40 : Blk w40 b6 [.bool (ng (capI ((ng x) != (ng y)) (x.natAbs * y.natAbs))), s36] 29 := fw40
  have q47 := Chg.step (l := b6) (h := (b6 + 1)) (Chg.zero (l := b6) (h := (b6 + 1)) d30) c33 (by omega)
  have q48 := Chg.step (l := b6) (h := (b6 + 1)) q47 c36 (by omega)
  have q49 := Chg.step (l := b6) (h := (b6 + 1)) q48 cw40 (by omega)
  have s46 : Chg b6 (b6 + 1) w22 w40 := q49
  refine wl_nil ?_
  refine dx_next s46 ?_
  refine dx_done (by kernel_rfl) ?_
  refine q_n (k23 _ _ ?_)
  refine sx_sub (Sub.cons (t := 4) rfl (.nil)) ?_
  refine sx_retc ?_
  refine sx_ret1 Try.results67 ⟨_, rfl, gw40.loadA (vs := [.bool (ng (capI ((ng x) != (ng y)) (x.natAbs * y.natAbs))), s36]) (look_lit rfl) Try.isAgg29 Try.sizeOf29⟩ ?_
  have hq := capI_of (mul_sg x y)
  rw [← hq]
  have q50 := Chg.step (l := 0) (h := 0) cb2 cb4 (by omega)
  have q51 := Chg.step (l := 0) (h := 0) q50 cb6 (by omega)
  have q52 := Chg.step (l := 0) (h := 0) q51 c15 (by omega)
  have q53 := Chg.step (l := 0) (h := 0) q52 c22 (by omega)
  have q54 := Chg.step (l := 0) (h := 0) q53 d30 (by omega)
  have q55 := Chg.step (l := 0) (h := 0) q54 c33 (by omega)
  have q56 := Chg.step (l := 0) (h := 0) q55 c36 (by omega)
  have q57 := Chg.step (l := 0) (h := 0) q56 cw40 (by omega)
  have f58 := os_36.chg cw40 (by omega)
  exact ⟨_, rfl, (Own.mono f58 (by omega) (by omega)), q57⟩

theorem c_IntMulE {w : World} {va : Value} {lva uva : Nat} {x : Int} {vb : Value} {lvb uvb : Nat} {y : Int} (hva : Sl w lva uva va (dg x.natAbs)) (hvb : Sl w lvb uvb vb (dg y.natAbs)) (hxy : (dg x.natAbs).length + (dg y.natAbs).length ≤ 50) :
    Ret Try.prog 67 [.agg #[.bool (ng x), va], .agg #[.bool (ng y), vb]] w fun v w' => ∃ s, v = .agg #[.bool (ng (x * y)), s] ∧ OwnI w' w.heap.size w'.heap.size s intT (dg (x * y).natAbs) ∧ Chg 0 0 w w' := by
  have h := c_IntMul hva hvb (by omega) (by omega); rwa [cap_ok (Nat.le_trans (len_mulI x y) hxy)] at h

theorem c_l07Dec {w : World} {va : Value} {lva uva : Nat} {x : Int} {p : Int} (hva : OwnI w lva uva va intT (dg x.natAbs)) (hbx : (dg x.natAbs).length ≤ 1000) (hu : uva ≤ w.heap.size) :
    Ret Try.prog 66 [.agg #[.bool (ng x), va], .int .i64 p] w fun v w' => ∃ s, v = .tuple #[.agg #[.bool ((decR x p).1), s, .int .i64 ((decR x p).2.2.1)], .bool ((decR x p).2.2.2)] ∧ OwnI w' (lva) (uva) s intT ((decR x p).2.1) ∧ Chg 0 0 w w' := by
  refine sx_enter Try.func66 rfl Try.ntmps66 (Nat.le_of_ble_eq_true rfl) ?_
  refine sx_seq fun K1 k1 => ?_
  refine sx_region ?_
  refine sx_box [.bool (ng x), va] rfl rfl rfl (fun b2 w3 eb2 sb2 fb2 cb2 => ?_)
  have zw3 := cb2.size
  refine sx_alloc [.bool false, (.slice none 0 0), .int .i64 0] rfl Try.zeroValue31 rfl (fun b4 w5 eb4 sb4 fb4 cb4 => ?_)
  have zw5 := cb4.size
  refine sx_pure rfl rfl rfl (px_assign rfl) ?_
  refine wl_nil ?_
  refine q_n (k1 _ _ ?_)
  refine sx_seq fun K6 k6 => ?_
  refine sx_region ?_
  have f7 := fb2.ext cb4
  refine sx_pure rfl rfl rfl (px_load rfl (f7.loadA (vs := [.bool (ng x), va]) (look_lit rfl) Try.isAgg29 Try.sizeOf29)) ?_
  refine sx_pure rfl rfl rfl (px_move rfl) ?_
  refine sx_pure rfl rfl rfl (px_build rfl (xbld31x0x1 rfl _)) ?_
  refine sx_alloc [.bool false, (.slice none 0 0), .int .i64 0] rfl Try.zeroValue31 rfl (fun b8 w9 eb8 sb8 fb8 cb8 => ?_)
  have zw9 := cb8.size
  have f11 := hva.ext cb2
  have f12 := f11.ext cb4
  have f13 := f12.ext cb8
  refine sx_store (vs := [.bool (ng x), va, .int .i64 p]) rfl rfl fb8 rfl Try.sizeOf31 (Nat.le_of_ble_eq_true rfl) (one_cons rfl (one_cons f13.one (one_cons rfl one_nil))) (fun w10 sw10 fw10 cw10 => ?_)
  have zw10 := cw10.size
  have gw10 : Blk w10 b8 [.bool (ng x), va, .int .i64 p] 31 := fw10
  refine wl_nil ?_
  refine q_n (k6 _ _ ?_)
  refine sx_seq fun K14 k14 => ?_
  refine sx_seq fun K15 k15 => ?_
  refine sx_region ?_
  refine sx_pure rfl rfl rfl (px_load rfl (gw10.loadA (vs := [.bool (ng x), va, .int .i64 p]) (look_lit rfl) Try.isAgg31 Try.sizeOf31)) ?_
  have f16 := f13.chg cw10 (by omega)
  refine sx_call rfl rfl Try.call16 (c_sDecOk f16.sv (by omega)) (fun v17 w17 p17 => ?_)
  obtain ⟨rfl, c17⟩ := p17
  have zw17 := c17.size
  refine sx_pure rfl rfl rfl (px_notP rfl) ?_
  refine wl_nil ?_
  refine q_n (k15 _ _ ?_)
  refine sx_condP rfl (fun h13 => ?_) (fun h13 => ?_)
  ·
    refine sx_seq fun K18 k18 => ?_
    refine sx_region ?_
    refine sx_pure rfl rfl rfl (px_build rfl (xbld31x  _)) ?_
    have f20 := fb4.ext cb8
    have f21 := f20.chg cw10 (by omega)
    have f22 := f21.ext c17
    refine sx_store (vs := [.bool false, (.slice none 0 0), .int .i64 0]) rfl rfl f22 rfl Try.sizeOf31 (Nat.le_of_ble_eq_true rfl) (one_cons rfl (one_cons rfl (one_cons rfl one_nil))) (fun w19 sw19 fw19 cw19 => ?_)
    have zw19 := cw19.size
    have gw19 : Blk w19 b4 [.bool false, (.slice none 0 0), .int .i64 0] 31 := fw19
    refine sx_pure rfl rfl rfl (px_assign rfl) ?_
    refine wl_nil ?_
    refine q_n (k18 _ _ ?_)
    refine sx_retc ?_
    refine q_r (sx_ret2 Try.results66 ⟨_, rfl, gw19.loadA (vs := [.bool false, (.slice none 0 0), .int .i64 0]) (look_lit rfl) Try.isAgg31 Try.sizeOf31⟩ rfl ?_)
    rw [decR_no (by first | exact h13 | assumption)]
    have q23 := Chg.step (l := 0) (h := 0) cb2 cb4 (by omega)
    have q24 := Chg.step (l := 0) (h := 0) q23 cb8 (by omega)
    have q25 := Chg.step (l := 0) (h := 0) q24 cw10 (by omega)
    have q26 := Chg.step (l := 0) (h := 0) q25 c17 (by omega)
    have q27 := Chg.step (l := 0) (h := 0) q26 cw19 (by omega)
    exact ⟨_, rfl, Own.nil _ _ _ _ _, q27⟩
  ·
    refine sx_skip ?_
    refine q_n (k14 _ _ ?_)
    refine sx_seq fun K28 k28 => ?_
    refine sx_region ?_
    have f29 := gw10.ext c17
    refine sx_pure rfl rfl rfl (px_load rfl (f29.loadA (vs := [.bool (ng x), va, .int .i64 p]) (look_lit rfl) Try.isAgg31 Try.sizeOf31)) ?_
    have f31 := fb4.ext cb8
    have f32 := f31.chg cw10 (by omega)
    have f33 := f32.ext c17
    have f34 := f16.ext c17
    refine sx_store (vs := [.bool (ng x), va, .int .i64 p]) rfl rfl f33 rfl Try.sizeOf31 (Nat.le_of_ble_eq_true rfl) (one_cons rfl (one_cons f34.one (one_cons rfl one_nil))) (fun w30 sw30 fw30 cw30 => ?_)
    have zw30 := cw30.size
    have gw30 : Blk w30 b4 [.bool (ng x), va, .int .i64 p] 31 := fw30
    refine sx_pure rfl rfl rfl (px_assign rfl) ?_
    refine wl_nil ?_
    refine q_n (k28 _ _ ?_)
    refine sx_retc ?_
    refine sx_ret2 Try.results66 ⟨_, rfl, gw30.loadA (vs := [.bool (ng x), va, .int .i64 p]) (look_lit rfl) Try.isAgg31 Try.sizeOf31⟩ rfl ?_
    rw [decR_ok (by first | exact h13 | exact Decidable.not_not.1 h13)]
    have q35 := Chg.step (l := 0) (h := 0) cb2 cb4 (by omega)
    have q36 := Chg.step (l := 0) (h := 0) q35 cb8 (by omega)
    have q37 := Chg.step (l := 0) (h := 0) q36 cw10 (by omega)
    have q38 := Chg.step (l := 0) (h := 0) q37 c17 (by omega)
    have q39 := Chg.step (l := 0) (h := 0) q38 cw30 (by omega)
    have f40 := f34.chg cw30 (by omega)
    exact ⟨_, rfl, (Own.mono f40 (by omega) (by omega)), q39⟩

theorem c_sDecMul {w : World} {n1 : Bool} {v1 : Value} {lv1 uv1 : Nat} {z1 : List Int} {p1 : Int} {n2 : Bool} {v2 : Value} {lv2 uv2 : Nat} {z2 : List Int} {p2 : Int} (hv1 : Sl w lv1 uv1 v1 (z1)) (hv2 : Sl w lv2 uv2 v2 (z2)) (h63 : z1.length ≤ 4611686018427387904 ∧ z2.length ≤ 4611686018427387904) :
    Ret Try.prog 25 [.agg #[.bool n1, v1, .int .i64 p1], .agg #[.bool n2, v2, .int .i64 p2]] w fun v w' => ∃ s, v = .tuple #[.agg #[.bool ((dBin fMul n1 z1 p1 n2 z2 p2).1), s, .int .i64 ((dBin fMul n1 z1 p1 n2 z2 p2).2.2.1)], .bool ((dBin fMul n1 z1 p1 n2 z2 p2).2.2.2)] ∧ OwnI w' w.heap.size w'.heap.size s intT ((dBin fMul n1 z1 p1 n2 z2 p2).2.1) ∧ ((dBin fMul n1 z1 p1 n2 z2 p2).2.1.length ≤ 6) ∧ Chg 0 0 w w' := by
  have hv10 := hv1.fit
  have hv20 := hv2.fit
  refine sx_enter Try.func25 rfl Try.ntmps25 (Nat.le_of_ble_eq_true rfl) ?_
  refine sx_seq fun K1 k1 => ?_
  refine sx_region ?_
  refine sx_box [.bool n1, v1, .int .i64 p1] rfl rfl rfl (fun b2 w3 eb2 sb2 fb2 cb2 => ?_)
  have zw3 := cb2.size
  refine sx_box [.bool n2, v2, .int .i64 p2] rfl rfl rfl (fun b4 w5 eb4 sb4 fb4 cb4 => ?_)
  have zw5 := cb4.size
  refine sx_alloc [.bool false, (.slice none 0 0), .int .i64 0] rfl Try.zeroValue31 rfl (fun b6 w7 eb6 sb6 fb6 cb6 => ?_)
  have zw7 := cb6.size
  refine sx_pure rfl rfl rfl (px_assign rfl) ?_
  refine wl_nil ?_
  refine q_n (k1 _ _ ?_)
  refine sx_seq fun K8 k8 => ?_
  refine sx_seq fun K9 k9 => ?_
  refine sx_region ?_
  have f10 := fb2.ext cb4
  have f11 := f10.ext cb6
  refine sx_pure rfl rfl rfl (px_load rfl (f11.loadA (vs := [.bool n1, v1, .int .i64 p1]) (look_lit rfl) Try.isAgg31 Try.sizeOf31)) ?_
  have f12 := hv10.ext cb2
  have f13 := f12.ext cb4
  have f14 := f13.ext cb6
  refine sx_call rfl rfl Try.call16 (c_sDecOk f14 (by omega)) (fun v15 w15 p15 => ?_)
  obtain ⟨rfl, c15⟩ := p15
  have zw15 := c15.size
  refine sx_pure rfl rfl rfl (px_notP rfl) ?_
  refine sx_pure rfl rfl rfl (px_move rfl) ?_
  refine sx_tmpP (t := 9) rfl (fun h123 => ?_) (fun h123 => ?_)
  ·
    refine sx_guardF rfl rfl rfl rfl rfl rfl ?_
    refine sx_guardF rfl rfl rfl rfl rfl rfl ?_
    refine sx_guardF rfl rfl rfl rfl rfl rfl ?_
    refine sx_pure rfl rfl rfl (px_pick rfl rfl) ?_
    refine wl_nil ?_
    refine q_n (k9 _ _ ?_)
    refine sx_condT rfl ?_
    refine sx_seq fun K16 k16 => ?_
    refine sx_region ?_
    refine sx_pure rfl rfl rfl (px_build rfl (xbld31x  _)) ?_
    have f18 := fb6.ext c15
    refine sx_store (vs := [.bool false, (.slice none 0 0), .int .i64 0]) rfl rfl f18 rfl Try.sizeOf31 (Nat.le_of_ble_eq_true rfl) (one_cons rfl (one_cons rfl (one_cons rfl one_nil))) (fun w17 sw17 fw17 cw17 => ?_)
    have zw17 := cw17.size
    have gw17 : Blk w17 b6 [.bool false, (.slice none 0 0), .int .i64 0] 31 := fw17
    refine sx_pure rfl rfl rfl (px_assign rfl) ?_
    refine wl_nil ?_
    refine q_n (k16 _ _ ?_)
    refine sx_sub (Sub.cons (t := 2) rfl (.cons (t := 3) rfl (.cons (t := 4) rfl (.cons (t := 5) rfl (.nil))))) ?_
    refine sx_retc ?_
    refine q_r (sx_ret2 Try.results25 ⟨_, rfl, gw17.loadA (vs := [.bool false, (.slice none 0 0), .int .i64 0]) (look_lit rfl) Try.isAgg31 Try.sizeOf31⟩ rfl ?_)
    rw [dBin_no (by grind)]
    have q19 := Chg.step (l := 0) (h := 0) cb2 cb4 (by omega)
    have q20 := Chg.step (l := 0) (h := 0) q19 cb6 (by omega)
    have q21 := Chg.step (l := 0) (h := 0) q20 c15 (by omega)
    have q22 := Chg.step (l := 0) (h := 0) q21 cw17 (by omega)
    exact ⟨_, rfl, Own.nil _ _ _ _ _, by simp, q22⟩
  ·
    refine sx_guardT rfl rfl rfl ?_
    have f23 := fb4.ext cb6
    have f24 := f23.ext c15
    refine sx_pure rfl rfl rfl (px_load rfl (f24.loadA (vs := [.bool n2, v2, .int .i64 p2]) (look_lit rfl) Try.isAgg31 Try.sizeOf31)) ?_
    refine sx_guardT rfl rfl rfl ?_
    have f25 := hv20.ext cb2
    have f26 := f25.ext cb4
    have f27 := f26.ext cb6
    have f28 := f27.ext c15
    refine sx_call rfl rfl Try.call16 (c_sDecOk f28 (by omega)) (fun v29 w29 p29 => ?_)
    obtain ⟨rfl, c29⟩ := p29
    have zw29 := c29.size
    refine sx_guardT rfl rfl rfl ?_
    refine sx_pure rfl rfl rfl (px_notP rfl) ?_
    refine sx_pure rfl rfl rfl (px_pick rfl rfl) ?_
    refine wl_nil ?_
    refine q_n (k9 _ _ ?_)
    refine sx_condP rfl (fun h123x1 => ?_) (fun h123x1 => ?_)
    ·
      refine sx_seq fun K30 k30 => ?_
      refine sx_region ?_
      refine sx_pure rfl rfl rfl (px_build rfl (xbld31x  _)) ?_
      have f32 := fb6.ext c15
      have f33 := f32.ext c29
      refine sx_store (vs := [.bool false, (.slice none 0 0), .int .i64 0]) rfl rfl f33 rfl Try.sizeOf31 (Nat.le_of_ble_eq_true rfl) (one_cons rfl (one_cons rfl (one_cons rfl one_nil))) (fun w31 sw31 fw31 cw31 => ?_)
      have zw31 := cw31.size
      have gw31 : Blk w31 b6 [.bool false, (.slice none 0 0), .int .i64 0] 31 := fw31
      refine sx_pure rfl rfl rfl (px_assign rfl) ?_
      refine wl_nil ?_
      refine q_n (k30 _ _ ?_)
      refine sx_sub (Sub.cons (t := 2) rfl (.cons (t := 3) rfl (.cons (t := 4) rfl (.cons (t := 5) rfl (.nil))))) ?_
      refine sx_retc ?_
      refine q_r (sx_ret2 Try.results25 ⟨_, rfl, gw31.loadA (vs := [.bool false, (.slice none 0 0), .int .i64 0]) (look_lit rfl) Try.isAgg31 Try.sizeOf31⟩ rfl ?_)
      rw [dBin_no (by grind)]
      have q34 := Chg.step (l := 0) (h := 0) cb2 cb4 (by omega)
      have q35 := Chg.step (l := 0) (h := 0) q34 cb6 (by omega)
      have q36 := Chg.step (l := 0) (h := 0) q35 c15 (by omega)
      have q37 := Chg.step (l := 0) (h := 0) q36 c29 (by omega)
      have q38 := Chg.step (l := 0) (h := 0) q37 cw31 (by omega)
      exact ⟨_, rfl, Own.nil _ _ _ _ _, by simp, q38⟩
    ·
      have hD1 := Decidable.not_not.1 h123
      have hD2 := Decidable.not_not.1 h123x1
      obtain ⟨x1, rfl, rfl, hx1⟩ := hD1.int
      obtain ⟨x2, rfl, rfl, hx2⟩ := hD2.int
      refine sx_skip ?_
      refine q_n (k8 _ _ ?_)
      refine sx_seq fun K39 k39 => ?_
      have f40 := f11.ext c15
      have f41 := f40.ext c29
      have f42 := f24.ext c29
      have f43 := f14.ext c15
      have f44 := f43.ext c29
      have f45 := f28.ext c29
      refine dx_region (fun w' => Chg b6 (b6 + 1) w29 w') (by kernel_rfl) (Chg.zero (Chg.drew _)) ?_
      have d46 := Chg.drew w29
      have s46 : Chg b6 (b6 + 1) w29 (World.drew w29) := Chg.zero (Chg.drew _)
      have y46 : (World.drew w29).heap.size = w29.heap.size := rfl
      generalize World.drew w29 = w46 at *
      have zw46 := d46.size
      refine dx_take 0 rfl rfl rfl rfl (by kernel_rfl) (by kernel_rfl) (by kernel_rfl) s46 (fun _ hS => px_field rfl xfld31x0) ?_
      refine dx_take 1 rfl rfl rfl rfl (by kernel_rfl) (by kernel_rfl) (by kernel_rfl) s46 (fun _ hS => px_load rfl ((f41.chg hS (by omega)).loadA (vs := [.bool (ng x1), v1]) (look_lit rfl) Try.isAgg29 Try.sizeOf29)) ?_
      refine dx_take 2 rfl rfl rfl rfl (by kernel_rfl) (by kernel_rfl) (by kernel_rfl) s46 (fun _ hS => px_field rfl xfld31x0) ?_
      refine dx_take 3 rfl rfl rfl rfl (by kernel_rfl) (by kernel_rfl) (by kernel_rfl) s46 (fun _ hS => px_load rfl ((f42.chg hS (by omega)).loadA (vs := [.bool (ng x2), v2]) (look_lit rfl) Try.isAgg29 Try.sizeOf29)) ?_
      refine dx_take 5 rfl rfl rfl rfl (by kernel_rfl) (by kernel_rfl) (by kernel_rfl) s46 (fun _ hS => px_field rfl xfld31x1) ?_
      refine dx_take 6 rfl rfl rfl rfl (by kernel_rfl) (by kernel_rfl) (by kernel_rfl) s46 (fun _ hS => px_load rfl ((f41.chg hS (by omega)).load1 rfl Try.isAgg3)) ?_
      refine dx_take 7 rfl rfl rfl rfl (by kernel_rfl) (by kernel_rfl) (by kernel_rfl) s46 (fun _ hS => px_field rfl xfld31x1) ?_
      refine dx_take 8 rfl rfl rfl rfl (by kernel_rfl) (by kernel_rfl) (by kernel_rfl) s46 (fun _ hS => px_load rfl ((f42.chg hS (by omega)).load1 rfl Try.isAgg3)) ?_
      refine dx_take 9 rfl rfl rfl rfl (by kernel_rfl) (by kernel_rfl) (by kernel_rfl) s46 (fun _ hS => px_add rfl rfl (by omega)) ?_
      refine dx_eff 4 rfl (by kernel_rfl) ?_
      have f47 := f44.ext d46
      have f48 := f45.ext d46
      refine sx_call rfl rfl Try.call67 (c_IntMulE f47 f48 (by omega)) (fun v49 w49 p49 => ?_)
      obtain ⟨s49, rfl, os_49, c49⟩ := p49
      have zw49 := c49.size
      have q51 := Chg.step (l := b6) (h := (b6 + 1)) (Chg.zero (l := b6) (h := (b6 + 1)) d46) c49 (by omega)
      have s50 : Chg b6 (b6 + 1) w29 w49 := q51
      refine wl_nil ?_
      refine dx_next s50 ?_
      refine dx_eff 10 rfl (by kernel_rfl) ?_
      refine sx_call rfl rfl Try.call66 (c_l07Dec os_49 (by have h := len_mulI x1 x2; omega) (by omega)) (fun v52 w52 p52 => ?_)
      obtain ⟨s52, rfl, os_52, c52⟩ := p52
      have zw52 := c52.size
      have q54 := Chg.step (l := b6) (h := (b6 + 1)) (Chg.zero (l := b6) (h := (b6 + 1)) d46) c49 (by omega)
      have q55 := Chg.step (l := b6) (h := (b6 + 1)) q54 c52 (by omega)
      have s53 : Chg b6 (b6 + 1) w29 w52 := q55
      refine wl_nil ?_
      refine dx_next s53 ?_
      refine dx_take 11 rfl rfl rfl rfl (by kernel_rfl) (by kernel_rfl) (by kernel_rfl) s53 (fun _ hS => px_extract (vs := [.agg #[.bool ((decR (x1 * x2) (p1 + p2)).1), s52, .int .i64 ((decR (x1 * x2) (p1 + p2)).2.2.1)], .bool ((decR (x1 * x2) (p1 + p2)).2.2.2)]) rfl rfl) ?_
      refine dx_take 12 rfl rfl rfl rfl (by kernel_rfl) (by kernel_rfl) (by kernel_rfl) s53 (fun _ hS => px_extract (vs := [.agg #[.bool ((decR (x1 * x2) (p1 + p2)).1), s52, .int .i64 ((decR (x1 * x2) (p1 + p2)).2.2.1)], .bool ((decR (x1 * x2) (p1 + p2)).2.2.2)]) rfl rfl) ?_
      refine dx_eff 13 rfl (by kernel_rfl) ?_
      have f57 := fb6.ext c15
      have f58 := f57.ext c29
      have f59 := f58.ext d46
      have f60 := f59.ext c49
      have f61 := f60.ext c52
      refine sx_store (vs := [.bool ((decR (x1 * x2) (p1 + p2)).1), s52, .int .i64 ((decR (x1 * x2) (p1 + p2)).2.2.1)]) rfl rfl f61 rfl Try.sizeOf31 (Nat.le_of_ble_eq_true rfl) (one_cons rfl (one_cons os_52.one (one_cons rfl one_nil))) (fun w56 sw56 fw56 cw56 => ?_)
      have zw56 := cw56.size
      have gw56 : Blk w56 b6 [.bool ((decR (x1 * x2) (p1 + p2)).1), s52, .int .i64 ((decR (x1 * x2) (p1 + p2)).2.2.1)] 31 := fw56
      have q63 := Chg.step (l := b6) (h := (b6 + 1)) (Chg.zero (l := b6) (h := (b6 + 1)) d46) c49 (by omega)
      have q64 := Chg.step (l := b6) (h := (b6 + 1)) q63 c52 (by omega)
      have q65 := Chg.step (l := b6) (h := (b6 + 1)) q64 cw56 (by omega)
      have s62 : Chg b6 (b6 + 1) w29 w56 := q65
      refine wl_nil ?_
      refine dx_next s62 ?_
      refine dx_take 14 rfl rfl rfl rfl (by kernel_rfl) (by kernel_rfl) (by kernel_rfl) s62 (fun _ hS => px_assign rfl) ?_
      refine dx_done (by kernel_rfl) ?_
      refine q_n (k39 _ _ ?_)
      refine sx_sub (Sub.cons (t := 4) rfl (.cons (t := 5) rfl (.nil))) ?_
      refine sx_retc ?_
      refine sx_ret2 Try.results25 ⟨_, rfl, gw56.loadA (vs := [.bool ((decR (x1 * x2) (p1 + p2)).1), s52, .int .i64 ((decR (x1 * x2) (p1 + p2)).2.2.1)]) (look_lit rfl) Try.isAgg31 Try.sizeOf31⟩ rfl ?_
      rw [dBin_ok hD1 hD2]
      have q66 := Chg.step (l := 0) (h := 0) cb2 cb4 (by omega)
      have q67 := Chg.step (l := 0) (h := 0) q66 cb6 (by omega)
      have q68 := Chg.step (l := 0) (h := 0) q67 c15 (by omega)
      have q69 := Chg.step (l := 0) (h := 0) q68 c29 (by omega)
      have q70 := Chg.step (l := 0) (h := 0) q69 d46 (by omega)
      have q71 := Chg.step (l := 0) (h := 0) q70 c49 (by omega)
      have q72 := Chg.step (l := 0) (h := 0) q71 c52 (by omega)
      have q73 := Chg.step (l := 0) (h := 0) q72 cw56 (by omega)
      have f74 := os_52.chg cw56 (by omega)
      exact ⟨_, rfl, (Own.mono f74 (by omega) (by omega)), decR_len _ _, q73⟩

theorem c_iNatOk {w : World} {va : Value} {lva uva : Nat} {zs : List Int} (hva : Sl w lva uva va (zs)) (h63 : zs.length ≤ 4611686018427387904) :
    Ret Try.prog 104 [va] w fun v w' => v = .bool (decide (NOk zs)) ∧ Chg 0 0 w w' := by
  have hva0 := hva.fit
  refine sx_enter Try.func104 rfl Try.ntmps104 (Nat.le_of_ble_eq_true rfl) ?_
  refine sx_seq fun K1 k1 => ?_
  refine sx_region ?_
  refine sx_pure rfl rfl rfl (px_assign rfl) ?_
  refine wl_nil ?_
  refine q_n (k1 _ _ ?_)
  refine sx_seq fun K2 k2 => ?_
  refine sx_seq fun K3 k3 => ?_
  refine sx_region ?_
  refine sx_pure rfl rfl rfl (px_move rfl) ?_
  refine sx_pure rfl rfl rfl (px_len rfl Try.underlying22 hva0) ?_
  refine sx_pure rfl rfl rfl (px_gt rfl rfl) ?_
  refine sx_pure rfl rfl rfl (px_move rfl) ?_
  refine sx_tmpP (t := 8) rfl (fun h13 => ?_) (fun h13 => ?_)
  ·
    refine sx_guardF rfl rfl rfl rfl rfl rfl ?_
    refine sx_guardF rfl rfl rfl rfl rfl rfl ?_
    refine sx_guardF rfl rfl rfl rfl rfl rfl ?_
    refine sx_guardF rfl rfl rfl rfl rfl rfl ?_
    refine sx_guardFU rfl rfl rfl rfl rfl ?_
    refine sx_guardFU rfl rfl rfl rfl rfl ?_
    refine sx_guardFU rfl rfl rfl rfl rfl ?_
    refine sx_guardFU rfl rfl rfl rfl rfl ?_
    refine sx_guardFU rfl rfl rfl rfl rfl ?_
    refine sx_guardFU rfl rfl rfl rfl rfl ?_
    refine sx_guardFU rfl rfl rfl rfl rfl ?_
    refine sx_guardF rfl rfl rfl rfl rfl rfl ?_
    refine sx_pure rfl rfl rfl (px_pick rfl rfl) ?_
    refine wl_nil ?_
    refine q_n (k3 _ _ ?_)
    refine sx_sub (Sub.cons (t := 0) rfl (.cons (t := 2) rfl (.cons (t := 21) rfl (.nil)))) ?_
    refine sx_condT rfl ?_
    refine sx_seq fun K4 k4 => ?_
    refine sx_region ?_
    refine sx_pure rfl rfl rfl (px_assign rfl) ?_
    refine wl_nil ?_
    refine q_n (k4 _ _ ?_)
    refine sx_retc ?_
    refine q_r (sx_ret1 Try.results104 rfl ?_)
    exact ⟨bFalse (fun h => by first | (have h1 := h.2.1; omega) | exact h.2.2 ((last_getD (by omega)).2 (by assumption))), (Chg.refl 0 0 _)⟩
  ·
    refine sx_guardT rfl rfl rfl ?_
    refine sx_pure rfl rfl rfl (px_move rfl) ?_
    refine sx_guardT rfl rfl rfl ?_
    refine sx_pure rfl rfl rfl (px_len rfl Try.underlying22 hva0) ?_
    refine sx_guardT rfl rfl rfl ?_
    refine sx_pure rfl rfl rfl (px_gt rfl rfl) ?_
    refine sx_guardT rfl rfl rfl ?_
    refine sx_pure rfl rfl rfl (px_move rfl) ?_
    refine sx_tmpP (t := 12) rfl (fun h13x1 => ?_) (fun h13x1 => ?_)
    ·
      refine sx_guardT rfl rfl rfl ?_
      refine sx_pure rfl rfl rfl (px_move rfl) ?_
      refine sx_guardT rfl rfl rfl ?_
      refine sx_pure rfl rfl rfl (px_move rfl) ?_
      refine sx_guardT rfl rfl rfl ?_
      refine sx_pure rfl rfl rfl (px_len rfl Try.underlying22 hva0) ?_
      refine sx_guardT rfl rfl rfl ?_
      refine sx_pure rfl rfl rfl (px_sub rfl rfl (by omega)) ?_
      refine sx_guardT rfl rfl rfl ?_
      refine sx_pure rfl rfl rfl (px_index1 (j := (zs.length - 1)) rfl rfl (by omega) Try.underlying22 Try.sizeOf3 hva0 (by omega)) ?_
      refine sx_guardT rfl rfl rfl ?_
      refine sx_pure rfl rfl rfl (px_load rfl (hva0.load1 (at_int (by omega)) Try.isAgg3)) ?_
      refine sx_guardT rfl rfl rfl ?_
      refine sx_pure rfl rfl rfl (px_eq rfl rfl) ?_
      refine sx_guardT rfl rfl rfl ?_
      refine sx_pure rfl rfl rfl (px_pick rfl rfl) ?_
      refine sx_pure rfl rfl rfl (px_pick rfl rfl) ?_
      refine wl_nil ?_
      refine q_n (k3 _ _ ?_)
      refine sx_sub (Sub.cons (t := 0) rfl (.cons (t := 2) rfl (.cons (t := 21) rfl (.nil)))) ?_
      refine sx_condP rfl (fun h13x2 => ?_) (fun h13x2 => ?_)
      ·
        refine sx_seq fun K5 k5 => ?_
        refine sx_region ?_
        refine sx_pure rfl rfl rfl (px_assign rfl) ?_
        refine wl_nil ?_
        refine q_n (k5 _ _ ?_)
        refine sx_retc ?_
        refine q_r (sx_ret1 Try.results104 rfl ?_)
        exact ⟨bFalse (fun h => by first | (have h1 := h.2.1; omega) | exact h.2.2 ((last_getD (by omega)).2 (by assumption))), (Chg.refl 0 0 _)⟩
      ·
        refine sx_skip ?_
        refine q_n (k2 _ _ ?_)
        refine sx_seq fun K6 k6 => ?_
        refine sx_seq fun K7 k7 => ?_
        refine sx_region ?_
        refine sx_pure rfl rfl rfl (px_move rfl) ?_
        refine sx_pure rfl rfl rfl (px_len rfl Try.underlying22 hva0) ?_
        refine sx_pure rfl rfl rfl (px_move rfl) ?_
        refine wl_nil ?_
        refine q_n (k7 _ _ ?_)
        refine sx_block ?_
        refine sx_loop (fun mm aa w' => ∃ (k : Nat), Agr 35 [(22, va), (23, .int .i64 ↑zs.length), (24, .int .i64 ↑k)] aa ∧ Chg 0 0 w w' ∧ (mm = zs.length - k) ∧ (k ≤ zs.length) ∧ (∀ i, i < k → 0 ≤ zs.getD i 0 ∧ zs.getD i 0 < 1000000000)) (_) (fun a ha => ⟨0, ha.sub (Sub.cons (t := 22) rfl (.cons (t := 23) (look_int (t := 23) rfl (by first | omega | simp)) (.cons (t := 24) (look_int (t := 24) rfl (by first | omega | simp)) (.nil)))), Chg.refl _ _ _, rfl, by omega, fun i h => by omega⟩) ?_
        rintro mm aa wl8 ⟨k, hAwl8, cwl8, hm, hk, hall⟩
        refine (show cw Try.prog 35 _ _ _ wl8 from ?_) aa hAwl8
        clear hAwl8
        have zwl8 := cwl8.size
        refine sx_seq fun K9 k9 => ?_
        refine sx_region ?_
        refine sx_pure rfl rfl rfl (px_lt rfl rfl) ?_
        refine wl_nil ?_
        refine q_n (k9 _ _ ?_)
        refine sx_seq fun K10 k10 => ?_
        refine sx_condP rfl (fun h16 => ?_) (fun h16 => ?_)
        ·
          refine sx_skip ?_
          refine q_n (k10 _ _ ?_)
          refine sx_seq fun K11 k11 => ?_
          refine sx_block ?_
          refine sx_seq fun K12 k12 => ?_
          refine sx_region ?_
          have f13 := hva0.ext cwl8
          refine sx_pure rfl rfl rfl (px_index1 (j := k) rfl rfl (by omega) Try.underlying22 Try.sizeOf3 f13 (by omega)) ?_
          refine sx_pure rfl rfl rfl (px_load rfl (f13.load1 (at_int (by omega)) Try.isAgg3)) ?_
          refine sx_pure rfl rfl rfl (px_assign rfl) ?_
          refine wl_nil ?_
          refine q_n (k12 _ _ ?_)
          refine sx_seq fun K14 k14 => ?_
          refine sx_region ?_
          refine sx_pure rfl rfl rfl (px_move rfl) ?_
          refine sx_pure rfl rfl rfl (px_lt rfl rfl) ?_
          refine sx_pure rfl rfl rfl (px_move rfl) ?_
          refine sx_tmpP (t := 30) rfl (fun h17 => ?_) (fun h17 => ?_)
          ·
            refine sx_guardF rfl rfl rfl rfl rfl rfl ?_
            refine sx_guardF rfl rfl rfl rfl rfl rfl ?_
            refine sx_pure rfl rfl rfl (px_pick rfl rfl) ?_
            refine wl_nil ?_
            refine q_n (k14 _ _ ?_)
            refine sx_condT rfl ?_
            refine sx_seq fun K15 k15 => ?_
            refine sx_region ?_
            refine sx_pure rfl rfl rfl (px_assign rfl) ?_
            refine wl_nil ?_
            refine q_n (k15 _ _ ?_)
            refine sx_retc ?_
            refine q_br (q_r (q_r (q_br (q_r (sx_ret1 Try.results104 rfl ?_)))))
            exact ⟨bFalse (fun h => by have h1 := h.1.getD k; omega), cwl8⟩
          ·
            refine sx_guardT rfl rfl rfl ?_
            refine sx_pure rfl rfl rfl (px_move rfl) ?_
            refine sx_guardT rfl rfl rfl ?_
            refine sx_pure rfl rfl rfl (px_ge rfl rfl) ?_
            refine sx_pure rfl rfl rfl (px_pick rfl rfl) ?_
            refine wl_nil ?_
            refine q_n (k14 _ _ ?_)
            refine sx_condP rfl (fun h17x1 => ?_) (fun h17x1 => ?_)
            ·
              refine sx_seq fun K16 k16 => ?_
              refine sx_region ?_
              refine sx_pure rfl rfl rfl (px_assign rfl) ?_
              refine wl_nil ?_
              refine q_n (k16 _ _ ?_)
              refine sx_retc ?_
              refine q_br (q_r (q_r (q_br (q_r (sx_ret1 Try.results104 rfl ?_)))))
              exact ⟨bFalse (fun h => by have h1 := h.1.getD k; omega), cwl8⟩
            ·
              refine sx_skip ?_
              refine q_bn (q_n (k11 _ _ ?_))
              refine sx_region ?_
              refine sx_pure rfl rfl rfl (px_add rfl rfl (by omega)) ?_
              refine sx_pure rfl rfl rfl (px_move rfl) ?_
              refine wl_nil ?_
              exact fun a ha => ⟨_, by omega, (k + 1), ha.sub (Sub.cons (t := 22) rfl (.cons (t := 23) rfl (.cons (t := 24) (look_int (t := 24) rfl (by first | omega | simp)) (.nil)))), cwl8, rfl, by omega, lm_succ hall (by omega)⟩
        ·
          refine sx_exit ?_
          refine q_e (q_e (q_bx (q_n (k6 _ _ ?_))))
          refine sx_seq fun K17 k17 => ?_
          refine sx_region ?_
          refine sx_pure rfl rfl rfl (px_assign rfl) ?_
          refine wl_nil ?_
          refine q_n (k17 _ _ ?_)
          refine sx_retc ?_
          refine sx_ret1 Try.results104 rfl ?_
          have ek : k = zs.length := by omega
          have hz : Lm zs := lm_mem (by rw [← ek]; exact hall)
          exact ⟨bTrue (NOk_mk hz (by omega) (by first | exact .inl (by omega) | exact .inr (by assumption))), cwl8⟩
    ·
      refine sx_guardF rfl rfl rfl rfl rfl rfl ?_
      refine sx_guardF rfl rfl rfl rfl rfl rfl ?_
      refine sx_guardF rfl rfl rfl rfl rfl rfl ?_
      refine sx_guardF rfl rfl rfl rfl rfl rfl ?_
      refine sx_guardF rfl rfl rfl rfl rfl rfl ?_
      refine sx_guardF rfl rfl rfl rfl rfl rfl ?_
      refine sx_guardF rfl rfl rfl rfl rfl rfl ?_
      refine sx_guardT rfl rfl rfl ?_
      refine sx_pure rfl rfl rfl (px_pick rfl rfl) ?_
      refine sx_pure rfl rfl rfl (px_pick rfl rfl) ?_
      refine wl_nil ?_
      refine q_n (k3 _ _ ?_)
      refine sx_sub (Sub.cons (t := 0) rfl (.cons (t := 2) rfl (.cons (t := 21) rfl (.nil)))) ?_
      refine sx_condF rfl ?_
      refine sx_skip ?_
      refine q_n (k2 _ _ ?_)
      refine sx_seq fun K18 k18 => ?_
      refine sx_seq fun K19 k19 => ?_
      refine sx_region ?_
      refine sx_pure rfl rfl rfl (px_move rfl) ?_
      refine sx_pure rfl rfl rfl (px_len rfl Try.underlying22 hva0) ?_
      refine sx_pure rfl rfl rfl (px_move rfl) ?_
      refine wl_nil ?_
      refine q_n (k19 _ _ ?_)
      refine sx_block ?_
      refine sx_loop (fun mm aa w' => ∃ (k : Nat), Agr 35 [(22, va), (23, .int .i64 ↑zs.length), (24, .int .i64 ↑k)] aa ∧ Chg 0 0 w w' ∧ (mm = zs.length - k) ∧ (k ≤ zs.length) ∧ (∀ i, i < k → 0 ≤ zs.getD i 0 ∧ zs.getD i 0 < 1000000000)) (_) (fun a ha => ⟨0, ha.sub (Sub.cons (t := 22) rfl (.cons (t := 23) (look_int (t := 23) rfl (by first | omega | simp)) (.cons (t := 24) (look_int (t := 24) rfl (by first | omega | simp)) (.nil)))), Chg.refl _ _ _, rfl, by omega, fun i h => by omega⟩) ?_
      rintro mm aa wl20 ⟨k, hAwl20, cwl20, hm, hk, hall⟩
      refine (show cw Try.prog 35 _ _ _ wl20 from ?_) aa hAwl20
      clear hAwl20
      have zwl20 := cwl20.size
      refine sx_seq fun K21 k21 => ?_
      refine sx_region ?_
      refine sx_pure rfl rfl rfl (px_lt rfl rfl) ?_
      refine wl_nil ?_
      refine q_n (k21 _ _ ?_)
      refine sx_seq fun K22 k22 => ?_
      refine sx_condP rfl (fun h16 => ?_) (fun h16 => ?_)
      ·
        refine sx_skip ?_
        refine q_n (k22 _ _ ?_)
        refine sx_seq fun K23 k23 => ?_
        refine sx_block ?_
        refine sx_seq fun K24 k24 => ?_
        refine sx_region ?_
        have f25 := hva0.ext cwl20
        refine sx_pure rfl rfl rfl (px_index1 (j := k) rfl rfl (by omega) Try.underlying22 Try.sizeOf3 f25 (by omega)) ?_
        refine sx_pure rfl rfl rfl (px_load rfl (f25.load1 (at_int (by omega)) Try.isAgg3)) ?_
        refine sx_pure rfl rfl rfl (px_assign rfl) ?_
        refine wl_nil ?_
        refine q_n (k24 _ _ ?_)
        refine sx_seq fun K26 k26 => ?_
        refine sx_region ?_
        refine sx_pure rfl rfl rfl (px_move rfl) ?_
        refine sx_pure rfl rfl rfl (px_lt rfl rfl) ?_
        refine sx_pure rfl rfl rfl (px_move rfl) ?_
        refine sx_tmpP (t := 30) rfl (fun h17 => ?_) (fun h17 => ?_)
        ·
          refine sx_guardF rfl rfl rfl rfl rfl rfl ?_
          refine sx_guardF rfl rfl rfl rfl rfl rfl ?_
          refine sx_pure rfl rfl rfl (px_pick rfl rfl) ?_
          refine wl_nil ?_
          refine q_n (k26 _ _ ?_)
          refine sx_condT rfl ?_
          refine sx_seq fun K27 k27 => ?_
          refine sx_region ?_
          refine sx_pure rfl rfl rfl (px_assign rfl) ?_
          refine wl_nil ?_
          refine q_n (k27 _ _ ?_)
          refine sx_retc ?_
          refine q_br (q_r (q_r (q_br (q_r (sx_ret1 Try.results104 rfl ?_)))))
          exact ⟨bFalse (fun h => by have h1 := h.1.getD k; omega), cwl20⟩
        ·
          refine sx_guardT rfl rfl rfl ?_
          refine sx_pure rfl rfl rfl (px_move rfl) ?_
          refine sx_guardT rfl rfl rfl ?_
          refine sx_pure rfl rfl rfl (px_ge rfl rfl) ?_
          refine sx_pure rfl rfl rfl (px_pick rfl rfl) ?_
          refine wl_nil ?_
          refine q_n (k26 _ _ ?_)
          refine sx_condP rfl (fun h17x1 => ?_) (fun h17x1 => ?_)
          ·
            refine sx_seq fun K28 k28 => ?_
            refine sx_region ?_
            refine sx_pure rfl rfl rfl (px_assign rfl) ?_
            refine wl_nil ?_
            refine q_n (k28 _ _ ?_)
            refine sx_retc ?_
            refine q_br (q_r (q_r (q_br (q_r (sx_ret1 Try.results104 rfl ?_)))))
            exact ⟨bFalse (fun h => by have h1 := h.1.getD k; omega), cwl20⟩
          ·
            refine sx_skip ?_
            refine q_bn (q_n (k23 _ _ ?_))
            refine sx_region ?_
            refine sx_pure rfl rfl rfl (px_add rfl rfl (by omega)) ?_
            refine sx_pure rfl rfl rfl (px_move rfl) ?_
            refine wl_nil ?_
            exact fun a ha => ⟨_, by omega, (k + 1), ha.sub (Sub.cons (t := 22) rfl (.cons (t := 23) rfl (.cons (t := 24) (look_int (t := 24) rfl (by first | omega | simp)) (.nil)))), cwl20, rfl, by omega, lm_succ hall (by omega)⟩
      ·
        refine sx_exit ?_
        refine q_e (q_e (q_bx (q_n (k18 _ _ ?_))))
        refine sx_seq fun K29 k29 => ?_
        refine sx_region ?_
        refine sx_pure rfl rfl rfl (px_assign rfl) ?_
        refine wl_nil ?_
        refine q_n (k29 _ _ ?_)
        refine sx_retc ?_
        refine sx_ret1 Try.results104 rfl ?_
        have ek : k = zs.length := by omega
        have hz : Lm zs := lm_mem (by rw [← ek]; exact hall)
        exact ⟨bTrue (NOk_mk hz (by omega) (by first | exact .inl (by omega) | exact .inr (by assumption))), cwl20⟩

theorem c_iIntOk {w : World} {n1 : Bool} {v1 : Value} {lv1 uv1 : Nat} {z1 : List Int} (hv1 : Sl w lv1 uv1 v1 (z1)) (h63 : z1.length ≤ 4611686018427387904) :
    Ret Try.prog 62 [.agg #[.bool n1, v1]] w fun v w' => v = .bool (decide (IOk n1 z1)) ∧ Chg 0 0 w w' := by
  have hv10 := hv1.fit
  refine sx_enter Try.func62 rfl Try.ntmps62 (Nat.le_of_ble_eq_true rfl) ?_
  refine sx_seq fun K1 k1 => ?_
  refine sx_region ?_
  refine sx_box [.bool n1, v1] rfl rfl rfl (fun b2 w3 eb2 sb2 fb2 cb2 => ?_)
  have zw3 := cb2.size
  refine sx_pure rfl rfl rfl (px_assign rfl) ?_
  refine wl_nil ?_
  refine q_n (k1 _ _ ?_)
  refine sx_seq fun K4 k4 => ?_
  refine sx_region ?_
  refine sx_pure rfl rfl rfl (px_field rfl xfld29x1) ?_
  refine sx_pure rfl rfl rfl (px_load rfl (fb2.load1 rfl Try.isAgg22)) ?_
  have f5 := hv10.ext cb2
  refine sx_call rfl rfl Try.call104 (c_iNatOk f5 (by omega)) (fun v6 w6 p6 => ?_)
  obtain ⟨rfl, c6⟩ := p6
  have zw6 := c6.size
  refine sx_pure rfl rfl rfl (px_move rfl) ?_
  refine sx_tmpP (t := 6) rfl (fun h10 => ?_) (fun h10 => ?_)
  ·
    refine sx_guardT rfl rfl rfl ?_
    refine sx_pure rfl rfl rfl (px_field rfl xfld29x0) ?_
    refine sx_guardT rfl rfl rfl ?_
    have f7 := fb2.ext c6
    refine sx_pure rfl rfl rfl (px_load rfl (f7.load1 rfl Try.isAgg4)) ?_
    refine sx_guardT rfl rfl rfl ?_
    refine sx_pure rfl rfl rfl (px_not rfl) ?_
    refine sx_guardT rfl rfl rfl ?_
    refine sx_pure rfl rfl rfl (px_move rfl) ?_
    refine sx_tmpB (t := 10) rfl (fun h10x1 => ?_) (fun h10x1 => ?_)
    ·
      refine sx_guardF rfl rfl rfl rfl rfl rfl ?_
      refine sx_guardF rfl rfl rfl rfl rfl rfl ?_
      refine sx_guardF rfl rfl rfl rfl rfl rfl ?_
      refine sx_guardF rfl rfl rfl rfl rfl rfl ?_
      refine sx_guardT rfl rfl rfl ?_
      refine sx_pure rfl rfl rfl (px_pick rfl rfl) ?_
      refine sx_pure rfl rfl rfl (px_pick rfl rfl) ?_
      refine sx_pure rfl rfl rfl (px_assign rfl) ?_
      refine wl_nil ?_
      refine q_n (k4 _ _ ?_)
      refine sx_sub (Sub.cons (t := 2) rfl (.nil)) ?_
      refine sx_retc ?_
      refine sx_ret1 Try.results62 rfl ?_
      have q8 := Chg.step (l := 0) (h := 0) cb2 c6 (by omega)
      exact ⟨(by first | exact bTrue (by grind [IOk]) | exact bFalse (by grind [IOk]) | exact bIff (by grind [IOk])), q8⟩
    ·
      refine sx_guardT rfl rfl rfl ?_
      refine sx_pure rfl rfl rfl (px_field rfl xfld29x1) ?_
      refine sx_guardT rfl rfl rfl ?_
      refine sx_pure rfl rfl rfl (px_load rfl (f7.load1 rfl Try.isAgg22)) ?_
      refine sx_guardT rfl rfl rfl ?_
      have f9 := f5.ext c6
      refine sx_pure rfl rfl rfl (px_len rfl Try.underlying22 f9) ?_
      refine sx_guardT rfl rfl rfl ?_
      refine sx_pure rfl rfl rfl (px_gt rfl rfl) ?_
      refine sx_guardT rfl rfl rfl ?_
      refine sx_pure rfl rfl rfl (px_pick rfl rfl) ?_
      refine sx_pure rfl rfl rfl (px_pick rfl rfl) ?_
      refine sx_pure rfl rfl rfl (px_assign rfl) ?_
      refine wl_nil ?_
      refine q_n (k4 _ _ ?_)
      refine sx_sub (Sub.cons (t := 2) rfl (.nil)) ?_
      refine sx_retc ?_
      refine sx_ret1 Try.results62 rfl ?_
      have q10 := Chg.step (l := 0) (h := 0) cb2 c6 (by omega)
      exact ⟨(by first | exact bTrue (by grind [IOk]) | exact bFalse (by grind [IOk]) | exact bIff (by grind [IOk])), q10⟩
  ·
    refine sx_guardF rfl rfl rfl rfl rfl rfl ?_
    refine sx_guardF rfl rfl rfl rfl rfl rfl ?_
    refine sx_guardF rfl rfl rfl rfl rfl rfl ?_
    refine sx_guardF rfl rfl rfl rfl rfl rfl ?_
    refine sx_guardFU rfl rfl rfl rfl rfl ?_
    refine sx_guardFU rfl rfl rfl rfl rfl ?_
    refine sx_guardFU rfl rfl rfl rfl rfl ?_
    refine sx_guardFU rfl rfl rfl rfl rfl ?_
    refine sx_guardF rfl rfl rfl rfl rfl rfl ?_
    refine sx_pure rfl rfl rfl (px_pick rfl rfl) ?_
    refine sx_pure rfl rfl rfl (px_assign rfl) ?_
    refine wl_nil ?_
    refine q_n (k4 _ _ ?_)
    refine sx_sub (Sub.cons (t := 2) rfl (.nil)) ?_
    refine sx_retc ?_
    refine sx_ret1 Try.results62 rfl ?_
    have q11 := Chg.step (l := 0) (h := 0) cb2 c6 (by omega)
    exact ⟨(by first | exact bTrue (by grind [IOk]) | exact bFalse (by grind [IOk]) | exact bIff (by grind [IOk])), q11⟩

theorem c_isScale {w : World} {p : Int} :
    Ret Try.prog 63 [.int .i64 p] w fun v w' => v = .bool (decide (0 ≤ p ∧ p ≤ 30)) ∧ Chg 0 0 w w' := by
  refine sx_enter Try.func63 rfl Try.ntmps63 (Nat.le_of_ble_eq_true rfl) ?_
  refine sx_seq fun K1 k1 => ?_
  refine sx_region ?_
  refine sx_pure rfl rfl rfl (px_assign rfl) ?_
  refine wl_nil ?_
  refine q_n (k1 _ _ ?_)
  refine sx_seq fun K2 k2 => ?_
  refine sx_region ?_
  refine sx_pure rfl rfl rfl (px_move rfl) ?_
  refine sx_pure rfl rfl rfl (px_ge rfl rfl) ?_
  refine sx_pure rfl rfl rfl (px_move rfl) ?_
  refine sx_tmpP (t := 5) rfl (fun h15 => ?_) (fun h15 => ?_)
  ·
    refine sx_guardT rfl rfl rfl ?_
    refine sx_pure rfl rfl rfl (px_move rfl) ?_
    refine sx_guardT rfl rfl rfl ?_
    refine sx_pure rfl rfl rfl (px_le rfl rfl) ?_
    refine sx_pure rfl rfl rfl (px_pick rfl rfl) ?_
    refine sx_pure rfl rfl rfl (px_assign rfl) ?_
    refine wl_nil ?_
    refine q_n (k2 _ _ ?_)
    refine sx_retc ?_
    refine sx_ret1 Try.results63 rfl ?_
    exact ⟨(by first | exact bTrue (by grind) | exact bFalse (by grind) | exact bIff (by grind)), (Chg.refl 0 0 _)⟩
  ·
    refine sx_guardF rfl rfl rfl rfl rfl rfl ?_
    refine sx_guardF rfl rfl rfl rfl rfl rfl ?_
    refine sx_pure rfl rfl rfl (px_pick rfl rfl) ?_
    refine sx_pure rfl rfl rfl (px_assign rfl) ?_
    refine wl_nil ?_
    refine q_n (k2 _ _ ?_)
    refine sx_retc ?_
    refine sx_ret1 Try.results63 rfl ?_
    exact ⟨(by first | exact bTrue (by grind) | exact bFalse (by grind) | exact bIff (by grind)), (Chg.refl 0 0 _)⟩

theorem c_iDecOk {w : World} {n1 : Bool} {v1 : Value} {lv1 uv1 : Nat} {z1 : List Int} {p1 : Int} (hv1 : Sl w lv1 uv1 v1 (z1)) (h63 : z1.length ≤ 4611686018427387904) :
    Ret Try.prog 18 [.agg #[.bool n1, v1, .int .i64 p1]] w fun v w' => v = .bool (decide (DOk n1 z1 p1)) ∧ Chg 0 0 w w' := by
  have hv10 := hv1.fit
  refine sx_enter Try.func18 rfl Try.ntmps18 (Nat.le_of_ble_eq_true rfl) ?_
  refine sx_seq fun K1 k1 => ?_
  refine sx_region ?_
  refine sx_box [.bool n1, v1, .int .i64 p1] rfl rfl rfl (fun b2 w3 eb2 sb2 fb2 cb2 => ?_)
  have zw3 := cb2.size
  refine sx_pure rfl rfl rfl (px_assign rfl) ?_
  refine wl_nil ?_
  refine q_n (k1 _ _ ?_)
  refine sx_seq fun K4 k4 => ?_
  refine sx_region ?_
  refine sx_pure rfl rfl rfl (px_field rfl xfld31x0) ?_
  refine sx_pure rfl rfl rfl (px_load rfl (fb2.loadA (vs := [.bool n1, v1]) (look_lit rfl) Try.isAgg29 Try.sizeOf29)) ?_
  have f5 := hv10.ext cb2
  refine sx_call rfl rfl Try.call62 (c_iIntOk f5 (by omega)) (fun v6 w6 p6 => ?_)
  obtain ⟨rfl, c6⟩ := p6
  have zw6 := c6.size
  refine sx_pure rfl rfl rfl (px_move rfl) ?_
  refine sx_tmpP (t := 6) rfl (fun h18 => ?_) (fun h18 => ?_)
  ·
    refine sx_guardT rfl rfl rfl ?_
    refine sx_pure rfl rfl rfl (px_field rfl xfld31x0) ?_
    refine sx_guardT rfl rfl rfl ?_
    refine sx_pure rfl rfl rfl (px_field rfl xfld29x1) ?_
    refine sx_guardT rfl rfl rfl ?_
    have f7 := fb2.ext c6
    refine sx_pure rfl rfl rfl (px_load rfl (f7.load1 rfl Try.isAgg22)) ?_
    refine sx_guardT rfl rfl rfl ?_
    have f8 := f5.ext c6
    refine sx_pure rfl rfl rfl (px_len rfl Try.underlying22 f8) ?_
    refine sx_guardT rfl rfl rfl ?_
    refine sx_pure rfl rfl rfl (px_le rfl rfl) ?_
    refine sx_pure rfl rfl rfl (px_pick rfl rfl) ?_
    refine sx_pure rfl rfl rfl (px_move rfl) ?_
    refine sx_tmpP (t := 13) rfl (fun h18x1 => ?_) (fun h18x1 => ?_)
    ·
      refine sx_guardT rfl rfl rfl ?_
      refine sx_pure rfl rfl rfl (px_field rfl xfld31x1) ?_
      refine sx_guardT rfl rfl rfl ?_
      refine sx_pure rfl rfl rfl (px_load rfl (f7.load1 rfl Try.isAgg3)) ?_
      refine sx_guardT rfl rfl rfl ?_
      refine sx_call rfl rfl Try.call63 (c_isScale) (fun v9 w9 p9 => ?_)
      obtain ⟨rfl, c9⟩ := p9
      have zw9 := c9.size
      refine sx_pure rfl rfl rfl (px_pick rfl rfl) ?_
      refine sx_pure rfl rfl rfl (px_assign rfl) ?_
      refine wl_nil ?_
      refine q_n (k4 _ _ ?_)
      refine sx_sub (Sub.cons (t := 2) rfl (.nil)) ?_
      refine sx_retc ?_
      refine sx_ret1 Try.results18 rfl ?_
      have q10 := Chg.step (l := 0) (h := 0) cb2 c6 (by omega)
      have q11 := Chg.step (l := 0) (h := 0) q10 c9 (by omega)
      exact ⟨(by first | exact bTrue (by grind [DOk]) | exact bFalse (by grind [DOk]) | exact bIff (by grind [DOk])), q11⟩
    ·
      refine sx_guardF rfl rfl rfl rfl rfl rfl ?_
      refine sx_guardF rfl rfl rfl rfl rfl rfl ?_
      refine sx_guardF rfl rfl rfl rfl rfl rfl ?_
      refine sx_pure rfl rfl rfl (px_pick rfl rfl) ?_
      refine sx_pure rfl rfl rfl (px_assign rfl) ?_
      refine wl_nil ?_
      refine q_n (k4 _ _ ?_)
      refine sx_sub (Sub.cons (t := 2) rfl (.nil)) ?_
      refine sx_retc ?_
      refine sx_ret1 Try.results18 rfl ?_
      have q12 := Chg.step (l := 0) (h := 0) cb2 c6 (by omega)
      exact ⟨(by first | exact bTrue (by grind [DOk]) | exact bFalse (by grind [DOk]) | exact bIff (by grind [DOk])), q12⟩
  ·
    refine sx_guardF rfl rfl rfl rfl rfl rfl ?_
    refine sx_guardF rfl rfl rfl rfl rfl rfl ?_
    refine sx_guardF rfl rfl rfl rfl rfl rfl ?_
    refine sx_guardF rfl rfl rfl rfl rfl rfl ?_
    refine sx_guardF rfl rfl rfl rfl rfl rfl ?_
    refine sx_pure rfl rfl rfl (px_pick rfl rfl) ?_
    refine sx_pure rfl rfl rfl (px_move rfl) ?_
    refine sx_guardF rfl rfl rfl rfl rfl rfl ?_
    refine sx_guardF rfl rfl rfl rfl rfl rfl ?_
    refine sx_guardF rfl rfl rfl rfl rfl rfl ?_
    refine sx_pure rfl rfl rfl (px_pick rfl rfl) ?_
    refine sx_pure rfl rfl rfl (px_assign rfl) ?_
    refine wl_nil ?_
    refine q_n (k4 _ _ ?_)
    refine sx_sub (Sub.cons (t := 2) rfl (.nil)) ?_
    refine sx_retc ?_
    refine sx_ret1 Try.results18 rfl ?_
    have q13 := Chg.step (l := 0) (h := 0) cb2 c6 (by omega)
    exact ⟨(by first | exact bTrue (by grind [DOk]) | exact bFalse (by grind [DOk]) | exact bIff (by grind [DOk])), q13⟩

theorem c_trim {w : World} {va : Value} {lva uva : Nat} {zs : List Int} (hva : OwnI w lva uva va intT (zs)) (hz : Lm zs) (h63 : zs.length ≤ 1000000) :
    Ret Try.prog 121 [va] w fun v w' => ∃ s, v = s ∧ OwnI w' (lva) (uva) s intT (dg (vl zs)) ∧ Chg 0 0 w w' := by
  refine sx_enter Try.func121 rfl Try.ntmps121 (Nat.le_of_ble_eq_true rfl) ?_
  refine sx_seq fun K1 k1 => ?_
  refine sx_region ?_
  refine sx_pure rfl rfl rfl (px_assign rfl) ?_
  refine wl_nil ?_
  refine q_n (k1 _ _ ?_)
  refine sx_seq fun K2 k2 => ?_
  refine sx_block ?_
  refine sx_loop (fun mm aa w' => ∃ (k : Nat) (s : Value), Agr 21 [(0, s)] aa ∧ Chg 0 0 w w' ∧ Own w' lva uva s intT ((zs.take k).length) 1 ((zs.take k).map (Value.int .i64)) ∧ (mm = k) ∧ (k ≤ zs.length) ∧ (vl (zs.take k) = vl zs)) (_) (fun a ha => ⟨zs.length, va, ha.sub (Sub.cons (t := 0) rfl (.nil)), Chg.refl _ _ _, (by rw [List.take_length]; exact hva), rfl, by omega, vl_take_all zs⟩) ?_
  rintro mm aa wl3 ⟨k, s, hAwl3, cwl3, hs_s, hm, hk, hv⟩
  refine (show cw Try.prog 21 _ _ _ wl3 from ?_) aa hAwl3
  clear hAwl3
  have zwl3 := cwl3.size
  have hlt : (zs.take k).length = k := by rw [List.length_take]; omega
  refine sx_seq fun K4 k4 => ?_
  refine sx_seq fun K5 k5 => ?_
  refine sx_region ?_
  refine sx_pure rfl rfl rfl (px_move rfl) ?_
  refine sx_pure rfl rfl rfl (px_len rfl Try.underlying22 hs_s.sv) ?_
  refine sx_pure rfl rfl rfl (px_gt rfl rfl) ?_
  refine sx_pure rfl rfl rfl (px_move rfl) ?_
  refine sx_tmpP (t := 6) rfl (fun h29 => ?_) (fun h29 => ?_)
  ·
    refine sx_guardT rfl rfl rfl ?_
    refine sx_pure rfl rfl rfl (px_move rfl) ?_
    refine sx_guardT rfl rfl rfl ?_
    refine sx_pure rfl rfl rfl (px_move rfl) ?_
    refine sx_guardT rfl rfl rfl ?_
    refine sx_pure rfl rfl rfl (px_len rfl Try.underlying22 hs_s.sv) ?_
    refine sx_guardT rfl rfl rfl ?_
    refine sx_pure rfl rfl rfl (px_sub rfl rfl (by omega)) ?_
    refine sx_guardT rfl rfl rfl ?_
    refine sx_pure rfl rfl rfl (px_index1 (j := (k - 1)) rfl rfl (by omega) Try.underlying22 Try.sizeOf3 hs_s.sv (by omega)) ?_
    refine sx_guardT rfl rfl rfl ?_
    refine sx_pure rfl rfl rfl (px_load rfl (hs_s.sv.load1 (at_int (by omega)) Try.isAgg3)) ?_
    refine sx_guardT rfl rfl rfl ?_
    refine sx_pure rfl rfl rfl (px_eq rfl rfl) ?_
    refine sx_pure rfl rfl rfl (px_pick rfl rfl) ?_
    refine wl_nil ?_
    refine q_n (k5 _ _ ?_)
    refine sx_condP rfl (fun h29x1 => ?_) (fun h29x1 => ?_)
    ·
      refine sx_skip ?_
      refine q_n (k4 _ _ ?_)
      refine sx_block ?_
      refine sx_region ?_
      refine sx_pure rfl rfl rfl (px_move rfl) ?_
      refine sx_pure rfl rfl rfl (px_move rfl) ?_
      refine sx_pure rfl rfl rfl (px_len rfl Try.underlying22 hs_s.sv) ?_
      refine sx_pure rfl rfl rfl (px_sub rfl rfl (by omega)) ?_
      refine sx_pure rfl rfl rfl (px_sliceTo (h := (k - 1)) rfl rfl (by omega) Try.underlying22 Try.sizeOf3 hs_s.sv (by omega)) ?_
      refine sx_pure rfl rfl rfl (px_assign rfl) ?_
      refine wl_nil ?_
      exact q_bn (fun a ha => ⟨_, by omega, (k - 1), (vtake s (k - 1)), ha.sub (Sub.cons (t := 0) rfl (.nil)), cwl3, (by have hh := (Own.takeI hs_s (h := (k - 1)) (by omega)); rwa [List.take_take, Nat.min_eq_left (by omega)] at hh), rfl, by omega, trim_step (by omega) hk h29x1 hv⟩)
    ·
      refine sx_exit ?_
      refine q_e (q_e (q_bx (q_n (k2 _ _ ?_))))
      refine sx_seq fun K6 k6 => ?_
      refine sx_region ?_
      refine sx_pure rfl rfl rfl (px_move rfl) ?_
      refine sx_pure rfl rfl rfl (px_assign rfl) ?_
      refine wl_nil ?_
      refine q_n (k6 _ _ ?_)
      refine sx_sub (Sub.cons (t := 2) rfl (.nil)) ?_
      refine sx_retc ?_
      refine sx_ret1 Try.results121 rfl ?_
      have hd := trim_done hz hk hv (by first | exact .inl (by omega) | exact .inr (by assumption))
      rw [← hd]
      exact ⟨_, rfl, hs_s, cwl3⟩
  ·
    refine sx_guardF rfl rfl rfl rfl rfl rfl ?_
    refine sx_guardF rfl rfl rfl rfl rfl rfl ?_
    refine sx_guardF rfl rfl rfl rfl rfl rfl ?_
    refine sx_guardF rfl rfl rfl rfl rfl rfl ?_
    refine sx_guardF rfl rfl rfl rfl rfl rfl ?_
    refine sx_guardF rfl rfl rfl rfl rfl rfl ?_
    refine sx_guardF rfl rfl rfl rfl rfl rfl ?_
    refine sx_pure rfl rfl rfl (px_pick rfl rfl) ?_
    refine wl_nil ?_
    refine q_n (k5 _ _ ?_)
    refine sx_condF rfl ?_
    refine sx_exit ?_
    refine q_e (q_e (q_bx (q_n (k2 _ _ ?_))))
    refine sx_seq fun K7 k7 => ?_
    refine sx_region ?_
    refine sx_pure rfl rfl rfl (px_move rfl) ?_
    refine sx_pure rfl rfl rfl (px_assign rfl) ?_
    refine wl_nil ?_
    refine q_n (k7 _ _ ?_)
    refine sx_sub (Sub.cons (t := 2) rfl (.nil)) ?_
    refine sx_retc ?_
    refine sx_ret1 Try.results121 rfl ?_
    have hd := trim_done hz hk hv (by first | exact .inl (by omega) | exact .inr (by assumption))
    rw [← hd]
    exact ⟨_, rfl, hs_s, cwl3⟩

theorem c_natMul {w : World} {va : Value} {lva uva : Nat} {m : Nat} {vb : Value} {lvb uvb : Nat} {n : Nat} (hva : Sl w lva uva va (dg m)) (hvb : Sl w lvb uvb vb (dg n)) (hbm : (dg m).length ≤ 1000) (hbn : (dg n).length ≤ 1000) :
    Ret Try.prog 91 [va, vb] w fun v w' => ∃ s, v = s ∧ OwnI w' w.heap.size w'.heap.size s intT (dg (m * n)) ∧ Chg 0 0 w w' := by
  have hva0 := hva.fit
  have hvb0 := hvb.fit
  refine sx_enter Try.func91 rfl Try.ntmps91 (Nat.le_of_ble_eq_true rfl) ?_
  refine sx_seq fun K1 k1 => ?_
  refine sx_region ?_
  refine sx_pure rfl rfl rfl (px_assign rfl) ?_
  refine wl_nil ?_
  refine q_n (k1 _ _ ?_)
  refine sx_seq fun K2 k2 => ?_
  refine sx_region ?_
  refine sx_pure rfl rfl rfl (px_move rfl) ?_
  refine sx_pure rfl rfl rfl (px_len rfl Try.underlying22 hva0) ?_
  refine sx_pure rfl rfl rfl (px_move rfl) ?_
  refine sx_pure rfl rfl rfl (px_len rfl Try.underlying22 hvb0) ?_
  refine sx_pure rfl rfl rfl (px_add rfl rfl (by omega)) ?_
  refine sx_pure rfl rfl rfl (px_add rfl rfl (by omega)) ?_
  refine sx_make (c := (dg m).length + (dg n).length + 1) rfl xelt22 (look_int rfl (by omega)) (look_int rfl (by omega)) (by omega) (by unfold maxLen; omega) (fun s3 ws3 fs3 cs3 ls3 => ?_)
  have ns3 := fs3.made
  have zws3 := cs3.size
  refine sx_pure rfl rfl rfl (px_assign rfl) ?_
  refine wl_nil ?_
  refine q_n (k2 _ _ ?_)
  refine sx_seq fun K4 k4 => ?_
  refine sx_seq fun K5 k5 => ?_
  refine sx_region ?_
  refine sx_pure rfl rfl rfl (px_move rfl) ?_
  have f6 := hva0.ext cs3
  refine sx_pure rfl rfl rfl (px_len rfl Try.underlying22 f6) ?_
  refine sx_pure rfl rfl rfl (px_move rfl) ?_
  refine wl_nil ?_
  refine q_n (k5 _ _ ?_)
  refine sx_block ?_
  refine sx_loop (fun mm aa w' => ∃ (k : Nat) (os : List Int), Agr 79 [(1, vb), (5, s3), (19, va), (20, .int .i64 (↑(dg m).length)), (21, .int .i64 ↑k)] aa ∧ Chg w.heap.size ws3.heap.size ws3 w' ∧ Own w' w.heap.size ws3.heap.size s3 intT os.length 1 (os.map (Value.int .i64)) ∧ (mm = (dg m).length - k) ∧ (k ≤ (dg m).length) ∧ (os.length = (dg m).length + (dg n).length + 1) ∧ (Lm os) ∧ (∀ i, k + (dg n).length ≤ i → os.getD i 0 = 0) ∧ (vl os = vl ((dg m).take k) * n)) (_) (fun a ha => ⟨0, List.replicate ((dg m).length + (dg n).length + 1) 0, ha.sub (Sub.cons (t := 1) rfl (.cons (t := 5) rfl (.cons (t := 19) rfl (.cons (t := 20) (look_int (t := 20) rfl (by first | omega | simp)) (.cons (t := 21) (look_int (t := 21) rfl (by first | omega | simp)) (.nil)))))), Chg.refl _ _ _, (ns3.mono (by omega) (by omega)), rfl, by omega, by simp, Lm.replicate _, fun i _ => zero_rep _ i (Nat.zero_le _), by rw [vl_replicate, List.take_zero]; simp [vl]⟩) ?_
  rintro mm aa wl7 ⟨k, os, hAwl7, cwl7, hs_s3, hm, hk, hos, hlm, hz, hv⟩
  refine (show cw Try.prog 79 _ _ _ wl7 from ?_) aa hAwl7
  clear hAwl7
  have zwl7 := cwl7.size
  have am := (Lm_dg m).getD k
  refine sx_seq fun K8 k8 => ?_
  refine sx_region ?_
  refine sx_pure rfl rfl rfl (px_lt rfl rfl) ?_
  refine wl_nil ?_
  refine q_n (k8 _ _ ?_)
  refine sx_seq fun K9 k9 => ?_
  refine sx_condP rfl (fun h140 => ?_) (fun h140 => ?_)
  ·
    refine sx_skip ?_
    refine q_n (k9 _ _ ?_)
    refine sx_seq fun K10 k10 => ?_
    refine sx_block ?_
    refine sx_seq fun K11 k11 => ?_
    refine sx_region ?_
    refine sx_pure rfl rfl rfl (px_move rfl) ?_
    have f12 := f6.chg cwl7 (by omega)
    refine sx_pure rfl rfl rfl (px_index1 (j := k) rfl rfl (by omega) Try.underlying22 Try.sizeOf3 f12 (by first | omega | (simp only [List.length_set]; omega))) ?_
    refine sx_pure rfl rfl rfl (px_load rfl (f12.load1 (at_int (by omega)) Try.isAgg3)) ?_
    refine sx_pure rfl rfl rfl (px_assign rfl) ?_
    refine sx_pure rfl rfl rfl (px_assign rfl) ?_
    refine wl_nil ?_
    refine q_n (k11 _ _ ?_)
    refine sx_seq fun K13 k13 => ?_
    refine sx_region ?_
    refine sx_pure rfl rfl rfl (px_assign rfl) ?_
    refine wl_nil ?_
    refine q_n (k13 _ _ ?_)
    refine sx_seq fun K14 k14 => ?_
    refine sx_seq fun K15 k15 => ?_
    refine sx_region ?_
    refine sx_pure rfl rfl rfl (px_move rfl) ?_
    have f16 := hvb0.ext cs3
    have f17 := f16.chg cwl7 (by omega)
    refine sx_pure rfl rfl rfl (px_len rfl Try.underlying22 f17) ?_
    refine sx_pure rfl rfl rfl (px_move rfl) ?_
    refine wl_nil ?_
    refine q_n (k15 _ _ ?_)
    refine sx_sub (Sub.cons (t := 1) rfl (.cons (t := 5) rfl (.cons (t := 6) rfl (.cons (t := 7) rfl (.cons (t := 8) rfl (.cons (t := 19) rfl (.cons (t := 20) rfl (.cons (t := 21) rfl (.cons (t := 26) rfl (.cons (t := 27) rfl (.cons (t := 28) rfl (.nil)))))))))))) ?_
    refine sx_block ?_
    refine sx_loop (fun mm aa w' => ∃ (j : Nat) (o2 : List Int) (c : Int), Agr 79 [(1, vb), (5, s3), (6, .int .i64 ↑k), (7, .int .i64 ((dg m).getD k 0)), (8, .int .i64 c), (19, va), (20, .int .i64 (↑(dg m).length)), (21, .int .i64 ↑k), (26, vb), (27, .int .i64 (↑(dg n).length)), (28, .int .i64 ↑j)] aa ∧ Chg w.heap.size ws3.heap.size wl7 w' ∧ Own w' w.heap.size ws3.heap.size s3 intT o2.length 1 (o2.map (Value.int .i64)) ∧ (mm = (dg n).length - j) ∧ (j ≤ (dg n).length) ∧ (o2.length = (dg m).length + (dg n).length + 1) ∧ (Lm o2) ∧ (∀ i, k + (dg n).length ≤ i → o2.getD i 0 = 0) ∧ (0 ≤ c ∧ c < 1000000000) ∧ (vl o2 + Bs ^ (k + j) * c.toNat = vl os + Bs ^ k * (((dg m).getD k 0).toNat * vl ((dg n).take j)))) (_) (fun a ha => ⟨0, os, 0, ha.sub (Sub.cons (t := 1) rfl (.cons (t := 5) rfl (.cons (t := 6) rfl (.cons (t := 7) rfl (.cons (t := 8) (look_int (t := 8) rfl (by first | omega | simp)) (.cons (t := 19) rfl (.cons (t := 20) rfl (.cons (t := 21) rfl (.cons (t := 26) rfl (.cons (t := 27) (look_int (t := 27) rfl (by first | omega | simp)) (.cons (t := 28) (look_int (t := 28) rfl (by first | omega | simp)) (.nil)))))))))))), Chg.refl _ _ _, hs_s3, rfl, by omega, hos, hlm, hz, by omega, by simp [vl]⟩) ?_
    rintro mm aa wl18 ⟨j, o2, c, hAwl18, cwl18, hs_s3, hm, hj, hos2, hlm2, hz2, hc, hv2⟩
    refine (show cw Try.prog 79 _ _ _ wl18 from ?_) aa hAwl18
    clear hAwl18
    have zwl18 := cwl18.size
    have bn := (Lm_dg n).getD j
    have on := hlm2.getD (k + j)
    have hxy := mul_limb am.1 am.2 bn.1 bn.2
    refine sx_seq fun K19 k19 => ?_
    refine sx_region ?_
    refine sx_pure rfl rfl rfl (px_lt rfl rfl) ?_
    refine wl_nil ?_
    refine q_n (k19 _ _ ?_)
    refine sx_seq fun K20 k20 => ?_
    refine sx_condP rfl (fun h142 => ?_) (fun h142 => ?_)
    ·
      refine sx_skip ?_
      refine q_n (k20 _ _ ?_)
      refine sx_seq fun K21 k21 => ?_
      refine sx_block ?_
      refine sx_seq fun K22 k22 => ?_
      refine sx_region ?_
      refine sx_pure rfl rfl rfl (px_move rfl) ?_
      have f23 := f17.chg cwl18 (by omega)
      refine sx_pure rfl rfl rfl (px_index1 (j := j) rfl rfl (by omega) Try.underlying22 Try.sizeOf3 f23 (by first | omega | (simp only [List.length_set]; omega))) ?_
      refine sx_pure rfl rfl rfl (px_load rfl (f23.load1 (at_int (by omega)) Try.isAgg3)) ?_
      refine sx_pure rfl rfl rfl (px_assign rfl) ?_
      refine sx_pure rfl rfl rfl (px_assign rfl) ?_
      refine wl_nil ?_
      refine q_n (k22 _ _ ?_)
      refine sx_sub (Sub.cons (t := 1) rfl (.cons (t := 5) rfl (.cons (t := 6) rfl (.cons (t := 7) rfl (.cons (t := 8) rfl (.cons (t := 9) rfl (.cons (t := 10) rfl (.cons (t := 19) rfl (.cons (t := 20) rfl (.cons (t := 21) rfl (.cons (t := 26) rfl (.cons (t := 27) rfl (.cons (t := 28) rfl (.nil)))))))))))))) ?_
      refine sx_seq fun K24 k24 => ?_
      refine sx_region ?_
      refine sx_pure rfl rfl rfl (px_move rfl) ?_
      refine sx_pure rfl rfl rfl (px_move rfl) ?_
      refine sx_pure rfl rfl rfl (px_move rfl) ?_
      refine sx_pure rfl rfl rfl (px_move rfl) ?_
      refine sx_pure rfl rfl rfl (px_add rfl rfl (by omega)) ?_
      refine sx_pure rfl rfl rfl (px_index1 (j := (k + j)) rfl rfl (by omega) Try.underlying22 Try.sizeOf3 hs_s3.sv (by first | omega | (simp only [List.length_set]; omega))) ?_
      refine sx_pure rfl rfl rfl (px_load rfl (hs_s3.sv.load1 (at_int (by omega)) Try.isAgg3)) ?_
      refine sx_pure rfl rfl rfl (px_move rfl) ?_
      refine sx_pure rfl rfl rfl (px_move rfl) ?_
      refine sx_pure rfl rfl rfl (px_mul rfl rfl (by omega)) ?_
      refine sx_pure rfl rfl rfl (px_add rfl rfl (by omega)) ?_
      refine sx_pure rfl rfl rfl (px_add rfl rfl (by omega)) ?_
      refine sx_pure rfl rfl rfl (px_assign rfl) ?_
      refine wl_nil ?_
      refine q_n (k24 _ _ ?_)
      refine sx_sub (Sub.cons (t := 1) rfl (.cons (t := 5) rfl (.cons (t := 6) rfl (.cons (t := 7) rfl (.cons (t := 8) rfl (.cons (t := 9) rfl (.cons (t := 19) rfl (.cons (t := 20) rfl (.cons (t := 21) rfl (.cons (t := 26) rfl (.cons (t := 27) rfl (.cons (t := 28) rfl (.nil))))))))))))) ?_
      refine sx_seq fun K25 k25 => ?_
      refine sx_region ?_
      refine sx_pure rfl rfl rfl (px_move rfl) ?_
      refine sx_pure rfl rfl rfl (px_move rfl) ?_
      refine sx_pure rfl rfl rfl (px_move rfl) ?_
      refine sx_pure rfl rfl rfl (px_add rfl rfl (by omega)) ?_
      refine sx_pure rfl rfl rfl (px_move rfl) ?_
      refine sx_pure rfl rfl rfl (px_rem rfl rfl (by omega) (by omega)) ?_
      refine sx_pure rfl rfl rfl (px_index1 (j := (k + j)) rfl rfl (by omega) Try.underlying22 Try.sizeOf3 hs_s3.sv (by first | omega | (simp only [List.length_set]; omega))) ?_
      refine sx_storeO rfl rfl hs_s3 (by first | omega | (simp only [List.length_map]; omega)) Try.sizeOf3 rfl (fun w26 sw26 fw26 cw26 => ?_)
      have zw26 := cw26.size
      have nw26 := fw26.set
      refine wl_nil ?_
      refine q_n (k25 _ _ ?_)
      refine sx_sub (Sub.cons (t := 1) rfl (.cons (t := 5) rfl (.cons (t := 6) rfl (.cons (t := 7) rfl (.cons (t := 8) rfl (.cons (t := 19) rfl (.cons (t := 20) rfl (.cons (t := 21) rfl (.cons (t := 26) rfl (.cons (t := 27) rfl (.cons (t := 28) rfl (.nil)))))))))))) ?_
      refine sx_region ?_
      refine sx_pure rfl rfl rfl (px_move rfl) ?_
      refine sx_pure rfl rfl rfl (px_quo rfl rfl (by omega) (by omega) (by omega)) ?_
      refine sx_pure rfl rfl rfl (px_assign rfl) ?_
      refine wl_nil ?_
      refine q_bn (q_n (k21 _ _ ?_))
      refine sx_region ?_
      refine sx_pure rfl rfl rfl (px_add rfl rfl (by omega)) ?_
      refine sx_pure rfl rfl rfl (px_move rfl) ?_
      refine wl_nil ?_
      have q27 := Chg.step (l := w.heap.size) (h := ws3.heap.size) cwl18 cw26 (by omega)
      have hs : (c + (((o2).getD (k + j) 0) + (((dg m).getD k 0) * ((dg n).getD j 0)))) = c + (o2.getD (k + j) 0 + (dg m).getD k 0 * (dg n).getD j 0) := by omega
      have hm2 := mul_step (V := vl os) hc.1 am.1 on.1 bn.1 (by omega) (by omega) hs hv2
      exact fun a ha => ⟨_, by omega, (j + 1), ((o2).set (k + j) ((c + (((o2).getD (k + j) 0) + (((dg m).getD k 0) * ((dg n).getD j 0)))) % 1000000000)), ((c + (((o2).getD (k + j) 0) + (((dg m).getD k 0) * ((dg n).getD j 0)))) / 1000000000), ha.sub (Sub.cons (t := 1) rfl (.cons (t := 5) rfl (.cons (t := 6) rfl (.cons (t := 7) rfl (.cons (t := 8) (look_int (t := 8) rfl (by first | omega | simp)) (.cons (t := 19) rfl (.cons (t := 20) rfl (.cons (t := 21) rfl (.cons (t := 26) rfl (.cons (t := 27) rfl (.cons (t := 28) (look_int (t := 28) rfl (by first | omega | simp)) (.nil)))))))))))), q27, (nw26.mono (by omega) (by omega)), rfl, by omega, by simpa using hos2, hlm2.set _ (by omega) (by omega), zero_set' hz2 (by omega), by omega, hm2⟩
    ·
      refine sx_exit ?_
      refine q_e (q_e (q_bx (q_n (k14 _ _ ?_))))
      refine sx_seq fun K28 k28 => ?_
      refine sx_region ?_
      refine sx_pure rfl rfl rfl (px_move rfl) ?_
      refine sx_pure rfl rfl rfl (px_move rfl) ?_
      have f29 := f17.chg cwl18 (by omega)
      refine sx_pure rfl rfl rfl (px_len rfl Try.underlying22 f29) ?_
      refine sx_pure rfl rfl rfl (px_add rfl rfl (by omega)) ?_
      refine sx_pure rfl rfl rfl (px_assign rfl) ?_
      refine wl_nil ?_
      refine q_n (k28 _ _ ?_)
      refine sx_sub (Sub.cons (t := 1) rfl (.cons (t := 5) rfl (.cons (t := 8) rfl (.cons (t := 11) rfl (.cons (t := 19) rfl (.cons (t := 20) rfl (.cons (t := 21) rfl (.nil)))))))) ?_
      refine sx_block ?_
      have ej : j = (dg n).length := by omega
      rw [ej, List.take_length, vl_dg] at hv2
      refine sx_loop (fun mm aa w' => ∃ (q : Nat) (o3 : List Int) (e : Int), Agr 79 [(1, vb), (5, s3), (8, .int .i64 e), (11, .int .i64 ↑q), (19, va), (20, .int .i64 (↑(dg m).length)), (21, .int .i64 ↑k)] aa ∧ Chg w.heap.size ws3.heap.size wl18 w' ∧ Own w' w.heap.size ws3.heap.size s3 intT o3.length 1 (o3.map (Value.int .i64)) ∧ (mm = k + (dg n).length + 1 - q) ∧ (o3.length = (dg m).length + (dg n).length + 1) ∧ (Lm o3) ∧ (∀ i, q ≤ i → o3.getD i 0 = 0) ∧ (0 ≤ e ∧ e < 1000000000) ∧ (q = k + (dg n).length ∨ (q = k + (dg n).length + 1 ∧ e = 0)) ∧ (vl o3 + Bs ^ q * e.toNat = vl os + Bs ^ k * (((dg m).getD k 0).toNat * n))) (_) (fun a ha => ⟨(k + (dg n).length), o2, c, ha.sub (Sub.cons (t := 1) rfl (.cons (t := 5) rfl (.cons (t := 8) (look_int (t := 8) rfl (by first | omega | simp)) (.cons (t := 11) (look_int (t := 11) rfl (by first | omega | simp)) (.cons (t := 19) rfl (.cons (t := 20) rfl (.cons (t := 21) rfl (.nil)))))))), Chg.refl _ _ _, hs_s3, rfl, hos2, hlm2, hz2, by omega, .inl rfl, hv2⟩) ?_
      rintro mm aa wl30 ⟨q, o3, e, hAwl30, cwl30, hs_s3, hm, hos3, hlm3, hz3, he, hq, hv3⟩
      refine (show cw Try.prog 79 _ _ _ wl30 from ?_) aa hAwl30
      clear hAwl30
      have zwl30 := cwl30.size
      have on := hlm3.getD q
      have oz := hz3 q (Nat.le_refl _)
      refine sx_seq fun K31 k31 => ?_
      refine sx_seq fun K32 k32 => ?_
      refine sx_region ?_
      refine sx_pure rfl rfl rfl (px_move rfl) ?_
      refine sx_pure rfl rfl rfl (px_gt rfl rfl) ?_
      refine wl_nil ?_
      refine q_n (k32 _ _ ?_)
      refine sx_condP rfl (fun h147 => ?_) (fun h147 => ?_)
      ·
        refine sx_skip ?_
        refine q_n (k31 _ _ ?_)
        refine sx_seq fun K33 k33 => ?_
        refine sx_block ?_
        refine sx_seq fun K34 k34 => ?_
        refine sx_region ?_
        refine sx_pure rfl rfl rfl (px_move rfl) ?_
        refine sx_pure rfl rfl rfl (px_move rfl) ?_
        refine sx_pure rfl rfl rfl (px_move rfl) ?_
        refine sx_pure rfl rfl rfl (px_index1 (j := q) rfl rfl (by omega) Try.underlying22 Try.sizeOf3 hs_s3.sv (by first | omega | (simp only [List.length_set]; omega))) ?_
        refine sx_pure rfl rfl rfl (px_load rfl (hs_s3.sv.load1 (at_int (by omega)) Try.isAgg3)) ?_
        refine sx_pure rfl rfl rfl (px_add rfl rfl (by omega)) ?_
        refine sx_pure rfl rfl rfl (px_assign rfl) ?_
        refine wl_nil ?_
        refine q_n (k34 _ _ ?_)
        refine sx_sub (Sub.cons (t := 1) rfl (.cons (t := 5) rfl (.cons (t := 8) rfl (.cons (t := 11) rfl (.cons (t := 19) rfl (.cons (t := 20) rfl (.cons (t := 21) rfl (.nil)))))))) ?_
        refine sx_seq fun K35 k35 => ?_
        refine sx_region ?_
        refine sx_pure rfl rfl rfl (px_move rfl) ?_
        refine sx_pure rfl rfl rfl (px_move rfl) ?_
        refine sx_pure rfl rfl rfl (px_move rfl) ?_
        refine sx_pure rfl rfl rfl (px_rem rfl rfl (by omega) (by omega)) ?_
        refine sx_pure rfl rfl rfl (px_index1 (j := q) rfl rfl (by omega) Try.underlying22 Try.sizeOf3 hs_s3.sv (by first | omega | (simp only [List.length_set]; omega))) ?_
        refine sx_storeO rfl rfl hs_s3 (by first | omega | (simp only [List.length_map]; omega)) Try.sizeOf3 rfl (fun w36 sw36 fw36 cw36 => ?_)
        have zw36 := cw36.size
        have nw36 := fw36.set
        refine wl_nil ?_
        refine q_n (k35 _ _ ?_)
        refine sx_region ?_
        refine sx_pure rfl rfl rfl (px_move rfl) ?_
        refine sx_pure rfl rfl rfl (px_quo rfl rfl (by omega) (by omega) (by omega)) ?_
        refine sx_pure rfl rfl rfl (px_assign rfl) ?_
        refine wl_nil ?_
        refine q_bn (q_n (k33 _ _ ?_))
        refine sx_region ?_
        refine sx_pure rfl rfl rfl (px_move rfl) ?_
        refine sx_pure rfl rfl rfl (px_add rfl rfl (by omega)) ?_
        refine sx_pure rfl rfl rfl (px_assign rfl) ?_
        refine wl_nil ?_
        have q37 := Chg.step (l := w.heap.size) (h := ws3.heap.size) cwl30 cw36 (by omega)
        have hs : (e + ((o3).getD q 0)) = e + o3.getD q 0 := by omega
        have hm3 := carry_gen (by omega) he.1 on.1 hs hv3
        exact fun a ha => ⟨_, by omega, (q + 1), ((o3).set q ((e + ((o3).getD q 0)) % 1000000000)), ((e + ((o3).getD q 0)) / 1000000000), ha.sub (Sub.cons (t := 1) rfl (.cons (t := 5) rfl (.cons (t := 8) (look_int (t := 8) rfl (by first | omega | simp)) (.cons (t := 11) (look_int (t := 11) rfl (by first | omega | simp)) (.cons (t := 19) rfl (.cons (t := 20) rfl (.cons (t := 21) rfl (.nil)))))))), q37, (nw36.mono (by omega) (by omega)), rfl, by simpa using hos3, hlm3.set _ (by omega) (by omega), zero_set hz3 (by omega), by omega, .inr (by omega), hm3⟩
      ·
        refine sx_exit ?_
        refine q_e (q_e (q_bx (q_bn (q_n (k10 _ _ ?_)))))
        have e0 : e = 0 := by omega
        subst e0
        have hosR := hos3
        have hlmR := hlm3
        have hzR : ∀ i, k + (dg n).length + 1 ≤ i → o3.getD i 0 = 0 := fun i hi => hz3 i (by omega)
        have hvR : vl o3 = vl os + Bs ^ k * (((dg m).getD k 0).toNat * n) := by simpa using hv3
        refine sx_region ?_
        refine sx_pure rfl rfl rfl (px_add rfl rfl (by omega)) ?_
        refine sx_pure rfl rfl rfl (px_move rfl) ?_
        refine wl_nil ?_
        have q38 := Chg.step (l := w.heap.size) (h := ws3.heap.size) cwl7 cwl18 (by omega)
        have q39 := Chg.step (l := w.heap.size) (h := ws3.heap.size) q38 cwl30 (by omega)
        have hrow := mul_row (P := Bs ^ k) (a := ((dg m).getD k 0).toNat) hv
        rw [← vl_take_succ'] at hrow
        exact fun a ha => ⟨_, by omega, (k + 1), o3, ha.sub (Sub.cons (t := 1) rfl (.cons (t := 5) rfl (.cons (t := 19) rfl (.cons (t := 20) rfl (.cons (t := 21) (look_int (t := 21) rfl (by first | omega | simp)) (.nil)))))), q39, (hs_s3.mono (by omega) (by omega)), rfl, by omega, by simpa using hosR, hlmR, fun i hi => hzR i (by omega), hvR.trans hrow⟩
  ·
    refine sx_exit ?_
    refine q_e (q_e (q_bx (q_n (k4 _ _ ?_))))
    refine sx_seq fun K40 k40 => ?_
    have ek : k = (dg m).length := by omega
    rw [ek, List.take_length, vl_dg] at hv
    have hzz := hlm
    refine sx_region ?_
    refine sx_pure rfl rfl rfl (px_move rfl) ?_
    refine sx_call rfl rfl Try.call121 (c_trim hs_s3 (by assumption) (by first | omega | (simp only [List.length_append, List.length_set, List.length_replicate, List.length_cons, List.length_nil] at *; omega))) (fun v41 w41 p41 => ?_)
    obtain ⟨s41, rfl, os_41, c41⟩ := p41
    have zw41 := c41.size
    refine sx_pure rfl rfl rfl (px_assign rfl) ?_
    refine wl_nil ?_
    refine q_n (k40 _ _ ?_)
    refine sx_retc ?_
    refine sx_ret1 Try.results91 rfl ?_
    have hr := os_41
    rw [hv] at hr
    have q42 := Chg.step (l := 0) (h := 0) cs3 cwl7 (by omega)
    have q43 := Chg.step (l := 0) (h := 0) q42 c41 (by omega)
    exact ⟨_, rfl, hr.mono (by omega) (by omega), q43⟩

theorem c_signed {w : World} {n : Bool} {va : Value} {lva uva : Nat} {zs : List Int} (hva : Sl w lva uva va (zs)) (h63 : zs.length ≤ 4611686018427387904) :
    Ret Try.prog 90 [.bool n, va] w fun v w' => v = .agg #[.bool (nz n zs), va] ∧ Chg 0 0 w w' := by
  have hva0 := hva.fit
  refine sx_enter Try.func90 rfl Try.ntmps90 (Nat.le_of_ble_eq_true rfl) ?_
  refine sx_seq fun K1 k1 => ?_
  refine sx_region ?_
  refine sx_alloc [.bool false, (.slice none 0 0)] rfl Try.zeroValue29 rfl (fun b2 w3 eb2 sb2 fb2 cb2 => ?_)
  have zw3 := cb2.size
  refine wl_nil ?_
  refine q_n (k1 _ _ ?_)
  refine sx_seq fun K4 k4 => ?_
  refine sx_region ?_
  refine sx_pure rfl rfl rfl (px_move rfl) ?_
  refine sx_pure rfl rfl rfl (px_move rfl) ?_
  refine sx_tmpB (t := 6) rfl (fun h16 => ?_) (fun h16 => ?_)
  ·
    refine sx_guardT rfl rfl rfl ?_
    refine sx_pure rfl rfl rfl (px_move rfl) ?_
    refine sx_guardT rfl rfl rfl ?_
    have f5 := hva0.ext cb2
    refine sx_pure rfl rfl rfl (px_len rfl Try.underlying22 f5) ?_
    refine sx_guardT rfl rfl rfl ?_
    refine sx_pure rfl rfl rfl (px_gt rfl rfl) ?_
    refine sx_pure rfl rfl rfl (px_pick rfl rfl) ?_
    refine sx_pure rfl rfl rfl (px_move rfl) ?_
    refine sx_pure rfl rfl rfl (px_build rfl (xbld29x0x1 rfl f5.one _)) ?_
    refine sx_store (vs := [.bool (decide ((0 : Int) < ↑((zs).length))), va]) rfl rfl fb2 rfl Try.sizeOf29 (Nat.le_of_ble_eq_true rfl) (one_cons rfl (one_cons f5.one one_nil)) (fun w6 sw6 fw6 cw6 => ?_)
    have zw6 := cw6.size
    have gw6 : Blk w6 b2 [.bool (decide ((0 : Int) < ↑((zs).length))), va] 29 := fw6
    refine wl_nil ?_
    refine q_n (k4 _ _ ?_)
    refine sx_retc ?_
    refine sx_ret1 Try.results90 ⟨_, rfl, gw6.loadA (vs := [.bool (decide ((0 : Int) < ↑((zs).length))), va]) (look_lit rfl) Try.isAgg29 Try.sizeOf29⟩ ?_
    have q7 := Chg.step (l := 0) (h := 0) cb2 cw6 (by omega)
    exact ⟨(by simp [nz, h16]), q7⟩
  ·
    refine sx_guardF rfl rfl rfl rfl rfl rfl ?_
    refine sx_guardF rfl rfl rfl rfl rfl rfl ?_
    refine sx_guardF rfl rfl rfl rfl rfl rfl ?_
    refine sx_pure rfl rfl rfl (px_pick rfl rfl) ?_
    refine sx_pure rfl rfl rfl (px_move rfl) ?_
    have f8 := hva0.ext cb2
    refine sx_pure rfl rfl rfl (px_build rfl (xbld29x0x1 rfl f8.one _)) ?_
    refine sx_store (vs := [.bool false, va]) rfl rfl fb2 rfl Try.sizeOf29 (Nat.le_of_ble_eq_true rfl) (one_cons rfl (one_cons f8.one one_nil)) (fun w9 sw9 fw9 cw9 => ?_)
    have zw9 := cw9.size
    have gw9 : Blk w9 b2 [.bool false, va] 29 := fw9
    refine wl_nil ?_
    refine q_n (k4 _ _ ?_)
    refine sx_retc ?_
    refine sx_ret1 Try.results90 ⟨_, rfl, gw9.loadA (vs := [.bool false, va]) (look_lit rfl) Try.isAgg29 Try.sizeOf29⟩ ?_
    have q10 := Chg.step (l := 0) (h := 0) cb2 cw9 (by omega)
    exact ⟨(by simp [nz, h16]), q10⟩

theorem c_intMul {w : World} {va : Value} {lva uva : Nat} {x : Int} {vb : Value} {lvb uvb : Nat} {y : Int} (hva : Sl w lva uva va (dg x.natAbs)) (hvb : Sl w lvb uvb vb (dg y.natAbs)) (hbx : (dg x.natAbs).length ≤ 1000) (hby : (dg y.natAbs).length ≤ 1000) :
    Ret Try.prog 69 [.agg #[.bool (ng x), va], .agg #[.bool (ng y), vb]] w fun v w' => ∃ s, v = .agg #[.bool (ng (x * y)), s] ∧ OwnI w' w.heap.size w'.heap.size s intT (dg (x * y).natAbs) ∧ Chg 0 0 w w' := by
  have hva0 := hva.fit
  have hvb0 := hvb.fit
  have l1 := len_mul x.natAbs y.natAbs
  refine sx_enter Try.func69 rfl Try.ntmps69 (Nat.le_of_ble_eq_true rfl) ?_
  refine sx_seq fun K1 k1 => ?_
  refine sx_region ?_
  refine sx_box [.bool (ng x), va] rfl rfl rfl (fun b2 w3 eb2 sb2 fb2 cb2 => ?_)
  have zw3 := cb2.size
  refine sx_box [.bool (ng y), vb] rfl rfl rfl (fun b4 w5 eb4 sb4 fb4 cb4 => ?_)
  have zw5 := cb4.size
  refine sx_alloc [.bool false, (.slice none 0 0)] rfl Try.zeroValue29 rfl (fun b6 w7 eb6 sb6 fb6 cb6 => ?_)
  have zw7 := cb6.size
  refine wl_nil ?_
  refine q_n (k1 _ _ ?_)
  refine sx_seq fun K8 k8 => ?_
  have f9 := fb2.ext cb4
  have f10 := f9.ext cb6
  have f11 := fb4.ext cb6
  have f12 := hva0.ext cb2
  have f13 := f12.ext cb4
  have f14 := f13.ext cb6
  have f15 := hvb0.ext cb2
  have f16 := f15.ext cb4
  have f17 := f16.ext cb6
  refine dx_region (fun w' => Chg b6 (b6 + 1) w7 w') (by kernel_rfl) (Chg.zero (Chg.drew _)) ?_
  have d18 := Chg.drew w7
  have s18 : Chg b6 (b6 + 1) w7 (World.drew w7) := Chg.zero (Chg.drew _)
  have y18 : (World.drew w7).heap.size = w7.heap.size := rfl
  generalize World.drew w7 = w18 at *
  have zw18 := d18.size
  refine dx_take 0 rfl rfl rfl rfl (by kernel_rfl) (by kernel_rfl) (by kernel_rfl) s18 (fun _ hS => px_field rfl xfld29x0) ?_
  refine dx_take 1 rfl rfl rfl rfl (by kernel_rfl) (by kernel_rfl) (by kernel_rfl) s18 (fun _ hS => px_load rfl ((f10.chg hS (by omega)).load1 rfl Try.isAgg4)) ?_
  refine dx_take 2 rfl rfl rfl rfl (by kernel_rfl) (by kernel_rfl) (by kernel_rfl) s18 (fun _ hS => px_field rfl xfld29x0) ?_
  refine dx_take 3 rfl rfl rfl rfl (by kernel_rfl) (by kernel_rfl) (by kernel_rfl) s18 (fun _ hS => px_load rfl ((f11.chg hS (by omega)).load1 rfl Try.isAgg4)) ?_
  refine dx_take 4 rfl rfl rfl rfl (by kernel_rfl) (by kernel_rfl) (by kernel_rfl) s18 (fun _ hS => px_neB Try.underlying4 rfl rfl) ?_
  refine dx_take 5 rfl rfl rfl rfl (by kernel_rfl) (by kernel_rfl) (by kernel_rfl) s18 (fun _ hS => px_field rfl xfld29x1) ?_
  refine dx_take 6 rfl rfl rfl rfl (by kernel_rfl) (by kernel_rfl) (by kernel_rfl) s18 (fun _ hS => px_load rfl ((f10.chg hS (by omega)).load1 rfl Try.isAgg22)) ?_
  refine dx_take 7 rfl rfl rfl rfl (by kernel_rfl) (by kernel_rfl) (by kernel_rfl) s18 (fun _ hS => px_field rfl xfld29x1) ?_
  refine dx_take 8 rfl rfl rfl rfl (by kernel_rfl) (by kernel_rfl) (by kernel_rfl) s18 (fun _ hS => px_load rfl ((f11.chg hS (by omega)).load1 rfl Try.isAgg22)) ?_
  refine dx_eff 9 rfl (by kernel_rfl) ?_
  have f19 := f14.ext d18
  have f20 := f17.ext d18
  refine sx_call rfl rfl Try.call91 (c_natMul f19 f20 (by omega) (by omega)) (fun v21 w21 p21 => ?_)
  obtain ⟨s21, rfl, os_21, c21⟩ := p21
  have zw21 := c21.size
  have q23 := Chg.step (l := b6) (h := (b6 + 1)) (Chg.zero (l := b6) (h := (b6 + 1)) d18) c21 (by omega)
  have s22 : Chg b6 (b6 + 1) w7 w21 := q23
  refine wl_nil ?_
  refine dx_next s22 ?_
  refine dx_eff 10 rfl (by kernel_rfl) ?_
  refine sx_call rfl rfl Try.call90 (c_signed os_21.sv (by omega)) (fun v24 w24 p24 => ?_)
  obtain ⟨rfl, c24⟩ := p24
  have zw24 := c24.size
  have q26 := Chg.step (l := b6) (h := (b6 + 1)) (Chg.zero (l := b6) (h := (b6 + 1)) d18) c21 (by omega)
  have q27 := Chg.step (l := b6) (h := (b6 + 1)) q26 c24 (by omega)
  have s25 : Chg b6 (b6 + 1) w7 w24 := q27
  refine wl_nil ?_
  refine dx_next s25 ?_
  refine dx_eff 11 rfl (by kernel_rfl) ?_
  have f29 := fb6.ext d18
  have f30 := f29.ext c21
  have f31 := f30.ext c24
  have f32 := os_21.ext c24
  refine sx_store (vs := [.bool (nz ((ng x) != (ng y)) (dg (x.natAbs * y.natAbs))), v21]) rfl rfl f31 rfl Try.sizeOf29 (Nat.le_of_ble_eq_true rfl) (one_cons rfl (one_cons f32.one one_nil)) (fun w28 sw28 fw28 cw28 => ?_)
  have zw28 := cw28.size
  have gw28 : Blk w28 b6 [.bool (nz ((ng x) != (ng y)) (dg (x.natAbs * y.natAbs))), v21] 29 := fw28
  have q34 := Chg.step (l := b6) (h := (b6 + 1)) (Chg.zero (l := b6) (h := (b6 + 1)) d18) c21 (by omega)
  have q35 := Chg.step (l := b6) (h := (b6 + 1)) q34 c24 (by omega)
  have q36 := Chg.step (l := b6) (h := (b6 + 1)) q35 cw28 (by omega)
  have s33 : Chg b6 (b6 + 1) w7 w28 := q36
  refine wl_nil ?_
  refine dx_next s33 ?_
  refine dx_done (by kernel_rfl) ?_
  refine q_n (k8 _ _ ?_)
  refine sx_sub (Sub.cons (t := 4) rfl (.nil)) ?_
  refine sx_retc ?_
  refine sx_ret1 Try.results69 ⟨_, rfl, gw28.loadA (vs := [.bool (nz ((ng x) != (ng y)) (dg (x.natAbs * y.natAbs))), v21]) (look_lit rfl) Try.isAgg29 Try.sizeOf29⟩ ?_
  have hh := mul_sg x y
  rw [← hh.1, ← hh.2]
  have q37 := Chg.step (l := 0) (h := 0) cb2 cb4 (by omega)
  have q38 := Chg.step (l := 0) (h := 0) q37 cb6 (by omega)
  have q39 := Chg.step (l := 0) (h := 0) q38 d18 (by omega)
  have q40 := Chg.step (l := 0) (h := 0) q39 c21 (by omega)
  have q41 := Chg.step (l := 0) (h := 0) q40 c24 (by omega)
  have q42 := Chg.step (l := 0) (h := 0) q41 cw28 (by omega)
  have f43 := f32.chg cw28 (by omega)
  exact ⟨_, rfl, (Own.mono f43 (by omega) (by omega)), q42⟩

theorem c_decOf {w : World} {va : Value} {lva uva : Nat} {x : Int} {p : Int} (hva : OwnI w lva uva va intT (dg x.natAbs)) (hbx : (dg x.natAbs).length ≤ 1000) (hu : uva ≤ w.heap.size) :
    Ret Try.prog 68 [.agg #[.bool (ng x), va], .int .i64 p] w fun v w' => ∃ s, v = .tuple #[.agg #[.bool ((decR x p).1), s, .int .i64 ((decR x p).2.2.1)], .bool ((decR x p).2.2.2)] ∧ OwnI w' (lva) (uva) s intT ((decR x p).2.1) ∧ Chg 0 0 w w' := by
  refine sx_enter Try.func68 rfl Try.ntmps68 (Nat.le_of_ble_eq_true rfl) ?_
  refine sx_seq fun K1 k1 => ?_
  refine sx_region ?_
  refine sx_box [.bool (ng x), va] rfl rfl rfl (fun b2 w3 eb2 sb2 fb2 cb2 => ?_)
  have zw3 := cb2.size
  refine sx_alloc [.bool false, (.slice none 0 0), .int .i64 0] rfl Try.zeroValue31 rfl (fun b4 w5 eb4 sb4 fb4 cb4 => ?_)
  have zw5 := cb4.size
  refine sx_pure rfl rfl rfl (px_assign rfl) ?_
  refine wl_nil ?_
  refine q_n (k1 _ _ ?_)
  refine sx_seq fun K6 k6 => ?_
  refine sx_seq fun K7 k7 => ?_
  refine sx_region ?_
  have f8 := fb2.ext cb4
  refine sx_pure rfl rfl rfl (px_load rfl (f8.loadA (vs := [.bool (ng x), va]) (look_lit rfl) Try.isAgg29 Try.sizeOf29)) ?_
  refine sx_pure rfl rfl rfl (px_move rfl) ?_
  refine sx_pure rfl rfl rfl (px_build rfl (xbld31x0x1 rfl _)) ?_
  refine sx_alloc [.bool false, (.slice none 0 0), .int .i64 0] rfl Try.zeroValue31 rfl (fun b9 w10 eb9 sb9 fb9 cb9 => ?_)
  have zw10 := cb9.size
  have f12 := hva.ext cb2
  have f13 := f12.ext cb4
  have f14 := f13.ext cb9
  refine sx_store (vs := [.bool (ng x), va, .int .i64 p]) rfl rfl fb9 rfl Try.sizeOf31 (Nat.le_of_ble_eq_true rfl) (one_cons rfl (one_cons f14.one (one_cons rfl one_nil))) (fun w11 sw11 fw11 cw11 => ?_)
  have zw11 := cw11.size
  have gw11 : Blk w11 b9 [.bool (ng x), va, .int .i64 p] 31 := fw11
  refine wl_nil ?_
  refine q_n (k7 _ _ ?_)
  refine sx_seq fun K15 k15 => ?_
  refine sx_region ?_
  refine sx_pure rfl rfl rfl (px_load rfl (gw11.loadA (vs := [.bool (ng x), va, .int .i64 p]) (look_lit rfl) Try.isAgg31 Try.sizeOf31)) ?_
  have f16 := f14.chg cw11 (by omega)
  refine sx_call rfl rfl Try.call18 (c_iDecOk f16.sv (by omega)) (fun v17 w17 p17 => ?_)
  obtain ⟨rfl, c17⟩ := p17
  have zw17 := c17.size
  refine wl_nil ?_
  refine q_n (k15 _ _ ?_)
  refine sx_condP rfl (fun h22 => ?_) (fun h22 => ?_)
  ·
    refine sx_seq fun K18 k18 => ?_
    refine sx_region ?_
    have f19 := gw11.ext c17
    refine sx_pure rfl rfl rfl (px_load rfl (f19.loadA (vs := [.bool (ng x), va, .int .i64 p]) (look_lit rfl) Try.isAgg31 Try.sizeOf31)) ?_
    have f21 := fb4.ext cb9
    have f22 := f21.chg cw11 (by omega)
    have f23 := f22.ext c17
    have f24 := f16.ext c17
    refine sx_store (vs := [.bool (ng x), va, .int .i64 p]) rfl rfl f23 rfl Try.sizeOf31 (Nat.le_of_ble_eq_true rfl) (one_cons rfl (one_cons f24.one (one_cons rfl one_nil))) (fun w20 sw20 fw20 cw20 => ?_)
    have zw20 := cw20.size
    have gw20 : Blk w20 b4 [.bool (ng x), va, .int .i64 p] 31 := fw20
    refine sx_pure rfl rfl rfl (px_assign rfl) ?_
    refine wl_nil ?_
    refine q_n (k18 _ _ ?_)
    refine sx_retc ?_
    refine q_r (sx_ret2 Try.results68 ⟨_, rfl, gw20.loadA (vs := [.bool (ng x), va, .int .i64 p]) (look_lit rfl) Try.isAgg31 Try.sizeOf31⟩ rfl ?_)
    rw [decR_ok (by first | exact h22 | exact Decidable.not_not.1 h22)]
    have q25 := Chg.step (l := 0) (h := 0) cb2 cb4 (by omega)
    have q26 := Chg.step (l := 0) (h := 0) q25 cb9 (by omega)
    have q27 := Chg.step (l := 0) (h := 0) q26 cw11 (by omega)
    have q28 := Chg.step (l := 0) (h := 0) q27 c17 (by omega)
    have q29 := Chg.step (l := 0) (h := 0) q28 cw20 (by omega)
    have f30 := f24.chg cw20 (by omega)
    exact ⟨_, rfl, (Own.mono f30 (by omega) (by omega)), q29⟩
  ·
    refine sx_skip ?_
    refine q_n (k6 _ _ ?_)
    refine sx_seq fun K31 k31 => ?_
    refine sx_region ?_
    refine sx_pure rfl rfl rfl (px_build rfl (xbld31x  _)) ?_
    have f33 := fb4.ext cb9
    have f34 := f33.chg cw11 (by omega)
    have f35 := f34.ext c17
    refine sx_store (vs := [.bool false, (.slice none 0 0), .int .i64 0]) rfl rfl f35 rfl Try.sizeOf31 (Nat.le_of_ble_eq_true rfl) (one_cons rfl (one_cons rfl (one_cons rfl one_nil))) (fun w32 sw32 fw32 cw32 => ?_)
    have zw32 := cw32.size
    have gw32 : Blk w32 b4 [.bool false, (.slice none 0 0), .int .i64 0] 31 := fw32
    refine sx_pure rfl rfl rfl (px_assign rfl) ?_
    refine wl_nil ?_
    refine q_n (k31 _ _ ?_)
    refine sx_retc ?_
    refine sx_ret2 Try.results68 ⟨_, rfl, gw32.loadA (vs := [.bool false, (.slice none 0 0), .int .i64 0]) (look_lit rfl) Try.isAgg31 Try.sizeOf31⟩ rfl ?_
    rw [decR_no (by first | exact h22 | assumption)]
    have q36 := Chg.step (l := 0) (h := 0) cb2 cb4 (by omega)
    have q37 := Chg.step (l := 0) (h := 0) q36 cb9 (by omega)
    have q38 := Chg.step (l := 0) (h := 0) q37 cw11 (by omega)
    have q39 := Chg.step (l := 0) (h := 0) q38 c17 (by omega)
    have q40 := Chg.step (l := 0) (h := 0) q39 cw32 (by omega)
    exact ⟨_, rfl, Own.nil _ _ _ _ _, q40⟩

theorem c_iDecMul {w : World} {n1 : Bool} {v1 : Value} {lv1 uv1 : Nat} {z1 : List Int} {p1 : Int} {n2 : Bool} {v2 : Value} {lv2 uv2 : Nat} {z2 : List Int} {p2 : Int} (hv1 : Sl w lv1 uv1 v1 (z1)) (hv2 : Sl w lv2 uv2 v2 (z2)) (h63 : z1.length ≤ 4611686018427387904 ∧ z2.length ≤ 4611686018427387904) :
    Ret Try.prog 26 [.agg #[.bool n1, v1, .int .i64 p1], .agg #[.bool n2, v2, .int .i64 p2]] w fun v w' => ∃ s, v = .tuple #[.agg #[.bool ((dBin fMul n1 z1 p1 n2 z2 p2).1), s, .int .i64 ((dBin fMul n1 z1 p1 n2 z2 p2).2.2.1)], .bool ((dBin fMul n1 z1 p1 n2 z2 p2).2.2.2)] ∧ OwnI w' w.heap.size w'.heap.size s intT ((dBin fMul n1 z1 p1 n2 z2 p2).2.1) ∧ ((dBin fMul n1 z1 p1 n2 z2 p2).2.1.length ≤ 6) ∧ Chg 0 0 w w' := by
  have hv10 := hv1.fit
  have hv20 := hv2.fit
  refine sx_enter Try.func26 rfl Try.ntmps26 (Nat.le_of_ble_eq_true rfl) ?_
  refine sx_seq fun K1 k1 => ?_
  refine sx_region ?_
  refine sx_box [.bool n1, v1, .int .i64 p1] rfl rfl rfl (fun b2 w3 eb2 sb2 fb2 cb2 => ?_)
  have zw3 := cb2.size
  refine sx_box [.bool n2, v2, .int .i64 p2] rfl rfl rfl (fun b4 w5 eb4 sb4 fb4 cb4 => ?_)
  have zw5 := cb4.size
  refine sx_alloc [.bool false, (.slice none 0 0), .int .i64 0] rfl Try.zeroValue31 rfl (fun b6 w7 eb6 sb6 fb6 cb6 => ?_)
  have zw7 := cb6.size
  refine sx_pure rfl rfl rfl (px_assign rfl) ?_
  refine wl_nil ?_
  refine q_n (k1 _ _ ?_)
  refine sx_seq fun K8 k8 => ?_
  refine sx_seq fun K9 k9 => ?_
  refine sx_region ?_
  have f10 := fb2.ext cb4
  have f11 := f10.ext cb6
  refine sx_pure rfl rfl rfl (px_load rfl (f11.loadA (vs := [.bool n1, v1, .int .i64 p1]) (look_lit rfl) Try.isAgg31 Try.sizeOf31)) ?_
  have f12 := hv10.ext cb2
  have f13 := f12.ext cb4
  have f14 := f13.ext cb6
  refine sx_call rfl rfl Try.call18 (c_iDecOk f14 (by omega)) (fun v15 w15 p15 => ?_)
  obtain ⟨rfl, c15⟩ := p15
  have zw15 := c15.size
  refine sx_pure rfl rfl rfl (px_notP rfl) ?_
  refine sx_pure rfl rfl rfl (px_move rfl) ?_
  refine sx_tmpP (t := 9) rfl (fun h130 => ?_) (fun h130 => ?_)
  ·
    refine sx_guardF rfl rfl rfl rfl rfl rfl ?_
    refine sx_guardF rfl rfl rfl rfl rfl rfl ?_
    refine sx_guardF rfl rfl rfl rfl rfl rfl ?_
    refine sx_pure rfl rfl rfl (px_pick rfl rfl) ?_
    refine wl_nil ?_
    refine q_n (k9 _ _ ?_)
    refine sx_condT rfl ?_
    refine sx_seq fun K16 k16 => ?_
    refine sx_region ?_
    refine sx_pure rfl rfl rfl (px_build rfl (xbld31x  _)) ?_
    have f18 := fb6.ext c15
    refine sx_store (vs := [.bool false, (.slice none 0 0), .int .i64 0]) rfl rfl f18 rfl Try.sizeOf31 (Nat.le_of_ble_eq_true rfl) (one_cons rfl (one_cons rfl (one_cons rfl one_nil))) (fun w17 sw17 fw17 cw17 => ?_)
    have zw17 := cw17.size
    have gw17 : Blk w17 b6 [.bool false, (.slice none 0 0), .int .i64 0] 31 := fw17
    refine sx_pure rfl rfl rfl (px_assign rfl) ?_
    refine wl_nil ?_
    refine q_n (k16 _ _ ?_)
    refine sx_sub (Sub.cons (t := 2) rfl (.cons (t := 3) rfl (.cons (t := 4) rfl (.cons (t := 5) rfl (.nil))))) ?_
    refine sx_retc ?_
    refine q_r (sx_ret2 Try.results26 ⟨_, rfl, gw17.loadA (vs := [.bool false, (.slice none 0 0), .int .i64 0]) (look_lit rfl) Try.isAgg31 Try.sizeOf31⟩ rfl ?_)
    rw [dBin_no (by grind)]
    have q19 := Chg.step (l := 0) (h := 0) cb2 cb4 (by omega)
    have q20 := Chg.step (l := 0) (h := 0) q19 cb6 (by omega)
    have q21 := Chg.step (l := 0) (h := 0) q20 c15 (by omega)
    have q22 := Chg.step (l := 0) (h := 0) q21 cw17 (by omega)
    exact ⟨_, rfl, Own.nil _ _ _ _ _, by simp, q22⟩
  ·
    refine sx_guardT rfl rfl rfl ?_
    have f23 := fb4.ext cb6
    have f24 := f23.ext c15
    refine sx_pure rfl rfl rfl (px_load rfl (f24.loadA (vs := [.bool n2, v2, .int .i64 p2]) (look_lit rfl) Try.isAgg31 Try.sizeOf31)) ?_
    refine sx_guardT rfl rfl rfl ?_
    have f25 := hv20.ext cb2
    have f26 := f25.ext cb4
    have f27 := f26.ext cb6
    have f28 := f27.ext c15
    refine sx_call rfl rfl Try.call18 (c_iDecOk f28 (by omega)) (fun v29 w29 p29 => ?_)
    obtain ⟨rfl, c29⟩ := p29
    have zw29 := c29.size
    refine sx_guardT rfl rfl rfl ?_
    refine sx_pure rfl rfl rfl (px_notP rfl) ?_
    refine sx_pure rfl rfl rfl (px_pick rfl rfl) ?_
    refine wl_nil ?_
    refine q_n (k9 _ _ ?_)
    refine sx_condP rfl (fun h130x1 => ?_) (fun h130x1 => ?_)
    ·
      refine sx_seq fun K30 k30 => ?_
      refine sx_region ?_
      refine sx_pure rfl rfl rfl (px_build rfl (xbld31x  _)) ?_
      have f32 := fb6.ext c15
      have f33 := f32.ext c29
      refine sx_store (vs := [.bool false, (.slice none 0 0), .int .i64 0]) rfl rfl f33 rfl Try.sizeOf31 (Nat.le_of_ble_eq_true rfl) (one_cons rfl (one_cons rfl (one_cons rfl one_nil))) (fun w31 sw31 fw31 cw31 => ?_)
      have zw31 := cw31.size
      have gw31 : Blk w31 b6 [.bool false, (.slice none 0 0), .int .i64 0] 31 := fw31
      refine sx_pure rfl rfl rfl (px_assign rfl) ?_
      refine wl_nil ?_
      refine q_n (k30 _ _ ?_)
      refine sx_sub (Sub.cons (t := 2) rfl (.cons (t := 3) rfl (.cons (t := 4) rfl (.cons (t := 5) rfl (.nil))))) ?_
      refine sx_retc ?_
      refine q_r (sx_ret2 Try.results26 ⟨_, rfl, gw31.loadA (vs := [.bool false, (.slice none 0 0), .int .i64 0]) (look_lit rfl) Try.isAgg31 Try.sizeOf31⟩ rfl ?_)
      rw [dBin_no (by grind)]
      have q34 := Chg.step (l := 0) (h := 0) cb2 cb4 (by omega)
      have q35 := Chg.step (l := 0) (h := 0) q34 cb6 (by omega)
      have q36 := Chg.step (l := 0) (h := 0) q35 c15 (by omega)
      have q37 := Chg.step (l := 0) (h := 0) q36 c29 (by omega)
      have q38 := Chg.step (l := 0) (h := 0) q37 cw31 (by omega)
      exact ⟨_, rfl, Own.nil _ _ _ _ _, by simp, q38⟩
    ·
      have hD1 := Decidable.not_not.1 h130
      have hD2 := Decidable.not_not.1 h130x1
      obtain ⟨x1, rfl, rfl, hx1⟩ := hD1.int
      obtain ⟨x2, rfl, rfl, hx2⟩ := hD2.int
      refine sx_skip ?_
      refine q_n (k8 _ _ ?_)
      refine sx_seq fun K39 k39 => ?_
      have f40 := f11.ext c15
      have f41 := f40.ext c29
      have f42 := f24.ext c29
      have f43 := f14.ext c15
      have f44 := f43.ext c29
      have f45 := f28.ext c29
      refine dx_region (fun w' => Chg b6 (b6 + 1) w29 w') (by kernel_rfl) (Chg.zero (Chg.drew _)) ?_
      have d46 := Chg.drew w29
      have s46 : Chg b6 (b6 + 1) w29 (World.drew w29) := Chg.zero (Chg.drew _)
      have y46 : (World.drew w29).heap.size = w29.heap.size := rfl
      generalize World.drew w29 = w46 at *
      have zw46 := d46.size
      refine dx_take 0 rfl rfl rfl rfl (by kernel_rfl) (by kernel_rfl) (by kernel_rfl) s46 (fun _ hS => px_field rfl xfld31x0) ?_
      refine dx_take 1 rfl rfl rfl rfl (by kernel_rfl) (by kernel_rfl) (by kernel_rfl) s46 (fun _ hS => px_load rfl ((f41.chg hS (by omega)).loadA (vs := [.bool (ng x1), v1]) (look_lit rfl) Try.isAgg29 Try.sizeOf29)) ?_
      refine dx_take 2 rfl rfl rfl rfl (by kernel_rfl) (by kernel_rfl) (by kernel_rfl) s46 (fun _ hS => px_field rfl xfld31x0) ?_
      refine dx_take 3 rfl rfl rfl rfl (by kernel_rfl) (by kernel_rfl) (by kernel_rfl) s46 (fun _ hS => px_load rfl ((f42.chg hS (by omega)).loadA (vs := [.bool (ng x2), v2]) (look_lit rfl) Try.isAgg29 Try.sizeOf29)) ?_
      refine dx_take 5 rfl rfl rfl rfl (by kernel_rfl) (by kernel_rfl) (by kernel_rfl) s46 (fun _ hS => px_field rfl xfld31x1) ?_
      refine dx_take 6 rfl rfl rfl rfl (by kernel_rfl) (by kernel_rfl) (by kernel_rfl) s46 (fun _ hS => px_load rfl ((f41.chg hS (by omega)).load1 rfl Try.isAgg3)) ?_
      refine dx_take 7 rfl rfl rfl rfl (by kernel_rfl) (by kernel_rfl) (by kernel_rfl) s46 (fun _ hS => px_field rfl xfld31x1) ?_
      refine dx_take 8 rfl rfl rfl rfl (by kernel_rfl) (by kernel_rfl) (by kernel_rfl) s46 (fun _ hS => px_load rfl ((f42.chg hS (by omega)).load1 rfl Try.isAgg3)) ?_
      refine dx_take 9 rfl rfl rfl rfl (by kernel_rfl) (by kernel_rfl) (by kernel_rfl) s46 (fun _ hS => px_add rfl rfl (by omega)) ?_
      refine dx_eff 4 rfl (by kernel_rfl) ?_
      have f47 := f44.ext d46
      have f48 := f45.ext d46
      refine sx_call rfl rfl Try.call69 (c_intMul f47 f48 (by omega) (by omega)) (fun v49 w49 p49 => ?_)
      obtain ⟨s49, rfl, os_49, c49⟩ := p49
      have zw49 := c49.size
      have q51 := Chg.step (l := b6) (h := (b6 + 1)) (Chg.zero (l := b6) (h := (b6 + 1)) d46) c49 (by omega)
      have s50 : Chg b6 (b6 + 1) w29 w49 := q51
      refine wl_nil ?_
      refine dx_next s50 ?_
      refine dx_eff 10 rfl (by kernel_rfl) ?_
      refine sx_call rfl rfl Try.call68 (c_decOf os_49 (by have h := len_mulI x1 x2; omega) (by omega)) (fun v52 w52 p52 => ?_)
      obtain ⟨s52, rfl, os_52, c52⟩ := p52
      have zw52 := c52.size
      have q54 := Chg.step (l := b6) (h := (b6 + 1)) (Chg.zero (l := b6) (h := (b6 + 1)) d46) c49 (by omega)
      have q55 := Chg.step (l := b6) (h := (b6 + 1)) q54 c52 (by omega)
      have s53 : Chg b6 (b6 + 1) w29 w52 := q55
      refine wl_nil ?_
      refine dx_next s53 ?_
      refine dx_take 11 rfl rfl rfl rfl (by kernel_rfl) (by kernel_rfl) (by kernel_rfl) s53 (fun _ hS => px_extract (vs := [.agg #[.bool ((decR (x1 * x2) (p1 + p2)).1), s52, .int .i64 ((decR (x1 * x2) (p1 + p2)).2.2.1)], .bool ((decR (x1 * x2) (p1 + p2)).2.2.2)]) rfl rfl) ?_
      refine dx_take 12 rfl rfl rfl rfl (by kernel_rfl) (by kernel_rfl) (by kernel_rfl) s53 (fun _ hS => px_extract (vs := [.agg #[.bool ((decR (x1 * x2) (p1 + p2)).1), s52, .int .i64 ((decR (x1 * x2) (p1 + p2)).2.2.1)], .bool ((decR (x1 * x2) (p1 + p2)).2.2.2)]) rfl rfl) ?_
      refine dx_eff 13 rfl (by kernel_rfl) ?_
      have f57 := fb6.ext c15
      have f58 := f57.ext c29
      have f59 := f58.ext d46
      have f60 := f59.ext c49
      have f61 := f60.ext c52
      refine sx_store (vs := [.bool ((decR (x1 * x2) (p1 + p2)).1), s52, .int .i64 ((decR (x1 * x2) (p1 + p2)).2.2.1)]) rfl rfl f61 rfl Try.sizeOf31 (Nat.le_of_ble_eq_true rfl) (one_cons rfl (one_cons os_52.one (one_cons rfl one_nil))) (fun w56 sw56 fw56 cw56 => ?_)
      have zw56 := cw56.size
      have gw56 : Blk w56 b6 [.bool ((decR (x1 * x2) (p1 + p2)).1), s52, .int .i64 ((decR (x1 * x2) (p1 + p2)).2.2.1)] 31 := fw56
      have q63 := Chg.step (l := b6) (h := (b6 + 1)) (Chg.zero (l := b6) (h := (b6 + 1)) d46) c49 (by omega)
      have q64 := Chg.step (l := b6) (h := (b6 + 1)) q63 c52 (by omega)
      have q65 := Chg.step (l := b6) (h := (b6 + 1)) q64 cw56 (by omega)
      have s62 : Chg b6 (b6 + 1) w29 w56 := q65
      refine wl_nil ?_
      refine dx_next s62 ?_
      refine dx_take 14 rfl rfl rfl rfl (by kernel_rfl) (by kernel_rfl) (by kernel_rfl) s62 (fun _ hS => px_assign rfl) ?_
      refine dx_done (by kernel_rfl) ?_
      refine q_n (k39 _ _ ?_)
      refine sx_sub (Sub.cons (t := 4) rfl (.cons (t := 5) rfl (.nil))) ?_
      refine sx_retc ?_
      refine sx_ret2 Try.results26 ⟨_, rfl, gw56.loadA (vs := [.bool ((decR (x1 * x2) (p1 + p2)).1), s52, .int .i64 ((decR (x1 * x2) (p1 + p2)).2.2.1)]) (look_lit rfl) Try.isAgg31 Try.sizeOf31⟩ rfl ?_
      rw [dBin_ok hD1 hD2]
      have q66 := Chg.step (l := 0) (h := 0) cb2 cb4 (by omega)
      have q67 := Chg.step (l := 0) (h := 0) q66 cb6 (by omega)
      have q68 := Chg.step (l := 0) (h := 0) q67 c15 (by omega)
      have q69 := Chg.step (l := 0) (h := 0) q68 c29 (by omega)
      have q70 := Chg.step (l := 0) (h := 0) q69 d46 (by omega)
      have q71 := Chg.step (l := 0) (h := 0) q70 c49 (by omega)
      have q72 := Chg.step (l := 0) (h := 0) q71 c52 (by omega)
      have q73 := Chg.step (l := 0) (h := 0) q72 cw56 (by omega)
      have f74 := os_52.chg cw56 (by omega)
      exact ⟨_, rfl, (Own.mono f74 (by omega) (by omega)), decR_len _ _, q73⟩

theorem c_eqIntS {w : World} {va : Value} {lva uva : Nat} {zs : List Int} {vb : Value} {lvb uvb : Nat} {ys : List Int} (hva : Sl w lva uva va (zs)) (hvb : Sl w lvb uvb vb (ys)) (h63 : zs.length ≤ 4611686018427387904 ∧ ys.length ≤ 4611686018427387904) :
    Ret Try.prog 46 [va, vb] w fun v w' => v = .bool (decide (zs = ys)) ∧ Chg 0 0 w w' := by
  have hva0 := hva.fit
  have hvb0 := hvb.fit
  have hneq : zs.length ≠ ys.length → zs ≠ ys := fun h e => h (by rw [e])
  refine sx_enter Try.func46 rfl Try.ntmps46 (Nat.le_of_ble_eq_true rfl) ?_
  refine sx_seq fun K1 k1 => ?_
  refine sx_region ?_
  refine sx_pure rfl rfl rfl (px_assign rfl) ?_
  refine wl_nil ?_
  refine q_n (k1 _ _ ?_)
  refine sx_seq fun K2 k2 => ?_
  refine sx_seq fun K3 k3 => ?_
  refine sx_region ?_
  refine sx_pure rfl rfl rfl (px_move rfl) ?_
  refine sx_pure rfl rfl rfl (px_len rfl Try.underlying22 hva0) ?_
  refine sx_pure rfl rfl rfl (px_move rfl) ?_
  refine sx_pure rfl rfl rfl (px_len rfl Try.underlying22 hvb0) ?_
  refine sx_pure rfl rfl rfl (px_ne rfl rfl) ?_
  refine wl_nil ?_
  refine q_n (k3 _ _ ?_)
  refine sx_condP rfl (fun h210 => ?_) (fun h210 => ?_)
  ·
    refine sx_seq fun K4 k4 => ?_
    refine sx_region ?_
    refine sx_pure rfl rfl rfl (px_assign rfl) ?_
    refine wl_nil ?_
    refine q_n (k4 _ _ ?_)
    refine sx_retc ?_
    refine q_r (sx_ret1 Try.results46 rfl ?_)
    exact ⟨bFalse (hneq (by omega)), (Chg.refl 0 0 _)⟩
  ·
    refine sx_skip ?_
    refine q_n (k2 _ _ ?_)
    refine sx_seq fun K5 k5 => ?_
    refine sx_seq fun K6 k6 => ?_
    refine sx_region ?_
    refine sx_pure rfl rfl rfl (px_assign rfl) ?_
    refine wl_nil ?_
    refine q_n (k6 _ _ ?_)
    refine sx_block ?_
    refine sx_loop (fun mm aa w' => ∃ (k : Nat), Agr 26 [(0, va), (1, vb), (5, .int .i64 ↑k)] aa ∧ Chg 0 0 w w' ∧ (mm = zs.length - k) ∧ (k ≤ zs.length) ∧ (zs.take k = ys.take k)) (_) (fun a ha => ⟨0, ha.sub (Sub.cons (t := 0) rfl (.cons (t := 1) rfl (.cons (t := 5) (look_int (t := 5) rfl (by first | omega | simp)) (.nil)))), Chg.refl _ _ _, rfl, by omega, by simp⟩) ?_
    rintro mm aa wl7 ⟨k, hAwl7, cwl7, hm, hk, he⟩
    refine (show cw Try.prog 26 _ _ _ wl7 from ?_) aa hAwl7
    clear hAwl7
    have zwl7 := cwl7.size
    refine sx_seq fun K8 k8 => ?_
    refine sx_seq fun K9 k9 => ?_
    refine sx_region ?_
    refine sx_pure rfl rfl rfl (px_move rfl) ?_
    refine sx_pure rfl rfl rfl (px_move rfl) ?_
    have f10 := hva0.ext cwl7
    refine sx_pure rfl rfl rfl (px_len rfl Try.underlying22 f10) ?_
    refine sx_pure rfl rfl rfl (px_lt rfl rfl) ?_
    refine wl_nil ?_
    refine q_n (k9 _ _ ?_)
    refine sx_condP rfl (fun h213 => ?_) (fun h213 => ?_)
    ·
      refine sx_skip ?_
      refine q_n (k8 _ _ ?_)
      refine sx_seq fun K11 k11 => ?_
      refine sx_block ?_
      refine sx_seq fun K12 k12 => ?_
      have f13 := hvb0.ext cwl7
      refine dx_region (fun w' => Chg 0 0 wl7 w') (by kernel_rfl) (Chg.zero (Chg.drew _)) ?_
      have d14 := Chg.drew wl7
      have s14 : Chg 0 0 wl7 (World.drew wl7) := Chg.zero (Chg.drew _)
      have y14 : (World.drew wl7).heap.size = wl7.heap.size := rfl
      generalize World.drew wl7 = w14 at *
      have zw14 := d14.size
      refine dx_take 0 rfl rfl rfl rfl (by kernel_rfl) (by kernel_rfl) (by kernel_rfl) s14 (fun _ hS => px_move rfl) ?_
      refine dx_take 1 rfl rfl rfl rfl (by kernel_rfl) (by kernel_rfl) (by kernel_rfl) s14 (fun _ hS => px_move rfl) ?_
      refine dx_take 2 rfl rfl rfl rfl (by kernel_rfl) (by kernel_rfl) (by kernel_rfl) s14 (fun _ hS => px_index1 (j := k) rfl rfl (by omega) Try.underlying22 Try.sizeOf3 ((f10).chg hS (by omega)) (by omega)) ?_
      refine dx_take 3 rfl rfl rfl rfl (by kernel_rfl) (by kernel_rfl) (by kernel_rfl) s14 (fun _ hS => px_load rfl (((f10).chg hS (by omega)).load1 (at_int (by omega)) Try.isAgg3)) ?_
      refine dx_take 4 rfl rfl rfl rfl (by kernel_rfl) (by kernel_rfl) (by kernel_rfl) s14 (fun _ hS => px_move rfl) ?_
      refine dx_take 5 rfl rfl rfl rfl (by kernel_rfl) (by kernel_rfl) (by kernel_rfl) s14 (fun _ hS => px_move rfl) ?_
      refine dx_take 6 rfl rfl rfl rfl (by kernel_rfl) (by kernel_rfl) (by kernel_rfl) s14 (fun _ hS => px_index1 (j := k) rfl rfl (by omega) Try.underlying22 Try.sizeOf3 ((f13).chg hS (by omega)) (by omega)) ?_
      refine dx_take 7 rfl rfl rfl rfl (by kernel_rfl) (by kernel_rfl) (by kernel_rfl) s14 (fun _ hS => px_load rfl (((f13).chg hS (by omega)).load1 (at_int (by omega)) Try.isAgg3)) ?_
      refine dx_take 8 rfl rfl rfl rfl (by kernel_rfl) (by kernel_rfl) (by kernel_rfl) s14 (fun _ hS => px_ne rfl rfl) ?_
      refine dx_done (by kernel_rfl) ?_
      refine q_n (k12 _ _ ?_)
      refine sx_sub (Sub.cons (t := 0) rfl (.cons (t := 1) rfl (.cons (t := 5) rfl (.cons (t := 25) rfl (.nil))))) ?_
      refine sx_condP rfl (fun h214 => ?_) (fun h214 => ?_)
      ·
        refine sx_seq fun K15 k15 => ?_
        refine sx_region ?_
        refine sx_pure rfl rfl rfl (px_assign rfl) ?_
        refine wl_nil ?_
        refine q_n (k15 _ _ ?_)
        refine sx_retc ?_
        refine q_br (q_r (q_r (q_br (q_r (sx_ret1 Try.results46 rfl ?_)))))
        have q16 := Chg.step (l := 0) (h := 0) cwl7 d14 (by omega)
        exact ⟨bFalse (ne_of_getD h214), q16⟩
      ·
        refine sx_skip ?_
        refine q_bn (q_n (k11 _ _ ?_))
        refine sx_region ?_
        refine sx_pure rfl rfl rfl (px_move rfl) ?_
        refine sx_pure rfl rfl rfl (px_add rfl rfl (by omega)) ?_
        refine sx_pure rfl rfl rfl (px_assign rfl) ?_
        refine wl_nil ?_
        have q17 := Chg.step (l := 0) (h := 0) cwl7 d14 (by omega)
        exact fun a ha => ⟨_, by omega, (k + 1), ha.sub (Sub.cons (t := 0) rfl (.cons (t := 1) rfl (.cons (t := 5) (look_int (t := 5) rfl (by first | omega | simp)) (.nil)))), q17, rfl, by omega, take_succ_eq he (by omega) (by omega) (Decidable.not_not.1 h214)⟩
    ·
      refine sx_exit ?_
      refine q_e (q_e (q_bx (q_n (k5 _ _ ?_))))
      refine sx_seq fun K18 k18 => ?_
      refine sx_region ?_
      refine sx_pure rfl rfl rfl (px_assign rfl) ?_
      refine wl_nil ?_
      refine q_n (k18 _ _ ?_)
      refine sx_retc ?_
      refine sx_ret1 Try.results46 rfl ?_
      have e1 : k = zs.length := by omega
      rw [e1, List.take_length, List.take_of_length_le (by omega)] at he
      exact ⟨bTrue he, cwl7⟩

theorem c_eqSigned {w : World} {n1 : Bool} {v1 : Value} {lv1 uv1 : Nat} {z1 : List Int} {n2 : Bool} {v2 : Value} {lv2 uv2 : Nat} {z2 : List Int} (hv1 : Sl w lv1 uv1 v1 (z1)) (hv2 : Sl w lv2 uv2 v2 (z2)) (h63 : z1.length ≤ 4611686018427387904 ∧ z2.length ≤ 4611686018427387904) :
    Ret Try.prog 45 [.agg #[.bool n1, v1], .agg #[.bool n2, v2]] w fun v w' => v = .bool (decide (n1 = n2 ∧ z1 = z2)) ∧ Chg 0 0 w w' := by
  have hv10 := hv1.fit
  have hv20 := hv2.fit
  refine sx_enter Try.func45 rfl Try.ntmps45 (Nat.le_of_ble_eq_true rfl) ?_
  refine sx_seq fun K1 k1 => ?_
  refine sx_region ?_
  refine sx_box [.bool n1, v1] rfl rfl rfl (fun b2 w3 eb2 sb2 fb2 cb2 => ?_)
  have zw3 := cb2.size
  refine sx_box [.bool n2, v2] rfl rfl rfl (fun b4 w5 eb4 sb4 fb4 cb4 => ?_)
  have zw5 := cb4.size
  refine sx_pure rfl rfl rfl (px_assign rfl) ?_
  refine wl_nil ?_
  refine q_n (k1 _ _ ?_)
  refine sx_seq fun K6 k6 => ?_
  refine sx_seq fun K7 k7 => ?_
  refine sx_region ?_
  refine sx_pure rfl rfl rfl (px_field rfl xfld29x0) ?_
  have f8 := fb2.ext cb4
  refine sx_pure rfl rfl rfl (px_load rfl (f8.load1 rfl Try.isAgg4)) ?_
  refine sx_pure rfl rfl rfl (px_field rfl xfld29x0) ?_
  refine sx_pure rfl rfl rfl (px_load rfl (fb4.load1 rfl Try.isAgg4)) ?_
  refine sx_pure rfl rfl rfl (px_neB Try.underlying4 rfl rfl) ?_
  refine wl_nil ?_
  refine q_n (k7 _ _ ?_)
  refine sx_condB rfl (fun h263 => ?_) (fun h263 => ?_)
  ·
    refine sx_seq fun K9 k9 => ?_
    refine sx_region ?_
    refine sx_pure rfl rfl rfl (px_assign rfl) ?_
    refine wl_nil ?_
    refine q_n (k9 _ _ ?_)
    refine sx_retc ?_
    refine q_r (sx_ret1 Try.results45 rfl ?_)
    have q10 := Chg.step (l := 0) (h := 0) cb2 cb4 (by omega)
    exact ⟨(by first | exact bTrue (by grind) | exact bFalse (by grind) | exact bIff (by grind)), q10⟩
  ·
    refine sx_skip ?_
    refine q_n (k6 _ _ ?_)
    refine sx_seq fun K11 k11 => ?_
    refine sx_seq fun K12 k12 => ?_
    refine sx_region ?_
    refine sx_pure rfl rfl rfl (px_field rfl xfld29x1) ?_
    refine sx_pure rfl rfl rfl (px_load rfl (f8.load1 rfl Try.isAgg22)) ?_
    refine sx_pure rfl rfl rfl (px_field rfl xfld29x1) ?_
    refine sx_pure rfl rfl rfl (px_load rfl (fb4.load1 rfl Try.isAgg22)) ?_
    have f13 := hv10.ext cb2
    have f14 := f13.ext cb4
    have f15 := hv20.ext cb2
    have f16 := f15.ext cb4
    refine sx_call rfl rfl Try.call46 (c_eqIntS f14 f16 (by omega)) (fun v17 w17 p17 => ?_)
    obtain ⟨rfl, c17⟩ := p17
    have zw17 := c17.size
    refine sx_pure rfl rfl rfl (px_notP rfl) ?_
    refine wl_nil ?_
    refine q_n (k12 _ _ ?_)
    refine sx_sub (Sub.cons (t := 4) rfl (.cons (t := 15) rfl (.nil))) ?_
    refine sx_condP rfl (fun h266 => ?_) (fun h266 => ?_)
    ·
      refine sx_seq fun K18 k18 => ?_
      refine sx_region ?_
      refine sx_pure rfl rfl rfl (px_assign rfl) ?_
      refine wl_nil ?_
      refine q_n (k18 _ _ ?_)
      refine sx_retc ?_
      refine q_r (sx_ret1 Try.results45 rfl ?_)
      have q19 := Chg.step (l := 0) (h := 0) cb2 cb4 (by omega)
      have q20 := Chg.step (l := 0) (h := 0) q19 c17 (by omega)
      exact ⟨(by first | exact bTrue (by grind) | exact bFalse (by grind) | exact bIff (by grind)), q20⟩
    ·
      refine sx_skip ?_
      refine q_n (k11 _ _ ?_)
      refine sx_seq fun K21 k21 => ?_
      refine sx_region ?_
      refine sx_pure rfl rfl rfl (px_assign rfl) ?_
      refine wl_nil ?_
      refine q_n (k21 _ _ ?_)
      refine sx_retc ?_
      refine sx_ret1 Try.results45 rfl ?_
      have q22 := Chg.step (l := 0) (h := 0) cb2 cb4 (by omega)
      have q23 := Chg.step (l := 0) (h := 0) q22 c17 (by omega)
      exact ⟨(by first | exact bTrue (by grind) | exact bFalse (by grind) | exact bIff (by grind)), q23⟩

theorem c_eqDec {w : World} {n1 : Bool} {v1 : Value} {lv1 uv1 : Nat} {z1 : List Int} {p1 : Int} {n2 : Bool} {v2 : Value} {lv2 uv2 : Nat} {z2 : List Int} {p2 : Int} (hv1 : Sl w lv1 uv1 v1 (z1)) (hv2 : Sl w lv2 uv2 v2 (z2)) (h63 : z1.length ≤ 4611686018427387904 ∧ z2.length ≤ 4611686018427387904) :
    Ret Try.prog 19 [.agg #[.bool n1, v1, .int .i64 p1], .agg #[.bool n2, v2, .int .i64 p2]] w fun v w' => v = .bool (decide (n1 = n2 ∧ z1 = z2 ∧ p1 = p2)) ∧ Chg 0 0 w w' := by
  have hv10 := hv1.fit
  have hv20 := hv2.fit
  refine sx_enter Try.func19 rfl Try.ntmps19 (Nat.le_of_ble_eq_true rfl) ?_
  refine sx_seq fun K1 k1 => ?_
  refine sx_region ?_
  refine sx_box [.bool n1, v1, .int .i64 p1] rfl rfl rfl (fun b2 w3 eb2 sb2 fb2 cb2 => ?_)
  have zw3 := cb2.size
  refine sx_box [.bool n2, v2, .int .i64 p2] rfl rfl rfl (fun b4 w5 eb4 sb4 fb4 cb4 => ?_)
  have zw5 := cb4.size
  refine sx_pure rfl rfl rfl (px_assign rfl) ?_
  refine wl_nil ?_
  refine q_n (k1 _ _ ?_)
  refine sx_seq fun K6 k6 => ?_
  refine sx_seq fun K7 k7 => ?_
  refine sx_region ?_
  refine sx_pure rfl rfl rfl (px_field rfl xfld31x0) ?_
  have f8 := fb2.ext cb4
  refine sx_pure rfl rfl rfl (px_load rfl (f8.loadA (vs := [.bool n1, v1]) (look_lit rfl) Try.isAgg29 Try.sizeOf29)) ?_
  refine sx_pure rfl rfl rfl (px_field rfl xfld31x0) ?_
  refine sx_pure rfl rfl rfl (px_load rfl (fb4.loadA (vs := [.bool n2, v2]) (look_lit rfl) Try.isAgg29 Try.sizeOf29)) ?_
  have f9 := hv10.ext cb2
  have f10 := f9.ext cb4
  have f11 := hv20.ext cb2
  have f12 := f11.ext cb4
  refine sx_call rfl rfl Try.call45 (c_eqSigned f10 f12 (by omega)) (fun v13 w13 p13 => ?_)
  obtain ⟨rfl, c13⟩ := p13
  have zw13 := c13.size
  refine sx_pure rfl rfl rfl (px_notP rfl) ?_
  refine wl_nil ?_
  refine q_n (k7 _ _ ?_)
  refine sx_condP rfl (fun h405 => ?_) (fun h405 => ?_)
  ·
    refine sx_seq fun K14 k14 => ?_
    refine sx_region ?_
    refine sx_pure rfl rfl rfl (px_assign rfl) ?_
    refine wl_nil ?_
    refine q_n (k14 _ _ ?_)
    refine sx_retc ?_
    refine q_r (sx_ret1 Try.results19 rfl ?_)
    have q15 := Chg.step (l := 0) (h := 0) cb2 cb4 (by omega)
    have q16 := Chg.step (l := 0) (h := 0) q15 c13 (by omega)
    exact ⟨(by first | exact bTrue (by grind) | exact bFalse (by grind) | exact bIff (by grind)), q16⟩
  ·
    refine sx_skip ?_
    refine q_n (k6 _ _ ?_)
    refine sx_seq fun K17 k17 => ?_
    refine sx_seq fun K18 k18 => ?_
    refine sx_region ?_
    refine sx_pure rfl rfl rfl (px_field rfl xfld31x1) ?_
    have f19 := f8.ext c13
    refine sx_pure rfl rfl rfl (px_load rfl (f19.load1 rfl Try.isAgg3)) ?_
    refine sx_pure rfl rfl rfl (px_field rfl xfld31x1) ?_
    have f20 := fb4.ext c13
    refine sx_pure rfl rfl rfl (px_load rfl (f20.load1 rfl Try.isAgg3)) ?_
    refine sx_pure rfl rfl rfl (px_ne rfl rfl) ?_
    refine wl_nil ?_
    refine q_n (k18 _ _ ?_)
    refine sx_sub (Sub.cons (t := 4) rfl (.cons (t := 15) rfl (.nil))) ?_
    refine sx_condP rfl (fun h408 => ?_) (fun h408 => ?_)
    ·
      refine sx_seq fun K21 k21 => ?_
      refine sx_region ?_
      refine sx_pure rfl rfl rfl (px_assign rfl) ?_
      refine wl_nil ?_
      refine q_n (k21 _ _ ?_)
      refine sx_retc ?_
      refine q_r (sx_ret1 Try.results19 rfl ?_)
      have q22 := Chg.step (l := 0) (h := 0) cb2 cb4 (by omega)
      have q23 := Chg.step (l := 0) (h := 0) q22 c13 (by omega)
      exact ⟨(by first | exact bTrue (by grind) | exact bFalse (by grind) | exact bIff (by grind)), q23⟩
    ·
      refine sx_skip ?_
      refine q_n (k17 _ _ ?_)
      refine sx_seq fun K24 k24 => ?_
      refine sx_region ?_
      refine sx_pure rfl rfl rfl (px_assign rfl) ?_
      refine wl_nil ?_
      refine q_n (k24 _ _ ?_)
      refine sx_retc ?_
      refine sx_ret1 Try.results19 rfl ?_
      have q25 := Chg.step (l := 0) (h := 0) cb2 cb4 (by omega)
      have q26 := Chg.step (l := 0) (h := 0) q25 c13 (by omega)
      exact ⟨(by first | exact bTrue (by grind) | exact bFalse (by grind) | exact bIff (by grind)), q26⟩

theorem c_markIntS {w : World} {va : Value} {lva uva : Nat} {zs : List Int} {n : Int} (hva : OwnI w lva uva va intT (zs)) (h63 : zs.length ≤ 1048576) (hn : 0 ≤ n ∧ n ≤ 4611686018427387904) :
    Ret Try.prog 48 [va, .int .i64 n] w fun v w' => v = .int .i64 (n + ↑(zs).length) ∧ OwnI w' (lva) (uva) va intT (mk n (zs).length) ∧ Chg lva uva w w' := by
  refine sx_enter Try.func48 rfl Try.ntmps48 (Nat.le_of_ble_eq_true rfl) ?_
  refine sx_seq fun K1 k1 => ?_
  refine sx_region ?_
  refine sx_pure rfl rfl rfl (px_assign rfl) ?_
  refine wl_nil ?_
  refine q_n (k1 _ _ ?_)
  refine sx_seq fun K2 k2 => ?_
  refine sx_seq fun K3 k3 => ?_
  refine sx_region ?_
  refine sx_pure rfl rfl rfl (px_assign rfl) ?_
  refine wl_nil ?_
  refine q_n (k3 _ _ ?_)
  refine sx_block ?_
  refine sx_loop (fun mm aa w' => ∃ (k : Nat) (os : List Int), Agr 19 [(0, va), (1, .int .i64 (n + ↑k)), (5, .int .i64 ↑k)] aa ∧ Chg lva uva w w' ∧ Own w' lva uva va intT os.length 1 (os.map (Value.int .i64)) ∧ (mm = zs.length - k) ∧ (k ≤ zs.length) ∧ (os.length = zs.length) ∧ (os.take k = mk n k)) (_) (fun a ha => ⟨0, zs, ha.sub (Sub.cons (t := 0) rfl (.cons (t := 1) (look_int (t := 1) rfl (by first | omega | simp)) (.cons (t := 5) (look_int (t := 5) rfl (by first | omega | simp)) (.nil)))), Chg.refl _ _ _, hva, rfl, by omega, rfl, rfl⟩) ?_
  rintro mm aa wl4 ⟨k, os, hAwl4, cwl4, hs_va, hm, hk, ho, he⟩
  refine (show cw Try.prog 19 _ _ _ wl4 from ?_) aa hAwl4
  clear hAwl4
  have zwl4 := cwl4.size
  refine sx_seq fun K5 k5 => ?_
  refine sx_seq fun K6 k6 => ?_
  refine sx_region ?_
  refine sx_pure rfl rfl rfl (px_move rfl) ?_
  refine sx_pure rfl rfl rfl (px_move rfl) ?_
  refine sx_pure rfl rfl rfl (px_len rfl Try.underlying22 hs_va.sv) ?_
  refine sx_pure rfl rfl rfl (px_lt rfl rfl) ?_
  refine wl_nil ?_
  refine q_n (k6 _ _ ?_)
  refine sx_condP rfl (fun h222 => ?_) (fun h222 => ?_)
  ·
    refine sx_skip ?_
    refine q_n (k5 _ _ ?_)
    refine sx_seq fun K7 k7 => ?_
    refine sx_block ?_
    refine sx_seq fun K8 k8 => ?_
    refine sx_region ?_
    refine sx_pure rfl rfl rfl (px_move rfl) ?_
    refine sx_pure rfl rfl rfl (px_move rfl) ?_
    refine sx_pure rfl rfl rfl (px_move rfl) ?_
    refine sx_pure rfl rfl rfl (px_index1 (j := k) rfl rfl (by omega) Try.underlying22 Try.sizeOf3 hs_va.sv (by omega)) ?_
    refine sx_storeO rfl rfl hs_va (by first | omega | (simp only [List.length_map]; omega)) Try.sizeOf3 rfl (fun w9 sw9 fw9 cw9 => ?_)
    have zw9 := cw9.size
    have nw9 := fw9.set
    refine wl_nil ?_
    refine q_n (k8 _ _ ?_)
    refine sx_region ?_
    refine sx_pure rfl rfl rfl (px_move rfl) ?_
    refine sx_pure rfl rfl rfl (px_add rfl rfl (by omega)) ?_
    refine sx_pure rfl rfl rfl (px_assign rfl) ?_
    refine wl_nil ?_
    refine q_bn (q_n (k7 _ _ ?_))
    refine sx_region ?_
    refine sx_pure rfl rfl rfl (px_move rfl) ?_
    refine sx_pure rfl rfl rfl (px_add rfl rfl (by omega)) ?_
    refine sx_pure rfl rfl rfl (px_assign rfl) ?_
    refine wl_nil ?_
    have q10 := Chg.step (l := lva) (h := uva) cwl4 cw9 (by omega)
    exact fun a ha => ⟨_, by omega, (k + 1), (os.set k (n + ↑k)), ha.sub (Sub.cons (t := 0) rfl (.cons (t := 1) (look_int (t := 1) rfl (by first | omega | simp)) (.cons (t := 5) (look_int (t := 5) rfl (by first | omega | simp)) (.nil)))), q10, (nw9.mono (by omega) (by omega)), rfl, by omega, by simp [ho], mk_set he (by omega)⟩
  ·
    refine sx_exit ?_
    refine q_e (q_e (q_bx (q_n (k2 _ _ ?_))))
    refine sx_seq fun K11 k11 => ?_
    refine sx_region ?_
    refine sx_pure rfl rfl rfl (px_move rfl) ?_
    refine sx_pure rfl rfl rfl (px_assign rfl) ?_
    refine wl_nil ?_
    refine q_n (k11 _ _ ?_)
    refine sx_retc ?_
    refine sx_ret1 Try.results48 rfl ?_
    have ek : k = zs.length := by omega
    subst ek
    rw [← ho, List.take_length, ho] at he
    subst he
    exact ⟨rfl, hs_va, cwl4⟩

theorem c_markSigned {w : World} {n1 : Bool} {v1 : Value} {lv1 uv1 : Nat} {z1 : List Int} {n : Int} (hv1 : OwnI w lv1 uv1 v1 intT (z1)) (h63 : z1.length ≤ 1048576) (hn : 0 ≤ n ∧ n ≤ 4611686018427387904) :
    Ret Try.prog 47 [.agg #[.bool n1, v1], .int .i64 n] w fun v w' => v = .int .i64 (n + ↑(z1).length) ∧ OwnI w' (lv1) (uv1) v1 intT (mk n (z1).length) ∧ Chg lv1 uv1 w w' := by
  refine sx_enter Try.func47 rfl Try.ntmps47 (Nat.le_of_ble_eq_true rfl) ?_
  refine sx_seq fun K1 k1 => ?_
  refine sx_region ?_
  refine sx_box [.bool n1, v1] rfl rfl rfl (fun b2 w3 eb2 sb2 fb2 cb2 => ?_)
  have zw3 := cb2.size
  refine sx_pure rfl rfl rfl (px_assign rfl) ?_
  refine wl_nil ?_
  refine q_n (k1 _ _ ?_)
  refine sx_seq fun K4 k4 => ?_
  refine sx_region ?_
  refine sx_pure rfl rfl rfl (px_field rfl xfld29x1) ?_
  refine sx_pure rfl rfl rfl (px_load rfl (fb2.load1 rfl Try.isAgg22)) ?_
  refine sx_pure rfl rfl rfl (px_move rfl) ?_
  have f5 := hv1.ext cb2
  refine sx_call rfl rfl Try.call48 (c_markIntS f5 (by omega) (by omega)) (fun v6 w6 p6 => ?_)
  obtain ⟨rfl, ova_6, c6⟩ := p6
  have zw6 := c6.size
  refine sx_pure rfl rfl rfl (px_assign rfl) ?_
  refine wl_nil ?_
  refine q_n (k4 _ _ ?_)
  refine sx_seq fun K7 k7 => ?_
  refine sx_region ?_
  refine sx_pure rfl rfl rfl (px_move rfl) ?_
  refine sx_pure rfl rfl rfl (px_assign rfl) ?_
  refine wl_nil ?_
  refine q_n (k7 _ _ ?_)
  refine sx_retc ?_
  refine sx_ret1 Try.results47 rfl ?_
  have q8 := Chg.step (l := lv1) (h := uv1) (Chg.zero (l := lv1) (h := uv1) cb2) c6 (by omega)
  exact ⟨rfl, ova_6, q8⟩

theorem c_markDec {w : World} {n1 : Bool} {v1 : Value} {lv1 uv1 : Nat} {z1 : List Int} {p1 : Int} {n : Int} (hv1 : OwnI w lv1 uv1 v1 intT (z1)) (h63 : z1.length ≤ 1048576) (hn : 0 ≤ n ∧ n ≤ 4611686018427387904) :
    Ret Try.prog 27 [.agg #[.bool n1, v1, .int .i64 p1], .int .i64 n] w fun v w' => v = .int .i64 (n + ↑(z1).length) ∧ OwnI w' (lv1) (uv1) v1 intT (mk n (z1).length) ∧ Chg lv1 uv1 w w' := by
  refine sx_enter Try.func27 rfl Try.ntmps27 (Nat.le_of_ble_eq_true rfl) ?_
  refine sx_seq fun K1 k1 => ?_
  refine sx_region ?_
  refine sx_box [.bool n1, v1, .int .i64 p1] rfl rfl rfl (fun b2 w3 eb2 sb2 fb2 cb2 => ?_)
  have zw3 := cb2.size
  refine sx_pure rfl rfl rfl (px_assign rfl) ?_
  refine wl_nil ?_
  refine q_n (k1 _ _ ?_)
  refine sx_seq fun K4 k4 => ?_
  refine sx_region ?_
  refine sx_pure rfl rfl rfl (px_field rfl xfld31x0) ?_
  refine sx_pure rfl rfl rfl (px_load rfl (fb2.loadA (vs := [.bool n1, v1]) (look_lit rfl) Try.isAgg29 Try.sizeOf29)) ?_
  refine sx_pure rfl rfl rfl (px_move rfl) ?_
  have f5 := hv1.ext cb2
  refine sx_call rfl rfl Try.call47 (c_markSigned f5 (by omega) (by omega)) (fun v6 w6 p6 => ?_)
  obtain ⟨rfl, ov1_6, c6⟩ := p6
  have zw6 := c6.size
  refine sx_pure rfl rfl rfl (px_assign rfl) ?_
  refine wl_nil ?_
  refine q_n (k4 _ _ ?_)
  refine sx_seq fun K7 k7 => ?_
  refine sx_region ?_
  refine sx_pure rfl rfl rfl (px_move rfl) ?_
  refine sx_pure rfl rfl rfl (px_assign rfl) ?_
  refine wl_nil ?_
  refine q_n (k7 _ _ ?_)
  refine sx_retc ?_
  refine sx_ret1 Try.results27 rfl ?_
  have q8 := Chg.step (l := lv1) (h := uv1) (Chg.zero (l := lv1) (h := uv1) cb2) c6 (by omega)
  exact ⟨rfl, ov1_6, q8⟩

theorem c_heldIntS {w : World} {va : Value} {lva uva : Nat} {zs : List Int} {n : Int} (hva : Sl w lva uva va (zs)) (h63 : zs.length ≤ 1048576) (hn : 0 ≤ n ∧ n ≤ 4611686018427387904) (hz : zs = mk n zs.length) :
    Ret Try.prog 94 [va, .int .i64 n] w fun v w' => v = .int .i64 (n + ↑(zs).length) ∧ Chg 0 0 w w' := by
  have hva0 := hva.fit
  refine sx_enter Try.func94 rfl Try.ntmps94 (Nat.le_of_ble_eq_true rfl) ?_
  refine sx_seq fun K1 k1 => ?_
  refine sx_region ?_
  refine sx_pure rfl rfl rfl (px_assign rfl) ?_
  refine wl_nil ?_
  refine q_n (k1 _ _ ?_)
  refine sx_seq fun K2 k2 => ?_
  refine sx_seq fun K3 k3 => ?_
  refine sx_region ?_
  refine sx_pure rfl rfl rfl (px_assign rfl) ?_
  refine wl_nil ?_
  refine q_n (k3 _ _ ?_)
  refine sx_block ?_
  refine sx_loop (fun mm aa w' => ∃ (k : Nat), Agr 21 [(0, va), (1, .int .i64 (n + ↑k)), (5, .int .i64 ↑k)] aa ∧ Chg 0 0 w w' ∧ (mm = zs.length - k) ∧ (k ≤ zs.length)) (_) (fun a ha => ⟨0, ha.sub (Sub.cons (t := 0) rfl (.cons (t := 1) (look_int (t := 1) rfl (by first | omega | simp)) (.cons (t := 5) (look_int (t := 5) rfl (by first | omega | simp)) (.nil)))), Chg.refl _ _ _, rfl, by omega⟩) ?_
  rintro mm aa wl4 ⟨k, hAwl4, cwl4, hm, hk⟩
  refine (show cw Try.prog 21 _ _ _ wl4 from ?_) aa hAwl4
  clear hAwl4
  have zwl4 := cwl4.size
  refine sx_seq fun K5 k5 => ?_
  refine sx_seq fun K6 k6 => ?_
  refine sx_region ?_
  refine sx_pure rfl rfl rfl (px_move rfl) ?_
  refine sx_pure rfl rfl rfl (px_move rfl) ?_
  have f7 := hva0.ext cwl4
  refine sx_pure rfl rfl rfl (px_len rfl Try.underlying22 f7) ?_
  refine sx_pure rfl rfl rfl (px_lt rfl rfl) ?_
  refine wl_nil ?_
  refine q_n (k6 _ _ ?_)
  refine sx_condP rfl (fun h230 => ?_) (fun h230 => ?_)
  ·
    refine sx_skip ?_
    refine q_n (k5 _ _ ?_)
    refine sx_seq fun K8 k8 => ?_
    refine sx_block ?_
    refine sx_seq fun K9 k9 => ?_
    refine sx_seq fun K10 k10 => ?_
    refine sx_region ?_
    refine sx_pure rfl rfl rfl (px_move rfl) ?_
    refine sx_pure rfl rfl rfl (px_move rfl) ?_
    refine sx_pure rfl rfl rfl (px_index1 (j := k) rfl rfl (by omega) Try.underlying22 Try.sizeOf3 f7 (by omega)) ?_
    refine sx_pure rfl rfl rfl (px_load rfl (f7.load1 (at_int (by omega)) Try.isAgg3)) ?_
    refine sx_pure rfl rfl rfl (px_move rfl) ?_
    refine sx_pure rfl rfl rfl (px_ne rfl rfl) ?_
    refine wl_nil ?_
    refine q_n (k10 _ _ ?_)
    have h231 : ¬ (((zs).getD k 0 : Int) ≠ n + ↑k) := fun h => h (by rw [hz]; exact mk_getD (by omega))
    refine sx_condPF rfl h231 ?_
    refine sx_skip ?_
    refine q_n (k9 _ _ ?_)
    refine sx_region ?_
    refine sx_pure rfl rfl rfl (px_move rfl) ?_
    refine sx_pure rfl rfl rfl (px_add rfl rfl (by omega)) ?_
    refine sx_pure rfl rfl rfl (px_assign rfl) ?_
    refine wl_nil ?_
    refine q_bn (q_n (k8 _ _ ?_))
    refine sx_sub (Sub.cons (t := 0) rfl (.cons (t := 1) rfl (.cons (t := 5) rfl (.nil)))) ?_
    refine sx_region ?_
    refine sx_pure rfl rfl rfl (px_move rfl) ?_
    refine sx_pure rfl rfl rfl (px_add rfl rfl (by omega)) ?_
    refine sx_pure rfl rfl rfl (px_assign rfl) ?_
    refine wl_nil ?_
    exact fun a ha => ⟨_, by omega, (k + 1), ha.sub (Sub.cons (t := 0) rfl (.cons (t := 1) (look_int (t := 1) rfl (by first | omega | simp)) (.cons (t := 5) (look_int (t := 5) rfl (by first | omega | simp)) (.nil)))), cwl4, rfl, by omega⟩
  ·
    refine sx_exit ?_
    refine q_e (q_e (q_bx (q_n (k2 _ _ ?_))))
    refine sx_seq fun K11 k11 => ?_
    refine sx_region ?_
    refine sx_pure rfl rfl rfl (px_move rfl) ?_
    refine sx_pure rfl rfl rfl (px_assign rfl) ?_
    refine wl_nil ?_
    refine q_n (k11 _ _ ?_)
    refine sx_retc ?_
    refine sx_ret1 Try.results94 rfl ?_
    have ek : k = zs.length := by omega
    subst ek
    exact ⟨rfl, cwl4⟩

theorem c_heldSigned {w : World} {n1 : Bool} {v1 : Value} {lv1 uv1 : Nat} {z1 : List Int} {n : Int} (hv1 : Sl w lv1 uv1 v1 (z1)) (h63 : z1.length ≤ 1048576) (hn : 0 ≤ n ∧ n ≤ 4611686018427387904) (hz : z1 = mk n z1.length) :
    Ret Try.prog 55 [.agg #[.bool n1, v1], .int .i64 n] w fun v w' => v = .int .i64 (n + ↑(z1).length) ∧ Chg 0 0 w w' := by
  have hv10 := hv1.fit
  refine sx_enter Try.func55 rfl Try.ntmps55 (Nat.le_of_ble_eq_true rfl) ?_
  refine sx_seq fun K1 k1 => ?_
  refine sx_region ?_
  refine sx_box [.bool n1, v1] rfl rfl rfl (fun b2 w3 eb2 sb2 fb2 cb2 => ?_)
  have zw3 := cb2.size
  refine sx_pure rfl rfl rfl (px_assign rfl) ?_
  refine wl_nil ?_
  refine q_n (k1 _ _ ?_)
  refine sx_seq fun K4 k4 => ?_
  refine sx_region ?_
  refine sx_pure rfl rfl rfl (px_field rfl xfld29x1) ?_
  refine sx_pure rfl rfl rfl (px_load rfl (fb2.load1 rfl Try.isAgg22)) ?_
  refine sx_pure rfl rfl rfl (px_move rfl) ?_
  have f5 := hv10.ext cb2
  refine sx_call rfl rfl Try.call94 (c_heldIntS f5 (by omega) (by omega) (by first | assumption | simp [mk_length])) (fun v6 w6 p6 => ?_)
  obtain ⟨rfl, c6⟩ := p6
  have zw6 := c6.size
  refine sx_pure rfl rfl rfl (px_assign rfl) ?_
  refine wl_nil ?_
  refine q_n (k4 _ _ ?_)
  refine sx_seq fun K7 k7 => ?_
  refine sx_seq fun K8 k8 => ?_
  refine sx_region ?_
  refine sx_pure rfl rfl rfl (px_move rfl) ?_
  refine sx_pure rfl rfl rfl (px_lt rfl rfl) ?_
  refine wl_nil ?_
  refine q_n (k8 _ _ ?_)
  have h279 : ¬ ((n + ↑(z1).length : Int) < 0) := by omega
  refine sx_condPF rfl h279 ?_
  refine sx_skip ?_
  refine q_n (k7 _ _ ?_)
  refine sx_seq fun K9 k9 => ?_
  refine sx_region ?_
  refine sx_pure rfl rfl rfl (px_move rfl) ?_
  refine sx_pure rfl rfl rfl (px_assign rfl) ?_
  refine wl_nil ?_
  refine q_n (k9 _ _ ?_)
  refine sx_retc ?_
  refine sx_ret1 Try.results55 rfl ?_
  have q10 := Chg.step (l := 0) (h := 0) cb2 c6 (by omega)
  exact ⟨rfl, q10⟩

theorem c_heldDec {w : World} {n1 : Bool} {v1 : Value} {lv1 uv1 : Nat} {z1 : List Int} {p1 : Int} {n : Int} (hv1 : Sl w lv1 uv1 v1 (z1)) (h63 : z1.length ≤ 1048576) (hn : 0 ≤ n ∧ n ≤ 4611686018427387904) (hz : z1 = mk n z1.length) :
    Ret Try.prog 28 [.agg #[.bool n1, v1, .int .i64 p1], .int .i64 n] w fun v w' => v = .int .i64 (n + ↑(z1).length) ∧ Chg 0 0 w w' := by
  have hv10 := hv1.fit
  refine sx_enter Try.func28 rfl Try.ntmps28 (Nat.le_of_ble_eq_true rfl) ?_
  refine sx_seq fun K1 k1 => ?_
  refine sx_region ?_
  refine sx_box [.bool n1, v1, .int .i64 p1] rfl rfl rfl (fun b2 w3 eb2 sb2 fb2 cb2 => ?_)
  have zw3 := cb2.size
  refine sx_pure rfl rfl rfl (px_assign rfl) ?_
  refine wl_nil ?_
  refine q_n (k1 _ _ ?_)
  refine sx_seq fun K4 k4 => ?_
  refine sx_region ?_
  refine sx_pure rfl rfl rfl (px_field rfl xfld31x0) ?_
  refine sx_pure rfl rfl rfl (px_load rfl (fb2.loadA (vs := [.bool n1, v1]) (look_lit rfl) Try.isAgg29 Try.sizeOf29)) ?_
  refine sx_pure rfl rfl rfl (px_move rfl) ?_
  have f5 := hv10.ext cb2
  refine sx_call rfl rfl Try.call55 (c_heldSigned f5 (by first | omega | (simp only [mk_length]; omega)) (by omega) (by first | assumption | simp [mk_length])) (fun v6 w6 p6 => ?_)
  obtain ⟨rfl, c6⟩ := p6
  have zw6 := c6.size
  refine sx_pure rfl rfl rfl (px_assign rfl) ?_
  refine wl_nil ?_
  refine q_n (k4 _ _ ?_)
  refine sx_seq fun K7 k7 => ?_
  refine sx_seq fun K8 k8 => ?_
  refine sx_region ?_
  refine sx_pure rfl rfl rfl (px_move rfl) ?_
  refine sx_pure rfl rfl rfl (px_lt rfl rfl) ?_
  refine wl_nil ?_
  refine q_n (k8 _ _ ?_)
  have h421 : ¬ ((n + ↑(z1).length : Int) < 0) := by omega
  refine sx_condPF rfl h421 ?_
  refine sx_skip ?_
  refine q_n (k7 _ _ ?_)
  refine sx_seq fun K9 k9 => ?_
  refine sx_region ?_
  refine sx_pure rfl rfl rfl (px_move rfl) ?_
  refine sx_pure rfl rfl rfl (px_assign rfl) ?_
  refine wl_nil ?_
  refine q_n (k9 _ _ ?_)
  refine sx_retc ?_
  refine sx_ret1 Try.results28 rfl ?_
  have q10 := Chg.step (l := 0) (h := 0) cb2 c6 (by omega)
  exact ⟨rfl, q10⟩

theorem law_DecMul {w : World} {n1 : Bool} {v1 : Value} {lv1 uv1 : Nat} {z1 : List Int} {p1 : Int} {n2 : Bool} {v2 : Value} {lv2 uv2 : Nat} {z2 : List Int} {p2 : Int} (hv1 : Sl w lv1 uv1 v1 (z1)) (hv2 : Sl w lv2 uv2 v2 (z2)) (bz1 : z1.length ≤ 9223372036854775807) (bz2 : z2.length ≤ 9223372036854775807) :
    Ret Try.prog 5 [.agg #[.bool n1, v1, .int .i64 p1], .agg #[.bool n2, v2, .int .i64 p2]] w fun v w' => v = .bool (true) ∧ Chg 0 0 w w' := by
  have hv10 := hv1.fit
  have hv20 := hv2.fit
  refine sx_enter Try.func5 rfl Try.ntmps5 (Nat.le_of_ble_eq_true rfl) ?_
  refine sx_seq fun K1 k1 => ?_
  refine sx_region ?_
  refine sx_box [.bool n1, v1, .int .i64 p1] rfl rfl rfl (fun b2 w3 eb2 sb2 fb2 cb2 => ?_)
  have zw3 := cb2.size
  refine sx_box [.bool n2, v2, .int .i64 p2] rfl rfl rfl (fun b4 w5 eb4 sb4 fb4 cb4 => ?_)
  have zw5 := cb4.size
  refine sx_pure rfl rfl rfl (px_assign rfl) ?_
  refine wl_nil ?_
  refine q_n (k1 _ _ ?_)
  refine sx_seq fun K6 k6 => ?_
  refine sx_region ?_
  refine sx_pure rfl rfl rfl (px_assign rfl) ?_
  refine wl_nil ?_
  refine q_n (k6 _ _ ?_)
  refine sx_seq fun K7 k7 => ?_
  refine sx_region ?_
  have f8 := fb2.ext cb4
  refine sx_pure rfl rfl rfl (px_load rfl (f8.loadA (vs := [.bool n1, v1, .int .i64 p1]) (look_lit rfl) Try.isAgg26 Try.sizeOf26)) ?_
  refine sx_pure rfl rfl rfl (px_move rfl) ?_
  have f9 := hv10.ext cb2
  have f10 := f9.ext cb4
  refine sx_call rfl rfl Try.call15 (c_szDec f10 (by omega) (by omega)) (fun v11 w11 p11 => ?_)
  obtain ⟨r11, rfl, hr11, c11⟩ := p11
  have zw11 := c11.size
  refine sx_pure rfl rfl rfl (px_assign rfl) ?_
  refine wl_nil ?_
  refine q_n (k7 _ _ ?_)
  refine sx_seq fun K12 k12 => ?_
  refine sx_seq fun K13 k13 => ?_
  refine sx_region ?_
  refine sx_pure rfl rfl rfl (px_move rfl) ?_
  refine sx_pure rfl rfl rfl (px_lt rfl rfl) ?_
  refine wl_nil ?_
  refine q_n (k13 _ _ ?_)
  refine sx_condP rfl (fun h4566 => ?_) (fun h4566 => ?_)
  ·
    refine sx_seq fun K14 k14 => ?_
    refine sx_region ?_
    refine sx_pure rfl rfl rfl (px_assign rfl) ?_
    refine wl_nil ?_
    refine q_n (k14 _ _ ?_)
    refine sx_retc ?_
    refine q_r (sx_ret1 Try.results5 rfl ?_)
    have q15 := Chg.step (l := 0) (h := 0) cb2 cb4 (by omega)
    have q16 := Chg.step (l := 0) (h := 0) q15 c11 (by omega)
    exact ⟨rfl, q16⟩
  ·
    refine sx_skip ?_
    refine q_n (k12 _ _ ?_)
    refine sx_seq fun K17 k17 => ?_
    refine sx_region ?_
    have f18 := fb4.ext c11
    refine sx_pure rfl rfl rfl (px_load rfl (f18.loadA (vs := [.bool n2, v2, .int .i64 p2]) (look_lit rfl) Try.isAgg26 Try.sizeOf26)) ?_
    refine sx_pure rfl rfl rfl (px_move rfl) ?_
    have f19 := hv20.ext cb2
    have f20 := f19.ext cb4
    have f21 := f20.ext c11
    refine sx_call rfl rfl Try.call15 (c_szDec f21 (by omega) (by omega)) (fun v22 w22 p22 => ?_)
    obtain ⟨r22, rfl, hr22, c22⟩ := p22
    have zw22 := c22.size
    refine sx_pure rfl rfl rfl (px_assign rfl) ?_
    refine wl_nil ?_
    refine q_n (k17 _ _ ?_)
    refine sx_seq fun K23 k23 => ?_
    refine sx_seq fun K24 k24 => ?_
    refine sx_region ?_
    refine sx_pure rfl rfl rfl (px_move rfl) ?_
    refine sx_pure rfl rfl rfl (px_lt rfl rfl) ?_
    refine wl_nil ?_
    refine q_n (k24 _ _ ?_)
    refine sx_sub (Sub.cons (t := 2) rfl (.cons (t := 3) rfl (.cons (t := 4) rfl (.cons (t := 26) rfl (.nil))))) ?_
    refine sx_condP rfl (fun h4570 => ?_) (fun h4570 => ?_)
    ·
      refine sx_seq fun K25 k25 => ?_
      refine sx_region ?_
      refine sx_pure rfl rfl rfl (px_assign rfl) ?_
      refine wl_nil ?_
      refine q_n (k25 _ _ ?_)
      refine sx_retc ?_
      refine q_r (sx_ret1 Try.results5 rfl ?_)
      have q26 := Chg.step (l := 0) (h := 0) cb2 cb4 (by omega)
      have q27 := Chg.step (l := 0) (h := 0) q26 c11 (by omega)
      have q28 := Chg.step (l := 0) (h := 0) q27 c22 (by omega)
      exact ⟨rfl, q28⟩
    ·
      refine sx_skip ?_
      refine q_n (k23 _ _ ?_)
      refine sx_seq fun K29 k29 => ?_
      refine sx_cut k29 (fun fr w' => ∃ (gb30x0 : Nat) (gs30x1 : Value) (gl30x1 : Nat) (gu30x1 : Nat), fr = [(2, .pointer (some ⟨b2, 0, none⟩)), (3, .pointer (some ⟨b4, 0, none⟩)), (4, .bool false), (6, .pointer (some ⟨gb30x0, 0, none⟩)), (7, .bool ((dBin fMul n1 z1 p1 n2 z2 p2).2.2.2))] ∧ Chg 0 0 w22 w' ∧ (Blk w' gb30x0 [.bool ((dBin fMul n1 z1 p1 n2 z2 p2).1), gs30x1, .int .i64 ((dBin fMul n1 z1 p1 n2 z2 p2).2.2.1)] 31) ∧ (Own w' gl30x1 gu30x1 gs30x1 intT (((dBin fMul n1 z1 p1 n2 z2 p2).2.1).length) 1 (((dBin fMul n1 z1 p1 n2 z2 p2).2.1).map (Value.int .i64))) ∧ (w22.heap.size ≤ gb30x0 ∧ gb30x0 + 1 ≤ w'.heap.size) ∧ (w22.heap.size ≤ gl30x1 ∧ gu30x1 ≤ w'.heap.size) ∧ (gu30x1 ≤ gb30x0 ∨ gb30x0 + 1 ≤ gl30x1)) (fun kc30 => ?_) ?_
      ·
        have f31 := f8.ext c11
        have f32 := f31.ext c22
        have f33 := f18.ext c22
        have f34 := f10.ext c11
        have f35 := f34.ext c22
        have f36 := f21.ext c22
        refine dx_region (fun w' => Chg 0 0 w22 w') (by kernel_rfl) (Chg.zero (Chg.drew _)) ?_
        have d37 := Chg.drew w22
        have s37 : Chg 0 0 w22 (World.drew w22) := Chg.zero (Chg.drew _)
        have y37 : (World.drew w22).heap.size = w22.heap.size := rfl
        generalize World.drew w22 = w37 at *
        have zw37 := d37.size
        refine dx_take 0 rfl rfl rfl rfl (by kernel_rfl) (by kernel_rfl) (by kernel_rfl) s37 (fun _ hS => px_load rfl ((f32.chg hS (by omega)).loadA (vs := [.bool n1, v1, .int .i64 p1]) (look_lit rfl) Try.isAgg26 Try.sizeOf26)) ?_
        refine dx_take 2 rfl rfl rfl rfl (by kernel_rfl) (by kernel_rfl) (by kernel_rfl) s37 (fun _ hS => px_load rfl ((f33.chg hS (by omega)).loadA (vs := [.bool n2, v2, .int .i64 p2]) (look_lit rfl) Try.isAgg26 Try.sizeOf26)) ?_
        refine dx_eff2 1 8 rfl rfl (by kernel_rfl) ?_ ?_
        ·
          have f38 := f35.ext d37
          refine sx_call rfl rfl Try.call17 (c_toDec f38 (by omega)) (fun v39 w39 p39 => ?_)
          obtain ⟨s139, rfl, os1_39, c39⟩ := p39
          have zw39 := c39.size
          have q41 := Chg.step (l := 0) (h := 0) d37 c39 (by omega)
          have s40 : Chg 0 0 w22 w39 := q41
          refine wl_nil ?_
          refine dx_next s40 ?_
          refine dx_eff2 3 8 rfl rfl (by kernel_rfl) ?_ ?_
          ·
            have f42 := f36.ext d37
            have f43 := f42.ext c39
            refine sx_call rfl rfl Try.call17 (c_toDec f43 (by omega)) (fun v44 w44 p44 => ?_)
            obtain ⟨s144, rfl, os1_44, c44⟩ := p44
            have zw44 := c44.size
            have q46 := Chg.step (l := 0) (h := 0) d37 c39 (by omega)
            have q47 := Chg.step (l := 0) (h := 0) q46 c44 (by omega)
            have s45 : Chg 0 0 w22 w44 := q47
            refine wl_nil ?_
            refine dx_next s45 ?_
            refine dx_eff2 4 8 rfl rfl (by kernel_rfl) ?_ ?_
            ·
              have f48 := os1_39.ext c44
              refine sx_call rfl rfl Try.call25 (c_sDecMul f48.sv os1_44.sv (by omega)) (fun v49 w49 p49 => ?_)
              obtain ⟨s49, rfl, os_49, hl49, c49⟩ := p49
              have zw49 := c49.size
              have q51 := Chg.step (l := 0) (h := 0) d37 c39 (by omega)
              have q52 := Chg.step (l := 0) (h := 0) q51 c44 (by omega)
              have q53 := Chg.step (l := 0) (h := 0) q52 c49 (by omega)
              have s50 : Chg 0 0 w22 w49 := q53
              refine wl_nil ?_
              refine dx_next s50 ?_
              refine dx_take 5 rfl rfl rfl rfl (by kernel_rfl) (by kernel_rfl) (by kernel_rfl) s50 (fun _ hS => px_move rfl) ?_
              refine dx_take 6 rfl rfl rfl rfl (by kernel_rfl) (by kernel_rfl) (by kernel_rfl) s50 (fun _ hS => px_extract (vs := [.agg #[.bool ((dBin fMul n1 z1 p1 n2 z2 p2).1), s49, .int .i64 ((dBin fMul n1 z1 p1 n2 z2 p2).2.2.1)], .bool ((dBin fMul n1 z1 p1 n2 z2 p2).2.2.2)]) rfl rfl) ?_
              refine dx_take 7 rfl rfl rfl rfl (by kernel_rfl) (by kernel_rfl) (by kernel_rfl) s50 (fun _ hS => px_extract (vs := [.agg #[.bool ((dBin fMul n1 z1 p1 n2 z2 p2).1), s49, .int .i64 ((dBin fMul n1 z1 p1 n2 z2 p2).2.2.1)], .bool ((dBin fMul n1 z1 p1 n2 z2 p2).2.2.2)]) rfl rfl) ?_
              refine dx_eff 8 rfl (by kernel_rfl) ?_
              refine sx_alloc [.bool false, (.slice none 0 0), .int .i64 0] rfl Try.zeroValue31 rfl (fun b54 w55 eb54 sb54 fb54 cb54 => ?_)
              have zw55 := cb54.size
              have q57 := Chg.step (l := 0) (h := 0) d37 c39 (by omega)
              have q58 := Chg.step (l := 0) (h := 0) q57 c44 (by omega)
              have q59 := Chg.step (l := 0) (h := 0) q58 c49 (by omega)
              have q60 := Chg.step (l := 0) (h := 0) q59 cb54 (by omega)
              have s56 : Chg 0 0 w22 w55 := q60
              refine wl_nil ?_
              refine dx_next s56 ?_
              refine dx_eff 9 rfl (by kernel_rfl) ?_
              have f62 := os_49.ext cb54
              refine sx_store (vs := [.bool ((dBin fMul n1 z1 p1 n2 z2 p2).1), s49, .int .i64 ((dBin fMul n1 z1 p1 n2 z2 p2).2.2.1)]) rfl rfl fb54 rfl Try.sizeOf31 (Nat.le_of_ble_eq_true rfl) (one_cons rfl (one_cons f62.one (one_cons rfl one_nil))) (fun w61 sw61 fw61 cw61 => ?_)
              have zw61 := cw61.size
              have gw61 : Blk w61 b54 [.bool ((dBin fMul n1 z1 p1 n2 z2 p2).1), s49, .int .i64 ((dBin fMul n1 z1 p1 n2 z2 p2).2.2.1)] 31 := fw61
              have q64 := Chg.step (l := 0) (h := 0) d37 c39 (by omega)
              have q65 := Chg.step (l := 0) (h := 0) q64 c44 (by omega)
              have q66 := Chg.step (l := 0) (h := 0) q65 c49 (by omega)
              have q67 := Chg.step (l := 0) (h := 0) q66 cb54 (by omega)
              have q68 := Chg.step (l := 0) (h := 0) q67 cw61 (by omega)
              have s63 : Chg 0 0 w22 w61 := q68
              refine wl_nil ?_
              refine dx_next s63 ?_
              refine dx_take 10 rfl rfl rfl rfl (by kernel_rfl) (by kernel_rfl) (by kernel_rfl) s63 (fun _ hS => px_assign rfl) ?_
              refine dx_done (by kernel_rfl) ?_
              have f69 := f62.chg cw61 (by omega)
              have q70 := Chg.step (l := 0) (h := 0) d37 c39 (by omega)
              have q71 := Chg.step (l := 0) (h := 0) q70 c44 (by omega)
              have q72 := Chg.step (l := 0) (h := 0) q71 c49 (by omega)
              have q73 := Chg.step (l := 0) (h := 0) q72 cb54 (by omega)
              have q74 := Chg.step (l := 0) (h := 0) q73 cw61 (by omega)
              exact q_n (kw_sub (Sub.cons (t := 2) rfl (.cons (t := 3) rfl (.cons (t := 4) rfl (.cons (t := 6) rfl (.cons (t := 7) rfl (.nil)))))) (kc30 _ _ ⟨b54, s49, w44.heap.size, w49.heap.size, rfl, q74, gw61, f69, by omega, by omega, by omega⟩))
            ·
              refine sx_alloc [.bool false, (.slice none 0 0), .int .i64 0] rfl Try.zeroValue31 rfl (fun b75 w76 eb75 sb75 fb75 cb75 => ?_)
              have zw76 := cb75.size
              have q78 := Chg.step (l := 0) (h := 0) d37 c39 (by omega)
              have q79 := Chg.step (l := 0) (h := 0) q78 c44 (by omega)
              have q80 := Chg.step (l := 0) (h := 0) q79 cb75 (by omega)
              have s77 : Chg 0 0 w22 w76 := q80
              refine wl_nil ?_
              refine dx_next s77 ?_
              refine dx_eff 4 rfl (by kernel_rfl) ?_
              have f81 := os1_39.ext c44
              have f82 := f81.ext cb75
              have f83 := os1_44.ext cb75
              refine sx_call rfl rfl Try.call25 (c_sDecMul f82.sv f83.sv (by omega)) (fun v84 w84 p84 => ?_)
              obtain ⟨s84, rfl, os_84, hl84, c84⟩ := p84
              have zw84 := c84.size
              have q86 := Chg.step (l := 0) (h := 0) d37 c39 (by omega)
              have q87 := Chg.step (l := 0) (h := 0) q86 c44 (by omega)
              have q88 := Chg.step (l := 0) (h := 0) q87 cb75 (by omega)
              have q89 := Chg.step (l := 0) (h := 0) q88 c84 (by omega)
              have s85 : Chg 0 0 w22 w84 := q89
              refine wl_nil ?_
              refine dx_next s85 ?_
              refine dx_take 5 rfl rfl rfl rfl (by kernel_rfl) (by kernel_rfl) (by kernel_rfl) s85 (fun _ hS => px_move rfl) ?_
              refine dx_take 6 rfl rfl rfl rfl (by kernel_rfl) (by kernel_rfl) (by kernel_rfl) s85 (fun _ hS => px_extract (vs := [.agg #[.bool ((dBin fMul n1 z1 p1 n2 z2 p2).1), s84, .int .i64 ((dBin fMul n1 z1 p1 n2 z2 p2).2.2.1)], .bool ((dBin fMul n1 z1 p1 n2 z2 p2).2.2.2)]) rfl rfl) ?_
              refine dx_take 7 rfl rfl rfl rfl (by kernel_rfl) (by kernel_rfl) (by kernel_rfl) s85 (fun _ hS => px_extract (vs := [.agg #[.bool ((dBin fMul n1 z1 p1 n2 z2 p2).1), s84, .int .i64 ((dBin fMul n1 z1 p1 n2 z2 p2).2.2.1)], .bool ((dBin fMul n1 z1 p1 n2 z2 p2).2.2.2)]) rfl rfl) ?_
              refine dx_eff 9 rfl (by kernel_rfl) ?_
              have f91 := fb75.ext c84
              refine sx_store (vs := [.bool ((dBin fMul n1 z1 p1 n2 z2 p2).1), s84, .int .i64 ((dBin fMul n1 z1 p1 n2 z2 p2).2.2.1)]) rfl rfl f91 rfl Try.sizeOf31 (Nat.le_of_ble_eq_true rfl) (one_cons rfl (one_cons os_84.one (one_cons rfl one_nil))) (fun w90 sw90 fw90 cw90 => ?_)
              have zw90 := cw90.size
              have gw90 : Blk w90 b75 [.bool ((dBin fMul n1 z1 p1 n2 z2 p2).1), s84, .int .i64 ((dBin fMul n1 z1 p1 n2 z2 p2).2.2.1)] 31 := fw90
              have q93 := Chg.step (l := 0) (h := 0) d37 c39 (by omega)
              have q94 := Chg.step (l := 0) (h := 0) q93 c44 (by omega)
              have q95 := Chg.step (l := 0) (h := 0) q94 cb75 (by omega)
              have q96 := Chg.step (l := 0) (h := 0) q95 c84 (by omega)
              have q97 := Chg.step (l := 0) (h := 0) q96 cw90 (by omega)
              have s92 : Chg 0 0 w22 w90 := q97
              refine wl_nil ?_
              refine dx_next s92 ?_
              refine dx_take 10 rfl rfl rfl rfl (by kernel_rfl) (by kernel_rfl) (by kernel_rfl) s92 (fun _ hS => px_assign rfl) ?_
              refine dx_done (by kernel_rfl) ?_
              have f98 := os_84.chg cw90 (by omega)
              have q99 := Chg.step (l := 0) (h := 0) d37 c39 (by omega)
              have q100 := Chg.step (l := 0) (h := 0) q99 c44 (by omega)
              have q101 := Chg.step (l := 0) (h := 0) q100 cb75 (by omega)
              have q102 := Chg.step (l := 0) (h := 0) q101 c84 (by omega)
              have q103 := Chg.step (l := 0) (h := 0) q102 cw90 (by omega)
              exact q_n (kw_sub (Sub.cons (t := 2) rfl (.cons (t := 3) rfl (.cons (t := 4) rfl (.cons (t := 6) rfl (.cons (t := 7) rfl (.nil)))))) (kc30 _ _ ⟨b75, s84, w76.heap.size, w84.heap.size, rfl, q103, gw90, f98, by omega, by omega, by omega⟩))
          ·
            refine sx_alloc [.bool false, (.slice none 0 0), .int .i64 0] rfl Try.zeroValue31 rfl (fun b104 w105 eb104 sb104 fb104 cb104 => ?_)
            have zw105 := cb104.size
            have q107 := Chg.step (l := 0) (h := 0) d37 c39 (by omega)
            have q108 := Chg.step (l := 0) (h := 0) q107 cb104 (by omega)
            have s106 : Chg 0 0 w22 w105 := q108
            refine wl_nil ?_
            refine dx_next s106 ?_
            refine dx_eff 3 rfl (by kernel_rfl) ?_
            have f109 := f36.ext d37
            have f110 := f109.ext c39
            have f111 := f110.ext cb104
            refine sx_call rfl rfl Try.call17 (c_toDec f111 (by omega)) (fun v112 w112 p112 => ?_)
            obtain ⟨s1112, rfl, os1_112, c112⟩ := p112
            have zw112 := c112.size
            have q114 := Chg.step (l := 0) (h := 0) d37 c39 (by omega)
            have q115 := Chg.step (l := 0) (h := 0) q114 cb104 (by omega)
            have q116 := Chg.step (l := 0) (h := 0) q115 c112 (by omega)
            have s113 : Chg 0 0 w22 w112 := q116
            refine wl_nil ?_
            refine dx_next s113 ?_
            refine dx_eff 4 rfl (by kernel_rfl) ?_
            have f117 := os1_39.ext cb104
            have f118 := f117.ext c112
            refine sx_call rfl rfl Try.call25 (c_sDecMul f118.sv os1_112.sv (by omega)) (fun v119 w119 p119 => ?_)
            obtain ⟨s119, rfl, os_119, hl119, c119⟩ := p119
            have zw119 := c119.size
            have q121 := Chg.step (l := 0) (h := 0) d37 c39 (by omega)
            have q122 := Chg.step (l := 0) (h := 0) q121 cb104 (by omega)
            have q123 := Chg.step (l := 0) (h := 0) q122 c112 (by omega)
            have q124 := Chg.step (l := 0) (h := 0) q123 c119 (by omega)
            have s120 : Chg 0 0 w22 w119 := q124
            refine wl_nil ?_
            refine dx_next s120 ?_
            refine dx_take 5 rfl rfl rfl rfl (by kernel_rfl) (by kernel_rfl) (by kernel_rfl) s120 (fun _ hS => px_move rfl) ?_
            refine dx_take 6 rfl rfl rfl rfl (by kernel_rfl) (by kernel_rfl) (by kernel_rfl) s120 (fun _ hS => px_extract (vs := [.agg #[.bool ((dBin fMul n1 z1 p1 n2 z2 p2).1), s119, .int .i64 ((dBin fMul n1 z1 p1 n2 z2 p2).2.2.1)], .bool ((dBin fMul n1 z1 p1 n2 z2 p2).2.2.2)]) rfl rfl) ?_
            refine dx_take 7 rfl rfl rfl rfl (by kernel_rfl) (by kernel_rfl) (by kernel_rfl) s120 (fun _ hS => px_extract (vs := [.agg #[.bool ((dBin fMul n1 z1 p1 n2 z2 p2).1), s119, .int .i64 ((dBin fMul n1 z1 p1 n2 z2 p2).2.2.1)], .bool ((dBin fMul n1 z1 p1 n2 z2 p2).2.2.2)]) rfl rfl) ?_
            refine dx_eff 9 rfl (by kernel_rfl) ?_
            have f126 := fb104.ext c112
            have f127 := f126.ext c119
            refine sx_store (vs := [.bool ((dBin fMul n1 z1 p1 n2 z2 p2).1), s119, .int .i64 ((dBin fMul n1 z1 p1 n2 z2 p2).2.2.1)]) rfl rfl f127 rfl Try.sizeOf31 (Nat.le_of_ble_eq_true rfl) (one_cons rfl (one_cons os_119.one (one_cons rfl one_nil))) (fun w125 sw125 fw125 cw125 => ?_)
            have zw125 := cw125.size
            have gw125 : Blk w125 b104 [.bool ((dBin fMul n1 z1 p1 n2 z2 p2).1), s119, .int .i64 ((dBin fMul n1 z1 p1 n2 z2 p2).2.2.1)] 31 := fw125
            have q129 := Chg.step (l := 0) (h := 0) d37 c39 (by omega)
            have q130 := Chg.step (l := 0) (h := 0) q129 cb104 (by omega)
            have q131 := Chg.step (l := 0) (h := 0) q130 c112 (by omega)
            have q132 := Chg.step (l := 0) (h := 0) q131 c119 (by omega)
            have q133 := Chg.step (l := 0) (h := 0) q132 cw125 (by omega)
            have s128 : Chg 0 0 w22 w125 := q133
            refine wl_nil ?_
            refine dx_next s128 ?_
            refine dx_take 10 rfl rfl rfl rfl (by kernel_rfl) (by kernel_rfl) (by kernel_rfl) s128 (fun _ hS => px_assign rfl) ?_
            refine dx_done (by kernel_rfl) ?_
            have f134 := os_119.chg cw125 (by omega)
            have q135 := Chg.step (l := 0) (h := 0) d37 c39 (by omega)
            have q136 := Chg.step (l := 0) (h := 0) q135 cb104 (by omega)
            have q137 := Chg.step (l := 0) (h := 0) q136 c112 (by omega)
            have q138 := Chg.step (l := 0) (h := 0) q137 c119 (by omega)
            have q139 := Chg.step (l := 0) (h := 0) q138 cw125 (by omega)
            exact q_n (kw_sub (Sub.cons (t := 2) rfl (.cons (t := 3) rfl (.cons (t := 4) rfl (.cons (t := 6) rfl (.cons (t := 7) rfl (.nil)))))) (kc30 _ _ ⟨b104, s119, w112.heap.size, w119.heap.size, rfl, q139, gw125, f134, by omega, by omega, by omega⟩))
        ·
          refine sx_alloc [.bool false, (.slice none 0 0), .int .i64 0] rfl Try.zeroValue31 rfl (fun b140 w141 eb140 sb140 fb140 cb140 => ?_)
          have zw141 := cb140.size
          have q143 := Chg.step (l := 0) (h := 0) d37 cb140 (by omega)
          have s142 : Chg 0 0 w22 w141 := q143
          refine wl_nil ?_
          refine dx_next s142 ?_
          refine dx_eff 1 rfl (by kernel_rfl) ?_
          have f144 := f35.ext d37
          have f145 := f144.ext cb140
          refine sx_call rfl rfl Try.call17 (c_toDec f145 (by omega)) (fun v146 w146 p146 => ?_)
          obtain ⟨s1146, rfl, os1_146, c146⟩ := p146
          have zw146 := c146.size
          have q148 := Chg.step (l := 0) (h := 0) d37 cb140 (by omega)
          have q149 := Chg.step (l := 0) (h := 0) q148 c146 (by omega)
          have s147 : Chg 0 0 w22 w146 := q149
          refine wl_nil ?_
          refine dx_next s147 ?_
          refine dx_eff 3 rfl (by kernel_rfl) ?_
          have f150 := f36.ext d37
          have f151 := f150.ext cb140
          have f152 := f151.ext c146
          refine sx_call rfl rfl Try.call17 (c_toDec f152 (by omega)) (fun v153 w153 p153 => ?_)
          obtain ⟨s1153, rfl, os1_153, c153⟩ := p153
          have zw153 := c153.size
          have q155 := Chg.step (l := 0) (h := 0) d37 cb140 (by omega)
          have q156 := Chg.step (l := 0) (h := 0) q155 c146 (by omega)
          have q157 := Chg.step (l := 0) (h := 0) q156 c153 (by omega)
          have s154 : Chg 0 0 w22 w153 := q157
          refine wl_nil ?_
          refine dx_next s154 ?_
          refine dx_eff 4 rfl (by kernel_rfl) ?_
          have f158 := os1_146.ext c153
          refine sx_call rfl rfl Try.call25 (c_sDecMul f158.sv os1_153.sv (by omega)) (fun v159 w159 p159 => ?_)
          obtain ⟨s159, rfl, os_159, hl159, c159⟩ := p159
          have zw159 := c159.size
          have q161 := Chg.step (l := 0) (h := 0) d37 cb140 (by omega)
          have q162 := Chg.step (l := 0) (h := 0) q161 c146 (by omega)
          have q163 := Chg.step (l := 0) (h := 0) q162 c153 (by omega)
          have q164 := Chg.step (l := 0) (h := 0) q163 c159 (by omega)
          have s160 : Chg 0 0 w22 w159 := q164
          refine wl_nil ?_
          refine dx_next s160 ?_
          refine dx_take 5 rfl rfl rfl rfl (by kernel_rfl) (by kernel_rfl) (by kernel_rfl) s160 (fun _ hS => px_move rfl) ?_
          refine dx_take 6 rfl rfl rfl rfl (by kernel_rfl) (by kernel_rfl) (by kernel_rfl) s160 (fun _ hS => px_extract (vs := [.agg #[.bool ((dBin fMul n1 z1 p1 n2 z2 p2).1), s159, .int .i64 ((dBin fMul n1 z1 p1 n2 z2 p2).2.2.1)], .bool ((dBin fMul n1 z1 p1 n2 z2 p2).2.2.2)]) rfl rfl) ?_
          refine dx_take 7 rfl rfl rfl rfl (by kernel_rfl) (by kernel_rfl) (by kernel_rfl) s160 (fun _ hS => px_extract (vs := [.agg #[.bool ((dBin fMul n1 z1 p1 n2 z2 p2).1), s159, .int .i64 ((dBin fMul n1 z1 p1 n2 z2 p2).2.2.1)], .bool ((dBin fMul n1 z1 p1 n2 z2 p2).2.2.2)]) rfl rfl) ?_
          refine dx_eff 9 rfl (by kernel_rfl) ?_
          have f166 := fb140.ext c146
          have f167 := f166.ext c153
          have f168 := f167.ext c159
          refine sx_store (vs := [.bool ((dBin fMul n1 z1 p1 n2 z2 p2).1), s159, .int .i64 ((dBin fMul n1 z1 p1 n2 z2 p2).2.2.1)]) rfl rfl f168 rfl Try.sizeOf31 (Nat.le_of_ble_eq_true rfl) (one_cons rfl (one_cons os_159.one (one_cons rfl one_nil))) (fun w165 sw165 fw165 cw165 => ?_)
          have zw165 := cw165.size
          have gw165 : Blk w165 b140 [.bool ((dBin fMul n1 z1 p1 n2 z2 p2).1), s159, .int .i64 ((dBin fMul n1 z1 p1 n2 z2 p2).2.2.1)] 31 := fw165
          have q170 := Chg.step (l := 0) (h := 0) d37 cb140 (by omega)
          have q171 := Chg.step (l := 0) (h := 0) q170 c146 (by omega)
          have q172 := Chg.step (l := 0) (h := 0) q171 c153 (by omega)
          have q173 := Chg.step (l := 0) (h := 0) q172 c159 (by omega)
          have q174 := Chg.step (l := 0) (h := 0) q173 cw165 (by omega)
          have s169 : Chg 0 0 w22 w165 := q174
          refine wl_nil ?_
          refine dx_next s169 ?_
          refine dx_take 10 rfl rfl rfl rfl (by kernel_rfl) (by kernel_rfl) (by kernel_rfl) s169 (fun _ hS => px_assign rfl) ?_
          refine dx_done (by kernel_rfl) ?_
          have f175 := os_159.chg cw165 (by omega)
          have q176 := Chg.step (l := 0) (h := 0) d37 cb140 (by omega)
          have q177 := Chg.step (l := 0) (h := 0) q176 c146 (by omega)
          have q178 := Chg.step (l := 0) (h := 0) q177 c153 (by omega)
          have q179 := Chg.step (l := 0) (h := 0) q178 c159 (by omega)
          have q180 := Chg.step (l := 0) (h := 0) q179 cw165 (by omega)
          exact q_n (kw_sub (Sub.cons (t := 2) rfl (.cons (t := 3) rfl (.cons (t := 4) rfl (.cons (t := 6) rfl (.cons (t := 7) rfl (.nil)))))) (kc30 _ _ ⟨b140, s159, w153.heap.size, w159.heap.size, rfl, q180, gw165, f175, by omega, by omega, by omega⟩))
      ·
        rintro fr w'30 ⟨gb30x0, gs30x1, gl30x1, gu30x1, rfl, cw'30, xgb30x0, xgs30x1, ygb30x0, ygl30x1, dgl30x1xgb30x0⟩
        have zw'30 := cw'30.size
        refine sx_seq fun K181 k181 => ?_
        refine sx_region ?_
        have f182 := f8.ext c11
        have f183 := f182.ext c22
        have f184 := f183.ext cw'30
        refine sx_pure rfl rfl rfl (px_load rfl (f184.loadA (vs := [.bool n1, v1, .int .i64 p1]) (look_lit rfl) Try.isAgg26 Try.sizeOf26)) ?_
        have f185 := f10.ext c11
        have f186 := f185.ext c22
        have f187 := f186.ext cw'30
        refine sx_call rfl rfl Try.call17 (c_toDec f187 (by omega)) (fun v188 w188 p188 => ?_)
        obtain ⟨s1188, rfl, os1_188, c188⟩ := p188
        have zw188 := c188.size
        refine sx_alloc [.bool false, (.slice none 0 0), .int .i64 0] rfl Try.zeroValue31 rfl (fun b189 w190 eb189 sb189 fb189 cb189 => ?_)
        have zw190 := cb189.size
        have f192 := os1_188.ext cb189
        refine sx_store (vs := [.bool n1, s1188, .int .i64 p1]) rfl rfl fb189 rfl Try.sizeOf31 (Nat.le_of_ble_eq_true rfl) (one_cons rfl (one_cons f192.one (one_cons rfl one_nil))) (fun w191 sw191 fw191 cw191 => ?_)
        have zw191 := cw191.size
        have gw191 : Blk w191 b189 [.bool n1, s1188, .int .i64 p1] 31 := fw191
        refine wl_nil ?_
        refine q_n (k181 _ _ ?_)
        refine sx_seq fun K193 k193 => ?_
        refine sx_region ?_
        have f194 := f18.ext c22
        have f195 := f194.ext cw'30
        have f196 := f195.ext c188
        have f197 := f196.ext cb189
        have f198 := f197.chg cw191 (by omega)
        refine sx_pure rfl rfl rfl (px_load rfl (f198.loadA (vs := [.bool n2, v2, .int .i64 p2]) (look_lit rfl) Try.isAgg26 Try.sizeOf26)) ?_
        have f199 := f21.ext c22
        have f200 := f199.ext cw'30
        have f201 := f200.ext c188
        have f202 := f201.ext cb189
        have f203 := f202.chg cw191 (by omega)
        refine sx_call rfl rfl Try.call17 (c_toDec f203 (by omega)) (fun v204 w204 p204 => ?_)
        obtain ⟨s1204, rfl, os1_204, c204⟩ := p204
        have zw204 := c204.size
        refine sx_alloc [.bool false, (.slice none 0 0), .int .i64 0] rfl Try.zeroValue31 rfl (fun b205 w206 eb205 sb205 fb205 cb205 => ?_)
        have zw206 := cb205.size
        have f208 := os1_204.ext cb205
        refine sx_store (vs := [.bool n2, s1204, .int .i64 p2]) rfl rfl fb205 rfl Try.sizeOf31 (Nat.le_of_ble_eq_true rfl) (one_cons rfl (one_cons f208.one (one_cons rfl one_nil))) (fun w207 sw207 fw207 cw207 => ?_)
        have zw207 := cw207.size
        have gw207 : Blk w207 b205 [.bool n2, s1204, .int .i64 p2] 31 := fw207
        refine wl_nil ?_
        refine q_n (k193 _ _ ?_)
        refine sx_seq fun K209 k209 => ?_
        refine sx_region ?_
        have f210 := gw191.ext c204
        have f211 := f210.ext cb205
        have f212 := f211.chg cw207 (by omega)
        refine sx_pure rfl rfl rfl (px_load rfl (f212.loadA (vs := [.bool n1, s1188, .int .i64 p1]) (look_lit rfl) Try.isAgg31 Try.sizeOf31)) ?_
        refine sx_pure rfl rfl rfl (px_load rfl (gw207.loadA (vs := [.bool n2, s1204, .int .i64 p2]) (look_lit rfl) Try.isAgg31 Try.sizeOf31)) ?_
        have f213 := f192.chg cw191 (by omega)
        have f214 := f213.ext c204
        have f215 := f214.ext cb205
        have f216 := f215.chg cw207 (by omega)
        have f217 := f208.chg cw207 (by omega)
        refine sx_call rfl rfl Try.call26 (c_iDecMul f216.sv f217.sv (by omega)) (fun v218 w218 p218 => ?_)
        obtain ⟨s218, rfl, os_218, hl218, c218⟩ := p218
        have zw218 := c218.size
        refine sx_pure rfl rfl rfl (px_move rfl) ?_
        refine sx_pure rfl rfl rfl (px_extract (vs := [.agg #[.bool ((dBin fMul n1 z1 p1 n2 z2 p2).1), s218, .int .i64 ((dBin fMul n1 z1 p1 n2 z2 p2).2.2.1)], .bool ((dBin fMul n1 z1 p1 n2 z2 p2).2.2.2)]) rfl rfl) ?_
        refine sx_pure rfl rfl rfl (px_extract (vs := [.agg #[.bool ((dBin fMul n1 z1 p1 n2 z2 p2).1), s218, .int .i64 ((dBin fMul n1 z1 p1 n2 z2 p2).2.2.1)], .bool ((dBin fMul n1 z1 p1 n2 z2 p2).2.2.2)]) rfl rfl) ?_
        refine sx_alloc [.bool false, (.slice none 0 0), .int .i64 0] rfl Try.zeroValue31 rfl (fun b219 w220 eb219 sb219 fb219 cb219 => ?_)
        have zw220 := cb219.size
        have f222 := os_218.ext cb219
        refine sx_store (vs := [.bool ((dBin fMul n1 z1 p1 n2 z2 p2).1), s218, .int .i64 ((dBin fMul n1 z1 p1 n2 z2 p2).2.2.1)]) rfl rfl fb219 rfl Try.sizeOf31 (Nat.le_of_ble_eq_true rfl) (one_cons rfl (one_cons f222.one (one_cons rfl one_nil))) (fun w221 sw221 fw221 cw221 => ?_)
        have zw221 := cw221.size
        have gw221 : Blk w221 b219 [.bool ((dBin fMul n1 z1 p1 n2 z2 p2).1), s218, .int .i64 ((dBin fMul n1 z1 p1 n2 z2 p2).2.2.1)] 31 := fw221
        refine sx_pure rfl rfl rfl (px_assign rfl) ?_
        refine wl_nil ?_
        refine q_n (k209 _ _ ?_)
        refine sx_sub (Sub.cons (t := 2) rfl (.cons (t := 3) rfl (.cons (t := 4) rfl (.cons (t := 6) rfl (.cons (t := 7) rfl (.cons (t := 8) rfl (.cons (t := 9) rfl (.cons (t := 10) rfl (.cons (t := 11) rfl (.nil)))))))))) ?_
        refine sx_seq fun K223 k223 => ?_
        refine sx_seq fun K224 k224 => ?_
        refine sx_region ?_
        refine sx_pure rfl rfl rfl (px_load rfl (gw221.loadA (vs := [.bool ((dBin fMul n1 z1 p1 n2 z2 p2).1), s218, .int .i64 ((dBin fMul n1 z1 p1 n2 z2 p2).2.2.1)]) (look_lit rfl) Try.isAgg31 Try.sizeOf31)) ?_
        have f225 := xgb30x0.ext c188
        have f226 := f225.ext cb189
        have f227 := f226.chg cw191 (by omega)
        have f228 := f227.ext c204
        have f229 := f228.ext cb205
        have f230 := f229.chg cw207 (by omega)
        have f231 := f230.ext c218
        have f232 := f231.ext cb219
        have f233 := f232.chg cw221 (by omega)
        refine sx_pure rfl rfl rfl (px_load rfl (f233.loadA (vs := [.bool ((dBin fMul n1 z1 p1 n2 z2 p2).1), gs30x1, .int .i64 ((dBin fMul n1 z1 p1 n2 z2 p2).2.2.1)]) (look_lit rfl) Try.isAgg31 Try.sizeOf31)) ?_
        have f234 := f222.chg cw221 (by omega)
        have f235 := xgs30x1.ext c188
        have f236 := f235.ext cb189
        have f237 := f236.chg cw191 (by omega)
        have f238 := f237.ext c204
        have f239 := f238.ext cb205
        have f240 := f239.chg cw207 (by omega)
        have f241 := f240.ext c218
        have f242 := f241.ext cb219
        have f243 := f242.chg cw221 (by omega)
        refine sx_call rfl rfl Try.call19 (c_eqDec f234.sv f243.sv (by omega)) (fun v244 w244 p244 => ?_)
        obtain ⟨rfl, c244⟩ := p244
        have zw244 := c244.size
        refine sx_pure rfl rfl rfl (px_notP rfl) ?_
        refine sx_pure rfl rfl rfl (px_move rfl) ?_
        have h4577 : ¬ (¬ (((dBin fMul n1 z1 p1 n2 z2 p2).1) = ((dBin fMul n1 z1 p1 n2 z2 p2).1) ∧ ((dBin fMul n1 z1 p1 n2 z2 p2).2.1) = ((dBin fMul n1 z1 p1 n2 z2 p2).2.1) ∧ ((dBin fMul n1 z1 p1 n2 z2 p2).2.2.1) = ((dBin fMul n1 z1 p1 n2 z2 p2).2.2.1))) := by simp [mk_length]
        refine sx_tmpPF (t := 49) rfl h4577 ?_
        refine sx_guardT rfl rfl rfl ?_
        refine sx_pure rfl rfl rfl (px_move rfl) ?_
        refine sx_guardT rfl rfl rfl ?_
        refine sx_pure rfl rfl rfl (px_move rfl) ?_
        refine sx_guardT rfl rfl rfl ?_
        refine sx_pure rfl rfl rfl (px_neB Try.underlying4 rfl rfl) ?_
        refine sx_pure rfl rfl rfl (px_pick rfl rfl) ?_
        refine wl_nil ?_
        refine q_n (k224 _ _ ?_)
        refine sx_sub (Sub.cons (t := 2) rfl (.cons (t := 3) rfl (.cons (t := 4) rfl (.cons (t := 6) rfl (.cons (t := 7) rfl (.cons (t := 8) rfl (.cons (t := 9) rfl (.cons (t := 10) rfl (.cons (t := 11) rfl (.cons (t := 53) rfl (.nil))))))))))) ?_
        have h4577x1 : (((dBin fMul n1 z1 p1 n2 z2 p2).2.2.2) != ((dBin fMul n1 z1 p1 n2 z2 p2).2.2.2)) = false := by simp [mk_length]
        refine sx_condBF rfl h4577x1 ?_
        refine sx_skip ?_
        refine q_n (k223 _ _ ?_)
        refine sx_seq fun K245 k245 => ?_
        refine sx_seq fun K246 k246 => ?_
        have f247 := f184.ext c188
        have f248 := f247.ext cb189
        have f249 := f248.chg cw191 (by omega)
        have f250 := f249.ext c204
        have f251 := f250.ext cb205
        have f252 := f251.chg cw207 (by omega)
        have f253 := f252.ext c218
        have f254 := f253.ext cb219
        have f255 := f254.chg cw221 (by omega)
        have f256 := f255.ext c244
        have f257 := f198.ext c204
        have f258 := f257.ext cb205
        have f259 := f258.chg cw207 (by omega)
        have f260 := f259.ext c218
        have f261 := f260.ext cb219
        have f262 := f261.chg cw221 (by omega)
        have f263 := f262.ext c244
        have f264 := f233.ext c244
        have f265 := f212.ext c218
        have f266 := f265.ext cb219
        have f267 := f266.chg cw221 (by omega)
        have f268 := f267.ext c244
        have f269 := gw207.ext c218
        have f270 := f269.ext cb219
        have f271 := f270.chg cw221 (by omega)
        have f272 := f271.ext c244
        have f273 := gw221.ext c244
        have f274 := f187.ext c188
        have f275 := f274.ext cb189
        have f276 := f275.chg cw191 (by omega)
        have f277 := f276.ext c204
        have f278 := f277.ext cb205
        have f279 := f278.chg cw207 (by omega)
        have f280 := f279.ext c218
        have f281 := f280.ext cb219
        have f282 := f281.chg cw221 (by omega)
        have f283 := f282.ext c244
        have f284 := f203.ext c204
        have f285 := f284.ext cb205
        have f286 := f285.chg cw207 (by omega)
        have f287 := f286.ext c218
        have f288 := f287.ext cb219
        have f289 := f288.chg cw221 (by omega)
        have f290 := f289.ext c244
        have f291 := f243.ext c244
        have f292 := f216.ext c218
        have f293 := f292.ext cb219
        have f294 := f293.chg cw221 (by omega)
        have f295 := f294.ext c244
        have f296 := f217.ext c218
        have f297 := f296.ext cb219
        have f298 := f297.chg cw221 (by omega)
        have f299 := f298.ext c244
        have f300 := f234.ext c244
        refine dx_region (fun w' => Chg 0 0 w244 w') (by kernel_rfl) (Chg.zero (Chg.drew _)) ?_
        have d301 := Chg.drew w244
        have s301 : Chg 0 0 w244 (World.drew w244) := Chg.zero (Chg.drew _)
        have y301 : (World.drew w244).heap.size = w244.heap.size := rfl
        generalize World.drew w244 = w301 at *
        have zw301 := d301.size
        refine dx_take 0 rfl rfl rfl rfl (by kernel_rfl) (by kernel_rfl) (by kernel_rfl) s301 (fun _ hS => px_load rfl ((f268.chg hS (by omega)).loadA (vs := [.bool n1, s1188, .int .i64 p1]) (look_lit rfl) Try.isAgg31 Try.sizeOf31)) ?_
        refine dx_take 1 rfl rfl rfl rfl (by kernel_rfl) (by kernel_rfl) (by kernel_rfl) s301 (fun _ hS => px_load rfl ((f256.chg hS (by omega)).loadA (vs := [.bool n1, v1, .int .i64 p1]) (look_lit rfl) Try.isAgg26 Try.sizeOf26)) ?_
        refine dx_eff 2 rfl (by kernel_rfl) ?_
        have f302 := f283.ext d301
        refine sx_call rfl rfl Try.call17 (c_toDec f302 (by omega)) (fun v303 w303 p303 => ?_)
        obtain ⟨s1303, rfl, os1_303, c303⟩ := p303
        have zw303 := c303.size
        have q305 := Chg.step (l := 0) (h := 0) d301 c303 (by omega)
        have s304 : Chg 0 0 w244 w303 := q305
        refine wl_nil ?_
        refine dx_next s304 ?_
        refine dx_eff 3 rfl (by kernel_rfl) ?_
        have f306 := f295.ext d301
        have f307 := f306.ext c303
        refine sx_call rfl rfl Try.call19 (c_eqDec f307.sv os1_303.sv (by omega)) (fun v308 w308 p308 => ?_)
        obtain ⟨rfl, c308⟩ := p308
        have zw308 := c308.size
        have q310 := Chg.step (l := 0) (h := 0) d301 c303 (by omega)
        have q311 := Chg.step (l := 0) (h := 0) q310 c308 (by omega)
        have s309 : Chg 0 0 w244 w308 := q311
        refine wl_nil ?_
        refine dx_next s309 ?_
        refine dx_take 4 rfl rfl rfl rfl (by kernel_rfl) (by kernel_rfl) (by kernel_rfl) s309 (fun _ hS => px_notP rfl) ?_
        refine dx_done (by kernel_rfl) ?_
        refine q_n (k246 _ _ ?_)
        refine sx_sub (Sub.cons (t := 2) rfl (.cons (t := 3) rfl (.cons (t := 4) rfl (.cons (t := 6) rfl (.cons (t := 7) rfl (.cons (t := 8) rfl (.cons (t := 9) rfl (.cons (t := 10) rfl (.cons (t := 11) rfl (.cons (t := 58) rfl (.nil))))))))))) ?_
        have h4580 : ¬ (¬ (n1 = n1 ∧ z1 = z1 ∧ p1 = p1)) := by simp [mk_length]
        refine sx_condPF rfl h4580 ?_
        refine sx_skip ?_
        refine q_n (k245 _ _ ?_)
        refine sx_seq fun K312 k312 => ?_
        refine sx_seq fun K313 k313 => ?_
        have f314 := f256.ext d301
        have f315 := f314.ext c303
        have f316 := f315.ext c308
        have f317 := f263.ext d301
        have f318 := f317.ext c303
        have f319 := f318.ext c308
        have f320 := f264.ext d301
        have f321 := f320.ext c303
        have f322 := f321.ext c308
        have f323 := f268.ext d301
        have f324 := f323.ext c303
        have f325 := f324.ext c308
        have f326 := f272.ext d301
        have f327 := f326.ext c303
        have f328 := f327.ext c308
        have f329 := f273.ext d301
        have f330 := f329.ext c303
        have f331 := f330.ext c308
        have f332 := f302.ext c303
        have f333 := f332.ext c308
        have f334 := f290.ext d301
        have f335 := f334.ext c303
        have f336 := f335.ext c308
        have f337 := f291.ext d301
        have f338 := f337.ext c303
        have f339 := f338.ext c308
        have f340 := f307.ext c308
        have f341 := f299.ext d301
        have f342 := f341.ext c303
        have f343 := f342.ext c308
        have f344 := f300.ext d301
        have f345 := f344.ext c303
        have f346 := f345.ext c308
        have f347 := os1_303.ext c308
        refine dx_region (fun w' => Chg 0 0 w308 w') (by kernel_rfl) (Chg.zero (Chg.drew _)) ?_
        have d348 := Chg.drew w308
        have s348 : Chg 0 0 w308 (World.drew w308) := Chg.zero (Chg.drew _)
        have y348 : (World.drew w308).heap.size = w308.heap.size := rfl
        generalize World.drew w308 = w348 at *
        have zw348 := d348.size
        refine dx_take 0 rfl rfl rfl rfl (by kernel_rfl) (by kernel_rfl) (by kernel_rfl) s348 (fun _ hS => px_load rfl ((f328.chg hS (by omega)).loadA (vs := [.bool n2, s1204, .int .i64 p2]) (look_lit rfl) Try.isAgg31 Try.sizeOf31)) ?_
        refine dx_take 1 rfl rfl rfl rfl (by kernel_rfl) (by kernel_rfl) (by kernel_rfl) s348 (fun _ hS => px_load rfl ((f319.chg hS (by omega)).loadA (vs := [.bool n2, v2, .int .i64 p2]) (look_lit rfl) Try.isAgg26 Try.sizeOf26)) ?_
        refine dx_eff 2 rfl (by kernel_rfl) ?_
        have f349 := f336.ext d348
        refine sx_call rfl rfl Try.call17 (c_toDec f349 (by omega)) (fun v350 w350 p350 => ?_)
        obtain ⟨s1350, rfl, os1_350, c350⟩ := p350
        have zw350 := c350.size
        have q352 := Chg.step (l := 0) (h := 0) d348 c350 (by omega)
        have s351 : Chg 0 0 w308 w350 := q352
        refine wl_nil ?_
        refine dx_next s351 ?_
        refine dx_eff 3 rfl (by kernel_rfl) ?_
        have f353 := f343.ext d348
        have f354 := f353.ext c350
        refine sx_call rfl rfl Try.call19 (c_eqDec f354.sv os1_350.sv (by omega)) (fun v355 w355 p355 => ?_)
        obtain ⟨rfl, c355⟩ := p355
        have zw355 := c355.size
        have q357 := Chg.step (l := 0) (h := 0) d348 c350 (by omega)
        have q358 := Chg.step (l := 0) (h := 0) q357 c355 (by omega)
        have s356 : Chg 0 0 w308 w355 := q358
        refine wl_nil ?_
        refine dx_next s356 ?_
        refine dx_take 4 rfl rfl rfl rfl (by kernel_rfl) (by kernel_rfl) (by kernel_rfl) s356 (fun _ hS => px_notP rfl) ?_
        refine dx_done (by kernel_rfl) ?_
        refine q_n (k313 _ _ ?_)
        refine sx_sub (Sub.cons (t := 2) rfl (.cons (t := 3) rfl (.cons (t := 4) rfl (.cons (t := 6) rfl (.cons (t := 7) rfl (.cons (t := 8) rfl (.cons (t := 9) rfl (.cons (t := 10) rfl (.cons (t := 11) rfl (.cons (t := 63) rfl (.nil))))))))))) ?_
        have h4583 : ¬ (¬ (n2 = n2 ∧ z2 = z2 ∧ p2 = p2)) := by simp [mk_length]
        refine sx_condPF rfl h4583 ?_
        refine sx_skip ?_
        refine q_n (k312 _ _ ?_)
        refine sx_seq fun K359 k359 => ?_
        refine sx_region ?_
        refine sx_pure rfl rfl rfl (px_assign rfl) ?_
        refine wl_nil ?_
        refine q_n (k359 _ _ ?_)
        refine sx_seq fun K360 k360 => ?_
        refine sx_region ?_
        have f361 := f325.ext d348
        have f362 := f361.ext c350
        have f363 := f362.ext c355
        refine sx_pure rfl rfl rfl (px_load rfl (f363.loadA (vs := [.bool n1, s1188, .int .i64 p1]) (look_lit rfl) Try.isAgg31 Try.sizeOf31)) ?_
        refine sx_pure rfl rfl rfl (px_move rfl) ?_
        have f364 := f340.ext d348
        have f365 := f364.ext c350
        have f366 := f365.ext c355
        refine sx_call rfl rfl Try.call27 (c_markDec f366 (by omega) (by omega)) (fun v367 w367 p367 => ?_)
        obtain ⟨rfl, ov1_367, c367⟩ := p367
        have zw367 := c367.size
        refine sx_pure rfl rfl rfl (px_assign rfl) ?_
        refine wl_nil ?_
        refine q_n (k360 _ _ ?_)
        refine sx_seq fun K368 k368 => ?_
        refine sx_region ?_
        have f369 := f328.ext d348
        have f370 := f369.ext c350
        have f371 := f370.ext c355
        have f372 := f371.chg c367 (by omega)
        refine sx_pure rfl rfl rfl (px_load rfl (f372.loadA (vs := [.bool n2, s1204, .int .i64 p2]) (look_lit rfl) Try.isAgg31 Try.sizeOf31)) ?_
        refine sx_pure rfl rfl rfl (px_move rfl) ?_
        have f373 := f354.ext c355
        have f374 := f373.chg c367 (by omega)
        refine sx_call rfl rfl Try.call27 (c_markDec f374 (by omega) (by omega)) (fun v375 w375 p375 => ?_)
        obtain ⟨rfl, ov1_375, c375⟩ := p375
        have zw375 := c375.size
        refine sx_pure rfl rfl rfl (px_assign rfl) ?_
        refine wl_nil ?_
        refine q_n (k368 _ _ ?_)
        refine sx_sub (Sub.cons (t := 2) rfl (.cons (t := 3) rfl (.cons (t := 4) rfl (.cons (t := 6) rfl (.cons (t := 7) rfl (.cons (t := 10) rfl (.cons (t := 11) rfl (.cons (t := 12) rfl (.nil))))))))) ?_
        refine sx_seq fun K376 k376 => ?_
        refine sx_seq fun K377 k377 => ?_
        refine sx_region ?_
        refine sx_pure rfl rfl rfl (px_move rfl) ?_
        refine sx_pure rfl rfl rfl (px_lt rfl rfl) ?_
        refine sx_pure rfl rfl rfl (px_move rfl) ?_
        have h4589 : ¬ (((1 + ↑(z1).length) + ↑(z2).length : Int) < 0) := by omega
        refine sx_tmpPF (t := 72) rfl h4589 ?_
        refine sx_guardT rfl rfl rfl ?_
        have f378 := f331.ext d348
        have f379 := f378.ext c350
        have f380 := f379.ext c355
        have f381 := f380.chg c367 (by omega)
        have f382 := f381.chg c375 (by omega)
        refine sx_pure rfl rfl rfl (px_load rfl (f382.loadA (vs := [.bool ((dBin fMul n1 z1 p1 n2 z2 p2).1), s218, .int .i64 ((dBin fMul n1 z1 p1 n2 z2 p2).2.2.1)]) (look_lit rfl) Try.isAgg31 Try.sizeOf31)) ?_
        refine sx_guardT rfl rfl rfl ?_
        have f383 := f322.ext d348
        have f384 := f383.ext c350
        have f385 := f384.ext c355
        have f386 := f385.chg c367 (by omega)
        have f387 := f386.chg c375 (by omega)
        refine sx_pure rfl rfl rfl (px_load rfl (f387.loadA (vs := [.bool ((dBin fMul n1 z1 p1 n2 z2 p2).1), gs30x1, .int .i64 ((dBin fMul n1 z1 p1 n2 z2 p2).2.2.1)]) (look_lit rfl) Try.isAgg31 Try.sizeOf31)) ?_
        refine sx_guardT rfl rfl rfl ?_
        have f388 := f346.ext d348
        have f389 := f388.ext c350
        have f390 := f389.ext c355
        have f391 := f390.chg c367 (by omega)
        have f392 := f391.chg c375 (by omega)
        have f393 := f339.ext d348
        have f394 := f393.ext c350
        have f395 := f394.ext c355
        have f396 := f395.chg c367 (by omega)
        have f397 := f396.chg c375 (by omega)
        refine sx_call rfl rfl Try.call19 (c_eqDec f392.sv f397.sv (by omega)) (fun v398 w398 p398 => ?_)
        obtain ⟨rfl, c398⟩ := p398
        have zw398 := c398.size
        refine sx_guardT rfl rfl rfl ?_
        refine sx_pure rfl rfl rfl (px_notP rfl) ?_
        refine sx_pure rfl rfl rfl (px_pick rfl rfl) ?_
        refine sx_pure rfl rfl rfl (px_move rfl) ?_
        have h4589x1 : ¬ (¬ (((dBin fMul n1 z1 p1 n2 z2 p2).1) = ((dBin fMul n1 z1 p1 n2 z2 p2).1) ∧ ((dBin fMul n1 z1 p1 n2 z2 p2).2.1) = ((dBin fMul n1 z1 p1 n2 z2 p2).2.1) ∧ ((dBin fMul n1 z1 p1 n2 z2 p2).2.2.1) = ((dBin fMul n1 z1 p1 n2 z2 p2).2.2.1))) := by simp [mk_length]
        refine sx_tmpPF (t := 78) rfl h4589x1 ?_
        refine sx_guardT rfl rfl rfl ?_
        refine sx_pure rfl rfl rfl (px_move rfl) ?_
        refine sx_guardT rfl rfl rfl ?_
        refine sx_pure rfl rfl rfl (px_move rfl) ?_
        refine sx_guardT rfl rfl rfl ?_
        refine sx_pure rfl rfl rfl (px_neB Try.underlying4 rfl rfl) ?_
        refine sx_pure rfl rfl rfl (px_pick rfl rfl) ?_
        refine wl_nil ?_
        refine q_n (k377 _ _ ?_)
        refine sx_sub (Sub.cons (t := 2) rfl (.cons (t := 3) rfl (.cons (t := 4) rfl (.cons (t := 6) rfl (.cons (t := 7) rfl (.cons (t := 10) rfl (.cons (t := 82) rfl (.nil)))))))) ?_
        have h4589x2 : (((dBin fMul n1 z1 p1 n2 z2 p2).2.2.2) != ((dBin fMul n1 z1 p1 n2 z2 p2).2.2.2)) = false := by simp [mk_length]
        refine sx_condBF rfl h4589x2 ?_
        refine sx_skip ?_
        refine q_n (k376 _ _ ?_)
        refine sx_seq fun K399 k399 => ?_
        refine sx_region ?_
        refine sx_pure rfl rfl rfl (px_assign rfl) ?_
        refine wl_nil ?_
        refine q_n (k399 _ _ ?_)
        refine sx_seq fun K400 k400 => ?_
        refine sx_region ?_
        have f401 := f382.ext c398
        refine sx_pure rfl rfl rfl (px_load rfl (f401.loadA (vs := [.bool ((dBin fMul n1 z1 p1 n2 z2 p2).1), s218, .int .i64 ((dBin fMul n1 z1 p1 n2 z2 p2).2.2.1)]) (look_lit rfl) Try.isAgg31 Try.sizeOf31)) ?_
        refine sx_pure rfl rfl rfl (px_move rfl) ?_
        have f402 := f392.ext c398
        refine sx_call rfl rfl Try.call27 (c_markDec f402 (by omega) (by omega)) (fun v403 w403 p403 => ?_)
        obtain ⟨rfl, ov1_403, c403⟩ := p403
        have zw403 := c403.size
        refine sx_pure rfl rfl rfl (px_assign rfl) ?_
        refine wl_nil ?_
        refine q_n (k400 _ _ ?_)
        refine sx_seq fun K404 k404 => ?_
        refine sx_region ?_
        refine sx_pure rfl rfl rfl (px_assign rfl) ?_
        refine wl_nil ?_
        refine q_n (k404 _ _ ?_)
        refine sx_seq fun K405 k405 => ?_
        refine sx_region ?_
        have f406 := f401.chg c403 (by omega)
        refine sx_pure rfl rfl rfl (px_load rfl (f406.loadA (vs := [.bool ((dBin fMul n1 z1 p1 n2 z2 p2).1), s218, .int .i64 ((dBin fMul n1 z1 p1 n2 z2 p2).2.2.1)]) (look_lit rfl) Try.isAgg31 Try.sizeOf31)) ?_
        refine sx_pure rfl rfl rfl (px_move rfl) ?_
        refine sx_call rfl rfl Try.call28 (c_heldDec ov1_403.sv (by first | omega | (simp only [mk_length]; omega)) (by omega) (by first | assumption | simp [mk_length])) (fun v407 w407 p407 => ?_)
        obtain ⟨rfl, c407⟩ := p407
        have zw407 := c407.size
        refine sx_pure rfl rfl rfl (px_assign rfl) ?_
        refine wl_nil ?_
        refine q_n (k405 _ _ ?_)
        refine sx_sub (Sub.cons (t := 2) rfl (.cons (t := 3) rfl (.cons (t := 4) rfl (.cons (t := 6) rfl (.cons (t := 7) rfl (.cons (t := 10) rfl (.cons (t := 13) rfl (.cons (t := 14) rfl (.nil))))))))) ?_
        refine sx_seq fun K408 k408 => ?_
        refine sx_seq fun K409 k409 => ?_
        refine sx_region ?_
        refine sx_pure rfl rfl rfl (px_move rfl) ?_
        refine sx_pure rfl rfl rfl (px_lt rfl rfl) ?_
        refine wl_nil ?_
        refine q_n (k409 _ _ ?_)
        have h4596 : ¬ ((1 + ↑((mk 1 (((dBin fMul n1 z1 p1 n2 z2 p2).2.1)).length)).length : Int) < 0) := by omega
        refine sx_condPF rfl h4596 ?_
        refine sx_skip ?_
        refine q_n (k408 _ _ ?_)
        refine sx_seq fun K410 k410 => ?_
        refine sx_seq fun K411 k411 => ?_
        refine sx_region ?_
        refine sx_pure rfl rfl rfl (px_move rfl) ?_
        refine sx_pure rfl rfl rfl (px_move rfl) ?_
        refine sx_pure rfl rfl rfl (px_ne rfl rfl) ?_
        refine wl_nil ?_
        refine q_n (k411 _ _ ?_)
        have h4599 : ¬ ((1 + ↑((mk 1 (((dBin fMul n1 z1 p1 n2 z2 p2).2.1)).length)).length : Int) ≠ 1 + ↑(((dBin fMul n1 z1 p1 n2 z2 p2).2.1)).length) := by simp [mk_length]
        refine sx_condPF rfl h4599 ?_
        refine sx_skip ?_
        refine q_n (k410 _ _ ?_)
        refine sx_seq fun K412 k412 => ?_
        refine sx_cut k412 (fun fr w' => ∃ (gb413x0 : Nat) (gs413x1 : Value) (gl413x1 : Nat) (gu413x1 : Nat), fr = [(4, .bool false), (6, .pointer (some ⟨gb30x0, 0, none⟩)), (7, .bool ((dBin fMul n1 z1 p1 n2 z2 p2).2.2.2)), (10, .pointer (some ⟨b219, 0, none⟩)), (13, .int .i64 (1 + ↑(((dBin fMul n1 z1 p1 n2 z2 p2).2.1)).length)), (14, .int .i64 (1 + ↑((mk 1 (((dBin fMul n1 z1 p1 n2 z2 p2).2.1)).length)).length)), (15, .pointer (some ⟨gb413x0, 0, none⟩)), (16, .bool ((dBin fMul n1 z1 p1 n2 z2 p2).2.2.2))] ∧ Chg 0 0 w407 w' ∧ (Blk w' gb413x0 [.bool ((dBin fMul n1 z1 p1 n2 z2 p2).1), gs413x1, .int .i64 ((dBin fMul n1 z1 p1 n2 z2 p2).2.2.1)] 31) ∧ (Own w' gl413x1 gu413x1 gs413x1 intT (((dBin fMul n1 z1 p1 n2 z2 p2).2.1).length) 1 (((dBin fMul n1 z1 p1 n2 z2 p2).2.1).map (Value.int .i64))) ∧ (w407.heap.size ≤ gb413x0 ∧ gb413x0 + 1 ≤ w'.heap.size) ∧ (w407.heap.size ≤ gl413x1 ∧ gu413x1 ≤ w'.heap.size) ∧ (gu413x1 ≤ gb413x0 ∨ gb413x0 + 1 ≤ gl413x1)) (fun kc413 => ?_) ?_
        ·
          have f414 := f316.ext d348
          have f415 := f414.ext c350
          have f416 := f415.ext c355
          have f417 := f416.chg c367 (by omega)
          have f418 := f417.chg c375 (by omega)
          have f419 := f418.ext c398
          have f420 := f419.chg c403 (by omega)
          have f421 := f420.ext c407
          have f422 := f319.ext d348
          have f423 := f422.ext c350
          have f424 := f423.ext c355
          have f425 := f424.chg c367 (by omega)
          have f426 := f425.chg c375 (by omega)
          have f427 := f426.ext c398
          have f428 := f427.chg c403 (by omega)
          have f429 := f428.ext c407
          have f430 := f387.ext c398
          have f431 := f430.chg c403 (by omega)
          have f432 := f431.ext c407
          have f433 := f363.chg c367 (by omega)
          have f434 := f433.chg c375 (by omega)
          have f435 := f434.ext c398
          have f436 := f435.chg c403 (by omega)
          have f437 := f436.ext c407
          have f438 := f372.chg c375 (by omega)
          have f439 := f438.ext c398
          have f440 := f439.chg c403 (by omega)
          have f441 := f440.ext c407
          have f442 := f406.ext c407
          have f443 := f333.ext d348
          have f444 := f443.ext c350
          have f445 := f444.ext c355
          have f446 := f445.chg c367 (by omega)
          have f447 := f446.chg c375 (by omega)
          have f448 := f447.ext c398
          have f449 := f448.chg c403 (by omega)
          have f450 := f449.ext c407
          have f451 := f349.ext c350
          have f452 := f451.ext c355
          have f453 := f452.chg c367 (by omega)
          have f454 := f453.chg c375 (by omega)
          have f455 := f454.ext c398
          have f456 := f455.chg c403 (by omega)
          have f457 := f456.ext c407
          have f458 := f397.ext c398
          have f459 := f458.chg c403 (by omega)
          have f460 := f459.ext c407
          have f461 := ov1_367.chg c375 (by omega)
          have f462 := f461.ext c398
          have f463 := f462.chg c403 (by omega)
          have f464 := f463.ext c407
          have f465 := ov1_375.ext c398
          have f466 := f465.chg c403 (by omega)
          have f467 := f466.ext c407
          have f468 := ov1_403.ext c407
          have f469 := f347.ext d348
          have f470 := f469.ext c350
          have f471 := f470.ext c355
          have f472 := f471.chg c367 (by omega)
          have f473 := f472.chg c375 (by omega)
          have f474 := f473.ext c398
          have f475 := f474.chg c403 (by omega)
          have f476 := f475.ext c407
          have f477 := os1_350.ext c355
          have f478 := f477.chg c367 (by omega)
          have f479 := f478.chg c375 (by omega)
          have f480 := f479.ext c398
          have f481 := f480.chg c403 (by omega)
          have f482 := f481.ext c407
          refine dx_region (fun w' => Chg 0 0 w407 w') (by kernel_rfl) (Chg.zero (Chg.drew _)) ?_
          have d483 := Chg.drew w407
          have s483 : Chg 0 0 w407 (World.drew w407) := Chg.zero (Chg.drew _)
          have y483 : (World.drew w407).heap.size = w407.heap.size := rfl
          generalize World.drew w407 = w483 at *
          have zw483 := d483.size
          refine dx_take 0 rfl rfl rfl rfl (by kernel_rfl) (by kernel_rfl) (by kernel_rfl) s483 (fun _ hS => px_load rfl ((f421.chg hS (by omega)).loadA (vs := [.bool n1, v1, .int .i64 p1]) (look_lit rfl) Try.isAgg26 Try.sizeOf26)) ?_
          refine dx_take 2 rfl rfl rfl rfl (by kernel_rfl) (by kernel_rfl) (by kernel_rfl) s483 (fun _ hS => px_load rfl ((f429.chg hS (by omega)).loadA (vs := [.bool n2, v2, .int .i64 p2]) (look_lit rfl) Try.isAgg26 Try.sizeOf26)) ?_
          refine dx_eff2 1 8 rfl rfl (by kernel_rfl) ?_ ?_
          ·
            have f484 := f450.ext d483
            refine sx_call rfl rfl Try.call17 (c_toDec f484 (by omega)) (fun v485 w485 p485 => ?_)
            obtain ⟨s1485, rfl, os1_485, c485⟩ := p485
            have zw485 := c485.size
            have q487 := Chg.step (l := 0) (h := 0) d483 c485 (by omega)
            have s486 : Chg 0 0 w407 w485 := q487
            refine wl_nil ?_
            refine dx_next s486 ?_
            refine dx_eff2 3 8 rfl rfl (by kernel_rfl) ?_ ?_
            ·
              have f488 := f457.ext d483
              have f489 := f488.ext c485
              refine sx_call rfl rfl Try.call17 (c_toDec f489 (by omega)) (fun v490 w490 p490 => ?_)
              obtain ⟨s1490, rfl, os1_490, c490⟩ := p490
              have zw490 := c490.size
              have q492 := Chg.step (l := 0) (h := 0) d483 c485 (by omega)
              have q493 := Chg.step (l := 0) (h := 0) q492 c490 (by omega)
              have s491 : Chg 0 0 w407 w490 := q493
              refine wl_nil ?_
              refine dx_next s491 ?_
              refine dx_eff2 4 8 rfl rfl (by kernel_rfl) ?_ ?_
              ·
                have f494 := os1_485.ext c490
                refine sx_call rfl rfl Try.call26 (c_iDecMul f494.sv os1_490.sv (by omega)) (fun v495 w495 p495 => ?_)
                obtain ⟨s495, rfl, os_495, hl495, c495⟩ := p495
                have zw495 := c495.size
                have q497 := Chg.step (l := 0) (h := 0) d483 c485 (by omega)
                have q498 := Chg.step (l := 0) (h := 0) q497 c490 (by omega)
                have q499 := Chg.step (l := 0) (h := 0) q498 c495 (by omega)
                have s496 : Chg 0 0 w407 w495 := q499
                refine wl_nil ?_
                refine dx_next s496 ?_
                refine dx_take 5 rfl rfl rfl rfl (by kernel_rfl) (by kernel_rfl) (by kernel_rfl) s496 (fun _ hS => px_move rfl) ?_
                refine dx_take 6 rfl rfl rfl rfl (by kernel_rfl) (by kernel_rfl) (by kernel_rfl) s496 (fun _ hS => px_extract (vs := [.agg #[.bool ((dBin fMul n1 z1 p1 n2 z2 p2).1), s495, .int .i64 ((dBin fMul n1 z1 p1 n2 z2 p2).2.2.1)], .bool ((dBin fMul n1 z1 p1 n2 z2 p2).2.2.2)]) rfl rfl) ?_
                refine dx_take 7 rfl rfl rfl rfl (by kernel_rfl) (by kernel_rfl) (by kernel_rfl) s496 (fun _ hS => px_extract (vs := [.agg #[.bool ((dBin fMul n1 z1 p1 n2 z2 p2).1), s495, .int .i64 ((dBin fMul n1 z1 p1 n2 z2 p2).2.2.1)], .bool ((dBin fMul n1 z1 p1 n2 z2 p2).2.2.2)]) rfl rfl) ?_
                refine dx_eff 8 rfl (by kernel_rfl) ?_
                refine sx_alloc [.bool false, (.slice none 0 0), .int .i64 0] rfl Try.zeroValue31 rfl (fun b500 w501 eb500 sb500 fb500 cb500 => ?_)
                have zw501 := cb500.size
                have q503 := Chg.step (l := 0) (h := 0) d483 c485 (by omega)
                have q504 := Chg.step (l := 0) (h := 0) q503 c490 (by omega)
                have q505 := Chg.step (l := 0) (h := 0) q504 c495 (by omega)
                have q506 := Chg.step (l := 0) (h := 0) q505 cb500 (by omega)
                have s502 : Chg 0 0 w407 w501 := q506
                refine wl_nil ?_
                refine dx_next s502 ?_
                refine dx_eff 9 rfl (by kernel_rfl) ?_
                have f508 := os_495.ext cb500
                refine sx_store (vs := [.bool ((dBin fMul n1 z1 p1 n2 z2 p2).1), s495, .int .i64 ((dBin fMul n1 z1 p1 n2 z2 p2).2.2.1)]) rfl rfl fb500 rfl Try.sizeOf31 (Nat.le_of_ble_eq_true rfl) (one_cons rfl (one_cons f508.one (one_cons rfl one_nil))) (fun w507 sw507 fw507 cw507 => ?_)
                have zw507 := cw507.size
                have gw507 : Blk w507 b500 [.bool ((dBin fMul n1 z1 p1 n2 z2 p2).1), s495, .int .i64 ((dBin fMul n1 z1 p1 n2 z2 p2).2.2.1)] 31 := fw507
                have q510 := Chg.step (l := 0) (h := 0) d483 c485 (by omega)
                have q511 := Chg.step (l := 0) (h := 0) q510 c490 (by omega)
                have q512 := Chg.step (l := 0) (h := 0) q511 c495 (by omega)
                have q513 := Chg.step (l := 0) (h := 0) q512 cb500 (by omega)
                have q514 := Chg.step (l := 0) (h := 0) q513 cw507 (by omega)
                have s509 : Chg 0 0 w407 w507 := q514
                refine wl_nil ?_
                refine dx_next s509 ?_
                refine dx_take 10 rfl rfl rfl rfl (by kernel_rfl) (by kernel_rfl) (by kernel_rfl) s509 (fun _ hS => px_assign rfl) ?_
                refine dx_done (by kernel_rfl) ?_
                have f515 := f508.chg cw507 (by omega)
                have q516 := Chg.step (l := 0) (h := 0) d483 c485 (by omega)
                have q517 := Chg.step (l := 0) (h := 0) q516 c490 (by omega)
                have q518 := Chg.step (l := 0) (h := 0) q517 c495 (by omega)
                have q519 := Chg.step (l := 0) (h := 0) q518 cb500 (by omega)
                have q520 := Chg.step (l := 0) (h := 0) q519 cw507 (by omega)
                exact q_n (kw_sub (Sub.cons (t := 4) rfl (.cons (t := 6) rfl (.cons (t := 7) rfl (.cons (t := 10) rfl (.cons (t := 13) rfl (.cons (t := 14) rfl (.cons (t := 15) rfl (.cons (t := 16) rfl (.nil))))))))) (kc413 _ _ ⟨b500, s495, w490.heap.size, w495.heap.size, rfl, q520, gw507, f515, by omega, by omega, by omega⟩))
              ·
                refine sx_alloc [.bool false, (.slice none 0 0), .int .i64 0] rfl Try.zeroValue31 rfl (fun b521 w522 eb521 sb521 fb521 cb521 => ?_)
                have zw522 := cb521.size
                have q524 := Chg.step (l := 0) (h := 0) d483 c485 (by omega)
                have q525 := Chg.step (l := 0) (h := 0) q524 c490 (by omega)
                have q526 := Chg.step (l := 0) (h := 0) q525 cb521 (by omega)
                have s523 : Chg 0 0 w407 w522 := q526
                refine wl_nil ?_
                refine dx_next s523 ?_
                refine dx_eff 4 rfl (by kernel_rfl) ?_
                have f527 := os1_485.ext c490
                have f528 := f527.ext cb521
                have f529 := os1_490.ext cb521
                refine sx_call rfl rfl Try.call26 (c_iDecMul f528.sv f529.sv (by omega)) (fun v530 w530 p530 => ?_)
                obtain ⟨s530, rfl, os_530, hl530, c530⟩ := p530
                have zw530 := c530.size
                have q532 := Chg.step (l := 0) (h := 0) d483 c485 (by omega)
                have q533 := Chg.step (l := 0) (h := 0) q532 c490 (by omega)
                have q534 := Chg.step (l := 0) (h := 0) q533 cb521 (by omega)
                have q535 := Chg.step (l := 0) (h := 0) q534 c530 (by omega)
                have s531 : Chg 0 0 w407 w530 := q535
                refine wl_nil ?_
                refine dx_next s531 ?_
                refine dx_take 5 rfl rfl rfl rfl (by kernel_rfl) (by kernel_rfl) (by kernel_rfl) s531 (fun _ hS => px_move rfl) ?_
                refine dx_take 6 rfl rfl rfl rfl (by kernel_rfl) (by kernel_rfl) (by kernel_rfl) s531 (fun _ hS => px_extract (vs := [.agg #[.bool ((dBin fMul n1 z1 p1 n2 z2 p2).1), s530, .int .i64 ((dBin fMul n1 z1 p1 n2 z2 p2).2.2.1)], .bool ((dBin fMul n1 z1 p1 n2 z2 p2).2.2.2)]) rfl rfl) ?_
                refine dx_take 7 rfl rfl rfl rfl (by kernel_rfl) (by kernel_rfl) (by kernel_rfl) s531 (fun _ hS => px_extract (vs := [.agg #[.bool ((dBin fMul n1 z1 p1 n2 z2 p2).1), s530, .int .i64 ((dBin fMul n1 z1 p1 n2 z2 p2).2.2.1)], .bool ((dBin fMul n1 z1 p1 n2 z2 p2).2.2.2)]) rfl rfl) ?_
                refine dx_eff 9 rfl (by kernel_rfl) ?_
                have f537 := fb521.ext c530
                refine sx_store (vs := [.bool ((dBin fMul n1 z1 p1 n2 z2 p2).1), s530, .int .i64 ((dBin fMul n1 z1 p1 n2 z2 p2).2.2.1)]) rfl rfl f537 rfl Try.sizeOf31 (Nat.le_of_ble_eq_true rfl) (one_cons rfl (one_cons os_530.one (one_cons rfl one_nil))) (fun w536 sw536 fw536 cw536 => ?_)
                have zw536 := cw536.size
                have gw536 : Blk w536 b521 [.bool ((dBin fMul n1 z1 p1 n2 z2 p2).1), s530, .int .i64 ((dBin fMul n1 z1 p1 n2 z2 p2).2.2.1)] 31 := fw536
                have q539 := Chg.step (l := 0) (h := 0) d483 c485 (by omega)
                have q540 := Chg.step (l := 0) (h := 0) q539 c490 (by omega)
                have q541 := Chg.step (l := 0) (h := 0) q540 cb521 (by omega)
                have q542 := Chg.step (l := 0) (h := 0) q541 c530 (by omega)
                have q543 := Chg.step (l := 0) (h := 0) q542 cw536 (by omega)
                have s538 : Chg 0 0 w407 w536 := q543
                refine wl_nil ?_
                refine dx_next s538 ?_
                refine dx_take 10 rfl rfl rfl rfl (by kernel_rfl) (by kernel_rfl) (by kernel_rfl) s538 (fun _ hS => px_assign rfl) ?_
                refine dx_done (by kernel_rfl) ?_
                have f544 := os_530.chg cw536 (by omega)
                have q545 := Chg.step (l := 0) (h := 0) d483 c485 (by omega)
                have q546 := Chg.step (l := 0) (h := 0) q545 c490 (by omega)
                have q547 := Chg.step (l := 0) (h := 0) q546 cb521 (by omega)
                have q548 := Chg.step (l := 0) (h := 0) q547 c530 (by omega)
                have q549 := Chg.step (l := 0) (h := 0) q548 cw536 (by omega)
                exact q_n (kw_sub (Sub.cons (t := 4) rfl (.cons (t := 6) rfl (.cons (t := 7) rfl (.cons (t := 10) rfl (.cons (t := 13) rfl (.cons (t := 14) rfl (.cons (t := 15) rfl (.cons (t := 16) rfl (.nil))))))))) (kc413 _ _ ⟨b521, s530, w522.heap.size, w530.heap.size, rfl, q549, gw536, f544, by omega, by omega, by omega⟩))
            ·
              refine sx_alloc [.bool false, (.slice none 0 0), .int .i64 0] rfl Try.zeroValue31 rfl (fun b550 w551 eb550 sb550 fb550 cb550 => ?_)
              have zw551 := cb550.size
              have q553 := Chg.step (l := 0) (h := 0) d483 c485 (by omega)
              have q554 := Chg.step (l := 0) (h := 0) q553 cb550 (by omega)
              have s552 : Chg 0 0 w407 w551 := q554
              refine wl_nil ?_
              refine dx_next s552 ?_
              refine dx_eff 3 rfl (by kernel_rfl) ?_
              have f555 := f457.ext d483
              have f556 := f555.ext c485
              have f557 := f556.ext cb550
              refine sx_call rfl rfl Try.call17 (c_toDec f557 (by omega)) (fun v558 w558 p558 => ?_)
              obtain ⟨s1558, rfl, os1_558, c558⟩ := p558
              have zw558 := c558.size
              have q560 := Chg.step (l := 0) (h := 0) d483 c485 (by omega)
              have q561 := Chg.step (l := 0) (h := 0) q560 cb550 (by omega)
              have q562 := Chg.step (l := 0) (h := 0) q561 c558 (by omega)
              have s559 : Chg 0 0 w407 w558 := q562
              refine wl_nil ?_
              refine dx_next s559 ?_
              refine dx_eff 4 rfl (by kernel_rfl) ?_
              have f563 := os1_485.ext cb550
              have f564 := f563.ext c558
              refine sx_call rfl rfl Try.call26 (c_iDecMul f564.sv os1_558.sv (by omega)) (fun v565 w565 p565 => ?_)
              obtain ⟨s565, rfl, os_565, hl565, c565⟩ := p565
              have zw565 := c565.size
              have q567 := Chg.step (l := 0) (h := 0) d483 c485 (by omega)
              have q568 := Chg.step (l := 0) (h := 0) q567 cb550 (by omega)
              have q569 := Chg.step (l := 0) (h := 0) q568 c558 (by omega)
              have q570 := Chg.step (l := 0) (h := 0) q569 c565 (by omega)
              have s566 : Chg 0 0 w407 w565 := q570
              refine wl_nil ?_
              refine dx_next s566 ?_
              refine dx_take 5 rfl rfl rfl rfl (by kernel_rfl) (by kernel_rfl) (by kernel_rfl) s566 (fun _ hS => px_move rfl) ?_
              refine dx_take 6 rfl rfl rfl rfl (by kernel_rfl) (by kernel_rfl) (by kernel_rfl) s566 (fun _ hS => px_extract (vs := [.agg #[.bool ((dBin fMul n1 z1 p1 n2 z2 p2).1), s565, .int .i64 ((dBin fMul n1 z1 p1 n2 z2 p2).2.2.1)], .bool ((dBin fMul n1 z1 p1 n2 z2 p2).2.2.2)]) rfl rfl) ?_
              refine dx_take 7 rfl rfl rfl rfl (by kernel_rfl) (by kernel_rfl) (by kernel_rfl) s566 (fun _ hS => px_extract (vs := [.agg #[.bool ((dBin fMul n1 z1 p1 n2 z2 p2).1), s565, .int .i64 ((dBin fMul n1 z1 p1 n2 z2 p2).2.2.1)], .bool ((dBin fMul n1 z1 p1 n2 z2 p2).2.2.2)]) rfl rfl) ?_
              refine dx_eff 9 rfl (by kernel_rfl) ?_
              have f572 := fb550.ext c558
              have f573 := f572.ext c565
              refine sx_store (vs := [.bool ((dBin fMul n1 z1 p1 n2 z2 p2).1), s565, .int .i64 ((dBin fMul n1 z1 p1 n2 z2 p2).2.2.1)]) rfl rfl f573 rfl Try.sizeOf31 (Nat.le_of_ble_eq_true rfl) (one_cons rfl (one_cons os_565.one (one_cons rfl one_nil))) (fun w571 sw571 fw571 cw571 => ?_)
              have zw571 := cw571.size
              have gw571 : Blk w571 b550 [.bool ((dBin fMul n1 z1 p1 n2 z2 p2).1), s565, .int .i64 ((dBin fMul n1 z1 p1 n2 z2 p2).2.2.1)] 31 := fw571
              have q575 := Chg.step (l := 0) (h := 0) d483 c485 (by omega)
              have q576 := Chg.step (l := 0) (h := 0) q575 cb550 (by omega)
              have q577 := Chg.step (l := 0) (h := 0) q576 c558 (by omega)
              have q578 := Chg.step (l := 0) (h := 0) q577 c565 (by omega)
              have q579 := Chg.step (l := 0) (h := 0) q578 cw571 (by omega)
              have s574 : Chg 0 0 w407 w571 := q579
              refine wl_nil ?_
              refine dx_next s574 ?_
              refine dx_take 10 rfl rfl rfl rfl (by kernel_rfl) (by kernel_rfl) (by kernel_rfl) s574 (fun _ hS => px_assign rfl) ?_
              refine dx_done (by kernel_rfl) ?_
              have f580 := os_565.chg cw571 (by omega)
              have q581 := Chg.step (l := 0) (h := 0) d483 c485 (by omega)
              have q582 := Chg.step (l := 0) (h := 0) q581 cb550 (by omega)
              have q583 := Chg.step (l := 0) (h := 0) q582 c558 (by omega)
              have q584 := Chg.step (l := 0) (h := 0) q583 c565 (by omega)
              have q585 := Chg.step (l := 0) (h := 0) q584 cw571 (by omega)
              exact q_n (kw_sub (Sub.cons (t := 4) rfl (.cons (t := 6) rfl (.cons (t := 7) rfl (.cons (t := 10) rfl (.cons (t := 13) rfl (.cons (t := 14) rfl (.cons (t := 15) rfl (.cons (t := 16) rfl (.nil))))))))) (kc413 _ _ ⟨b550, s565, w558.heap.size, w565.heap.size, rfl, q585, gw571, f580, by omega, by omega, by omega⟩))
          ·
            refine sx_alloc [.bool false, (.slice none 0 0), .int .i64 0] rfl Try.zeroValue31 rfl (fun b586 w587 eb586 sb586 fb586 cb586 => ?_)
            have zw587 := cb586.size
            have q589 := Chg.step (l := 0) (h := 0) d483 cb586 (by omega)
            have s588 : Chg 0 0 w407 w587 := q589
            refine wl_nil ?_
            refine dx_next s588 ?_
            refine dx_eff 1 rfl (by kernel_rfl) ?_
            have f590 := f450.ext d483
            have f591 := f590.ext cb586
            refine sx_call rfl rfl Try.call17 (c_toDec f591 (by omega)) (fun v592 w592 p592 => ?_)
            obtain ⟨s1592, rfl, os1_592, c592⟩ := p592
            have zw592 := c592.size
            have q594 := Chg.step (l := 0) (h := 0) d483 cb586 (by omega)
            have q595 := Chg.step (l := 0) (h := 0) q594 c592 (by omega)
            have s593 : Chg 0 0 w407 w592 := q595
            refine wl_nil ?_
            refine dx_next s593 ?_
            refine dx_eff 3 rfl (by kernel_rfl) ?_
            have f596 := f457.ext d483
            have f597 := f596.ext cb586
            have f598 := f597.ext c592
            refine sx_call rfl rfl Try.call17 (c_toDec f598 (by omega)) (fun v599 w599 p599 => ?_)
            obtain ⟨s1599, rfl, os1_599, c599⟩ := p599
            have zw599 := c599.size
            have q601 := Chg.step (l := 0) (h := 0) d483 cb586 (by omega)
            have q602 := Chg.step (l := 0) (h := 0) q601 c592 (by omega)
            have q603 := Chg.step (l := 0) (h := 0) q602 c599 (by omega)
            have s600 : Chg 0 0 w407 w599 := q603
            refine wl_nil ?_
            refine dx_next s600 ?_
            refine dx_eff 4 rfl (by kernel_rfl) ?_
            have f604 := os1_592.ext c599
            refine sx_call rfl rfl Try.call26 (c_iDecMul f604.sv os1_599.sv (by omega)) (fun v605 w605 p605 => ?_)
            obtain ⟨s605, rfl, os_605, hl605, c605⟩ := p605
            have zw605 := c605.size
            have q607 := Chg.step (l := 0) (h := 0) d483 cb586 (by omega)
            have q608 := Chg.step (l := 0) (h := 0) q607 c592 (by omega)
            have q609 := Chg.step (l := 0) (h := 0) q608 c599 (by omega)
            have q610 := Chg.step (l := 0) (h := 0) q609 c605 (by omega)
            have s606 : Chg 0 0 w407 w605 := q610
            refine wl_nil ?_
            refine dx_next s606 ?_
            refine dx_take 5 rfl rfl rfl rfl (by kernel_rfl) (by kernel_rfl) (by kernel_rfl) s606 (fun _ hS => px_move rfl) ?_
            refine dx_take 6 rfl rfl rfl rfl (by kernel_rfl) (by kernel_rfl) (by kernel_rfl) s606 (fun _ hS => px_extract (vs := [.agg #[.bool ((dBin fMul n1 z1 p1 n2 z2 p2).1), s605, .int .i64 ((dBin fMul n1 z1 p1 n2 z2 p2).2.2.1)], .bool ((dBin fMul n1 z1 p1 n2 z2 p2).2.2.2)]) rfl rfl) ?_
            refine dx_take 7 rfl rfl rfl rfl (by kernel_rfl) (by kernel_rfl) (by kernel_rfl) s606 (fun _ hS => px_extract (vs := [.agg #[.bool ((dBin fMul n1 z1 p1 n2 z2 p2).1), s605, .int .i64 ((dBin fMul n1 z1 p1 n2 z2 p2).2.2.1)], .bool ((dBin fMul n1 z1 p1 n2 z2 p2).2.2.2)]) rfl rfl) ?_
            refine dx_eff 9 rfl (by kernel_rfl) ?_
            have f612 := fb586.ext c592
            have f613 := f612.ext c599
            have f614 := f613.ext c605
            refine sx_store (vs := [.bool ((dBin fMul n1 z1 p1 n2 z2 p2).1), s605, .int .i64 ((dBin fMul n1 z1 p1 n2 z2 p2).2.2.1)]) rfl rfl f614 rfl Try.sizeOf31 (Nat.le_of_ble_eq_true rfl) (one_cons rfl (one_cons os_605.one (one_cons rfl one_nil))) (fun w611 sw611 fw611 cw611 => ?_)
            have zw611 := cw611.size
            have gw611 : Blk w611 b586 [.bool ((dBin fMul n1 z1 p1 n2 z2 p2).1), s605, .int .i64 ((dBin fMul n1 z1 p1 n2 z2 p2).2.2.1)] 31 := fw611
            have q616 := Chg.step (l := 0) (h := 0) d483 cb586 (by omega)
            have q617 := Chg.step (l := 0) (h := 0) q616 c592 (by omega)
            have q618 := Chg.step (l := 0) (h := 0) q617 c599 (by omega)
            have q619 := Chg.step (l := 0) (h := 0) q618 c605 (by omega)
            have q620 := Chg.step (l := 0) (h := 0) q619 cw611 (by omega)
            have s615 : Chg 0 0 w407 w611 := q620
            refine wl_nil ?_
            refine dx_next s615 ?_
            refine dx_take 10 rfl rfl rfl rfl (by kernel_rfl) (by kernel_rfl) (by kernel_rfl) s615 (fun _ hS => px_assign rfl) ?_
            refine dx_done (by kernel_rfl) ?_
            have f621 := os_605.chg cw611 (by omega)
            have q622 := Chg.step (l := 0) (h := 0) d483 cb586 (by omega)
            have q623 := Chg.step (l := 0) (h := 0) q622 c592 (by omega)
            have q624 := Chg.step (l := 0) (h := 0) q623 c599 (by omega)
            have q625 := Chg.step (l := 0) (h := 0) q624 c605 (by omega)
            have q626 := Chg.step (l := 0) (h := 0) q625 cw611 (by omega)
            exact q_n (kw_sub (Sub.cons (t := 4) rfl (.cons (t := 6) rfl (.cons (t := 7) rfl (.cons (t := 10) rfl (.cons (t := 13) rfl (.cons (t := 14) rfl (.cons (t := 15) rfl (.cons (t := 16) rfl (.nil))))))))) (kc413 _ _ ⟨b586, s605, w599.heap.size, w605.heap.size, rfl, q626, gw611, f621, by omega, by omega, by omega⟩))
        ·
          rintro fr w'413 ⟨gb413x0, gs413x1, gl413x1, gu413x1, rfl, cw'413, xgb413x0, xgs413x1, ygb413x0, ygl413x1, dgl413x1xgb413x0⟩
          have zw'413 := cw'413.size
          refine sx_seq fun K627 k627 => ?_
          refine sx_seq fun K628 k628 => ?_
          refine sx_region ?_
          refine sx_pure rfl rfl rfl (px_load rfl (xgb413x0.loadA (vs := [.bool ((dBin fMul n1 z1 p1 n2 z2 p2).1), gs413x1, .int .i64 ((dBin fMul n1 z1 p1 n2 z2 p2).2.2.1)]) (look_lit rfl) Try.isAgg31 Try.sizeOf31)) ?_
          have f629 := f387.ext c398
          have f630 := f629.chg c403 (by omega)
          have f631 := f630.ext c407
          have f632 := f631.ext cw'413
          refine sx_pure rfl rfl rfl (px_load rfl (f632.loadA (vs := [.bool ((dBin fMul n1 z1 p1 n2 z2 p2).1), gs30x1, .int .i64 ((dBin fMul n1 z1 p1 n2 z2 p2).2.2.1)]) (look_lit rfl) Try.isAgg31 Try.sizeOf31)) ?_
          have f633 := f397.ext c398
          have f634 := f633.chg c403 (by omega)
          have f635 := f634.ext c407
          have f636 := f635.ext cw'413
          refine sx_call rfl rfl Try.call19 (c_eqDec xgs413x1.sv f636.sv (by omega)) (fun v637 w637 p637 => ?_)
          obtain ⟨rfl, c637⟩ := p637
          have zw637 := c637.size
          refine sx_pure rfl rfl rfl (px_notP rfl) ?_
          refine sx_pure rfl rfl rfl (px_move rfl) ?_
          have h4603 : ¬ (¬ (((dBin fMul n1 z1 p1 n2 z2 p2).1) = ((dBin fMul n1 z1 p1 n2 z2 p2).1) ∧ ((dBin fMul n1 z1 p1 n2 z2 p2).2.1) = ((dBin fMul n1 z1 p1 n2 z2 p2).2.1) ∧ ((dBin fMul n1 z1 p1 n2 z2 p2).2.2.1) = ((dBin fMul n1 z1 p1 n2 z2 p2).2.2.1))) := by simp [mk_length]
          refine sx_tmpPF (t := 106) rfl h4603 ?_
          refine sx_guardT rfl rfl rfl ?_
          refine sx_pure rfl rfl rfl (px_move rfl) ?_
          refine sx_guardT rfl rfl rfl ?_
          refine sx_pure rfl rfl rfl (px_move rfl) ?_
          refine sx_guardT rfl rfl rfl ?_
          refine sx_pure rfl rfl rfl (px_neB Try.underlying4 rfl rfl) ?_
          refine sx_pure rfl rfl rfl (px_pick rfl rfl) ?_
          refine wl_nil ?_
          refine q_n (k628 _ _ ?_)
          refine sx_sub (Sub.cons (t := 4) rfl (.cons (t := 10) rfl (.cons (t := 13) rfl (.cons (t := 14) rfl (.cons (t := 110) rfl (.nil)))))) ?_
          have h4603x1 : (((dBin fMul n1 z1 p1 n2 z2 p2).2.2.2) != ((dBin fMul n1 z1 p1 n2 z2 p2).2.2.2)) = false := by simp [mk_length]
          refine sx_condBF rfl h4603x1 ?_
          refine sx_skip ?_
          refine q_n (k627 _ _ ?_)
          refine sx_seq fun K638 k638 => ?_
          refine sx_region ?_
          refine sx_pure rfl rfl rfl (px_assign rfl) ?_
          refine wl_nil ?_
          refine q_n (k638 _ _ ?_)
          refine sx_seq fun K639 k639 => ?_
          refine sx_region ?_
          have f640 := f406.ext c407
          have f641 := f640.ext cw'413
          have f642 := f641.ext c637
          refine sx_pure rfl rfl rfl (px_load rfl (f642.loadA (vs := [.bool ((dBin fMul n1 z1 p1 n2 z2 p2).1), s218, .int .i64 ((dBin fMul n1 z1 p1 n2 z2 p2).2.2.1)]) (look_lit rfl) Try.isAgg31 Try.sizeOf31)) ?_
          refine sx_pure rfl rfl rfl (px_move rfl) ?_
          have f643 := ov1_403.ext c407
          have f644 := f643.ext cw'413
          have f645 := f644.ext c637
          refine sx_call rfl rfl Try.call28 (c_heldDec f645.sv (by first | omega | (simp only [mk_length]; omega)) (by omega) (by first | assumption | simp [mk_length])) (fun v646 w646 p646 => ?_)
          obtain ⟨rfl, c646⟩ := p646
          have zw646 := c646.size
          refine sx_pure rfl rfl rfl (px_assign rfl) ?_
          refine wl_nil ?_
          refine q_n (k639 _ _ ?_)
          refine sx_seq fun K647 k647 => ?_
          refine sx_seq fun K648 k648 => ?_
          refine sx_region ?_
          refine sx_pure rfl rfl rfl (px_move rfl) ?_
          refine sx_pure rfl rfl rfl (px_lt rfl rfl) ?_
          refine wl_nil ?_
          refine q_n (k648 _ _ ?_)
          have h4608 : ¬ ((1 + ↑((mk 1 (((dBin fMul n1 z1 p1 n2 z2 p2).2.1)).length)).length : Int) < 0) := by omega
          refine sx_condPF rfl h4608 ?_
          refine sx_skip ?_
          refine q_n (k647 _ _ ?_)
          refine sx_seq fun K649 k649 => ?_
          refine sx_seq fun K650 k650 => ?_
          refine sx_region ?_
          refine sx_pure rfl rfl rfl (px_move rfl) ?_
          refine sx_pure rfl rfl rfl (px_move rfl) ?_
          refine sx_pure rfl rfl rfl (px_ne rfl rfl) ?_
          refine wl_nil ?_
          refine q_n (k650 _ _ ?_)
          have h4611 : ¬ ((1 + ↑((mk 1 (((dBin fMul n1 z1 p1 n2 z2 p2).2.1)).length)).length : Int) ≠ 1 + ↑(((dBin fMul n1 z1 p1 n2 z2 p2).2.1)).length) := by simp [mk_length]
          refine sx_condPF rfl h4611 ?_
          refine sx_skip ?_
          refine q_n (k649 _ _ ?_)
          refine sx_seq fun K651 k651 => ?_
          refine sx_region ?_
          refine sx_pure rfl rfl rfl (px_assign rfl) ?_
          refine wl_nil ?_
          refine q_n (k651 _ _ ?_)
          refine sx_retc ?_
          refine sx_ret1 Try.results5 rfl ?_
          have q652 := Chg.step (l := 0) (h := 0) cb2 cb4 (by omega)
          have q653 := Chg.step (l := 0) (h := 0) q652 c11 (by omega)
          have q654 := Chg.step (l := 0) (h := 0) q653 c22 (by omega)
          have q655 := Chg.step (l := 0) (h := 0) q654 cw'30 (by omega)
          have q656 := Chg.step (l := 0) (h := 0) q655 c188 (by omega)
          have q657 := Chg.step (l := 0) (h := 0) q656 cb189 (by omega)
          have q658 := Chg.step (l := 0) (h := 0) q657 cw191 (by omega)
          have q659 := Chg.step (l := 0) (h := 0) q658 c204 (by omega)
          have q660 := Chg.step (l := 0) (h := 0) q659 cb205 (by omega)
          have q661 := Chg.step (l := 0) (h := 0) q660 cw207 (by omega)
          have q662 := Chg.step (l := 0) (h := 0) q661 c218 (by omega)
          have q663 := Chg.step (l := 0) (h := 0) q662 cb219 (by omega)
          have q664 := Chg.step (l := 0) (h := 0) q663 cw221 (by omega)
          have q665 := Chg.step (l := 0) (h := 0) q664 c244 (by omega)
          have q666 := Chg.step (l := 0) (h := 0) q665 d301 (by omega)
          have q667 := Chg.step (l := 0) (h := 0) q666 c303 (by omega)
          have q668 := Chg.step (l := 0) (h := 0) q667 c308 (by omega)
          have q669 := Chg.step (l := 0) (h := 0) q668 d348 (by omega)
          have q670 := Chg.step (l := 0) (h := 0) q669 c350 (by omega)
          have q671 := Chg.step (l := 0) (h := 0) q670 c355 (by omega)
          have q672 := Chg.step (l := 0) (h := 0) q671 c367 (by omega)
          have q673 := Chg.step (l := 0) (h := 0) q672 c375 (by omega)
          have q674 := Chg.step (l := 0) (h := 0) q673 c398 (by omega)
          have q675 := Chg.step (l := 0) (h := 0) q674 c403 (by omega)
          have q676 := Chg.step (l := 0) (h := 0) q675 c407 (by omega)
          have q677 := Chg.step (l := 0) (h := 0) q676 cw'413 (by omega)
          have q678 := Chg.step (l := 0) (h := 0) q677 c637 (by omega)
          have q679 := Chg.step (l := 0) (h := 0) q678 c646 (by omega)
          exact ⟨rfl, q679⟩

end Go.Proofs.Yteiifmkclokgnaa
