/- Contracts of functions of the program: what each call returns, and that it changes nothing that was. Conditions: as each says. -/
import Derived.Test.YteiifmkclokgnaaTy
import Derived.Test.YteiifmkclokgnaaNatC
set_option linter.unusedVariables false
set_option linter.unusedSimpArgs false
namespace Go.Proofs.Yteiifmkclokgnaa
open Go Go.RowKit
set_option maxRecDepth 100000
theorem c_szIntS {w : World} {va : Value} {lva uva : Nat} {zs : List Int} {n : Int} (hva : Sl w lva uva va (zs)) (bzs : zs.length ≤ 9223372036854775807) (hn : 0 ≤ n ∧ n ≤ 1048576) :
    Ret Try.prog 74 [va, .int .i64 n] w fun v w' => ∃ r, v = .int .i64 (r) ∧ (r < 0 ∨ (0 ≤ r ∧ r = n - (zs).length)) ∧ Chg 0 0 w w' := by
  have hva0 := hva.fit
  refine sx_enter Try.func74 rfl Try.ntmps74 (Nat.le_of_ble_eq_true rfl) ?_
  refine sx_seq fun K1 k1 => ?_
  refine sx_region ?_
  refine sx_pure rfl rfl rfl (px_assign rfl) ?_
  refine wl_nil ?_
  refine q_n (k1 _ _ ?_)
  refine sx_seq fun K2 k2 => ?_
  refine sx_region ?_
  refine sx_pure rfl rfl rfl (px_move rfl) ?_
  refine sx_pure rfl rfl rfl (px_move rfl) ?_
  refine sx_pure rfl rfl rfl (px_len rfl Try.underlying22 hva0) ?_
  refine sx_pure rfl rfl rfl (px_sub rfl rfl (by omega)) ?_
  refine sx_pure rfl rfl rfl (px_assign rfl) ?_
  refine wl_nil ?_
  refine q_n (k2 _ _ ?_)
  refine sx_seq fun K3 k3 => ?_
  refine sx_seq fun K4 k4 => ?_
  refine sx_region ?_
  refine sx_pure rfl rfl rfl (px_move rfl) ?_
  refine sx_pure rfl rfl rfl (px_lt rfl rfl) ?_
  refine wl_nil ?_
  refine q_n (k4 _ _ ?_)
  refine sx_condP rfl (fun h248 => ?_) (fun h248 => ?_)
  ·
    refine sx_seq fun K5 k5 => ?_
    refine sx_region ?_
    refine sx_pure rfl rfl rfl (px_assign rfl) ?_
    refine wl_nil ?_
    refine q_n (k5 _ _ ?_)
    refine sx_retc ?_
    refine q_r (sx_ret1 Try.results74 rfl ?_)
    exact ⟨_, rfl, by omega, (Chg.refl 0 0 _)⟩
  ·
    refine sx_skip ?_
    refine q_n (k3 _ _ ?_)
    refine sx_seq fun K6 k6 => ?_
    refine sx_region ?_
    refine sx_pure rfl rfl rfl (px_move rfl) ?_
    refine sx_pure rfl rfl rfl (px_assign rfl) ?_
    refine wl_nil ?_
    refine q_n (k6 _ _ ?_)
    refine sx_retc ?_
    refine sx_ret1 Try.results74 rfl ?_
    exact ⟨_, rfl, by omega, (Chg.refl 0 0 _)⟩

theorem c_szSigned {w : World} {n1 : Bool} {v1 : Value} {lv1 uv1 : Nat} {z1 : List Int} {n : Int} (hv1 : Sl w lv1 uv1 v1 (z1)) (bz1 : z1.length ≤ 9223372036854775807) (hn : 0 ≤ n ∧ n ≤ 1048576) :
    Ret Try.prog 40 [.agg #[.bool n1, v1], .int .i64 n] w fun v w' => ∃ r, v = .int .i64 (r) ∧ (r < 0 ∨ (0 ≤ r ∧ r = n - (z1).length)) ∧ Chg 0 0 w w' := by
  have hv10 := hv1.fit
  refine sx_enter Try.func40 rfl Try.ntmps40 (Nat.le_of_ble_eq_true rfl) ?_
  refine sx_seq fun K1 k1 => ?_
  refine sx_region ?_
  refine sx_box [.bool n1, v1] rfl rfl rfl (fun b2 w3 eb2 sb2 fb2 cb2 => ?_)
  have zw3 := cb2.size
  refine sx_pure rfl rfl rfl (px_assign rfl) ?_
  refine wl_nil ?_
  refine q_n (k1 _ _ ?_)
  refine sx_seq fun K4 k4 => ?_
  refine sx_region ?_
  refine sx_pure rfl rfl rfl (px_field rfl xfld24x1) ?_
  refine sx_pure rfl rfl rfl (px_load rfl (fb2.load1 rfl Try.isAgg22)) ?_
  refine sx_pure rfl rfl rfl (px_move rfl) ?_
  have f5 := hv10.ext cb2
  refine sx_call rfl rfl Try.call74 (c_szIntS f5 (by omega) (by omega)) (fun v6 w6 p6 => ?_)
  obtain ⟨r6, rfl, hr6, c6⟩ := p6
  have zw6 := c6.size
  refine sx_pure rfl rfl rfl (px_assign rfl) ?_
  refine wl_nil ?_
  refine q_n (k4 _ _ ?_)
  refine sx_seq fun K7 k7 => ?_
  refine sx_seq fun K8 k8 => ?_
  refine sx_region ?_
  refine sx_pure rfl rfl rfl (px_move rfl) ?_
  refine sx_pure rfl rfl rfl (px_lt rfl rfl) ?_
  refine wl_nil ?_
  refine q_n (k8 _ _ ?_)
  refine sx_condP rfl (fun h256 => ?_) (fun h256 => ?_)
  ·
    refine sx_seq fun K9 k9 => ?_
    refine sx_region ?_
    refine sx_pure rfl rfl rfl (px_assign rfl) ?_
    refine wl_nil ?_
    refine q_n (k9 _ _ ?_)
    refine sx_retc ?_
    refine q_r (sx_ret1 Try.results40 rfl ?_)
    have q10 := Chg.step (l := 0) (h := 0) cb2 c6 (by omega)
    exact ⟨_, rfl, by omega, q10⟩
  ·
    refine sx_skip ?_
    refine q_n (k7 _ _ ?_)
    refine sx_seq fun K11 k11 => ?_
    refine sx_region ?_
    refine sx_pure rfl rfl rfl (px_move rfl) ?_
    refine sx_pure rfl rfl rfl (px_assign rfl) ?_
    refine wl_nil ?_
    refine q_n (k11 _ _ ?_)
    refine sx_retc ?_
    refine sx_ret1 Try.results40 rfl ?_
    have q12 := Chg.step (l := 0) (h := 0) cb2 c6 (by omega)
    exact ⟨_, rfl, by omega, q12⟩

theorem c_szMoney {w : World} {c1 : ByteArray} {n1 : Bool} {v1 : Value} {lv1 uv1 : Nat} {z1 : List Int} {n : Int} (hv1 : Sl w lv1 uv1 v1 (z1)) (bz1 : z1.length ≤ 9223372036854775807) (bc1 : c1.size ≤ 9223372036854775807) (hn : 0 ≤ n ∧ n ≤ 1048576) :
    Ret Try.prog 20 [.agg #[.string c1, .bool n1, v1], .int .i64 n] w fun v w' => ∃ r, v = .int .i64 (r) ∧ (r < 0 ∨ (0 ≤ r ∧ r ≤ n - (z1).length)) ∧ Chg 0 0 w w' := by
  have hv10 := hv1.fit
  refine sx_enter Try.func20 rfl Try.ntmps20 (Nat.le_of_ble_eq_true rfl) ?_
  refine sx_seq fun K1 k1 => ?_
  refine sx_region ?_
  refine sx_box [.string c1, .bool n1, v1] rfl rfl rfl (fun b2 w3 eb2 sb2 fb2 cb2 => ?_)
  have zw3 := cb2.size
  refine sx_pure rfl rfl rfl (px_assign rfl) ?_
  refine wl_nil ?_
  refine q_n (k1 _ _ ?_)
  refine sx_seq fun K4 k4 => ?_
  refine sx_region ?_
  refine sx_pure rfl rfl rfl (px_move rfl) ?_
  refine sx_pure rfl rfl rfl (px_field rfl xfld36x0) ?_
  refine sx_pure rfl rfl rfl (px_load rfl (fb2.load1 rfl Try.isAgg9)) ?_
  refine sx_pure rfl rfl rfl (px_lenS rfl Try.underlying9) ?_
  refine sx_pure rfl rfl rfl (px_sub rfl rfl (by omega)) ?_
  refine sx_pure rfl rfl rfl (px_assign rfl) ?_
  refine wl_nil ?_
  refine q_n (k4 _ _ ?_)
  refine sx_seq fun K5 k5 => ?_
  refine sx_seq fun K6 k6 => ?_
  refine sx_region ?_
  refine sx_pure rfl rfl rfl (px_move rfl) ?_
  refine sx_pure rfl rfl rfl (px_lt rfl rfl) ?_
  refine wl_nil ?_
  refine q_n (k6 _ _ ?_)
  refine sx_condP rfl (fun h436 => ?_) (fun h436 => ?_)
  ·
    refine sx_seq fun K7 k7 => ?_
    refine sx_region ?_
    refine sx_pure rfl rfl rfl (px_assign rfl) ?_
    refine wl_nil ?_
    refine q_n (k7 _ _ ?_)
    refine sx_retc ?_
    refine q_r (sx_ret1 Try.results20 rfl ?_)
    exact ⟨_, rfl, by omega, cb2⟩
  ·
    refine sx_skip ?_
    refine q_n (k5 _ _ ?_)
    refine sx_seq fun K8 k8 => ?_
    refine sx_region ?_
    refine sx_pure rfl rfl rfl (px_field rfl xfld36x1) ?_
    refine sx_pure rfl rfl rfl (px_load rfl (fb2.loadA (vs := [.bool n1, v1]) (look_lit rfl) Try.isAgg24 Try.sizeOf24)) ?_
    refine sx_pure rfl rfl rfl (px_move rfl) ?_
    have f9 := hv10.ext cb2
    refine sx_call rfl rfl Try.call40 (c_szSigned f9 (by omega) (by omega)) (fun v10 w10 p10 => ?_)
    obtain ⟨r10, rfl, hr10, c10⟩ := p10
    have zw10 := c10.size
    refine sx_pure rfl rfl rfl (px_assign rfl) ?_
    refine wl_nil ?_
    refine q_n (k8 _ _ ?_)
    refine sx_sub (Sub.cons (t := 1) rfl (.cons (t := 4) rfl (.nil))) ?_
    refine sx_seq fun K11 k11 => ?_
    refine sx_seq fun K12 k12 => ?_
    refine sx_region ?_
    refine sx_pure rfl rfl rfl (px_move rfl) ?_
    refine sx_pure rfl rfl rfl (px_lt rfl rfl) ?_
    refine wl_nil ?_
    refine q_n (k12 _ _ ?_)
    refine sx_condP rfl (fun h440 => ?_) (fun h440 => ?_)
    ·
      refine sx_seq fun K13 k13 => ?_
      refine sx_region ?_
      refine sx_pure rfl rfl rfl (px_assign rfl) ?_
      refine wl_nil ?_
      refine q_n (k13 _ _ ?_)
      refine sx_retc ?_
      refine q_r (sx_ret1 Try.results20 rfl ?_)
      have q14 := Chg.step (l := 0) (h := 0) cb2 c10 (by omega)
      exact ⟨_, rfl, by omega, q14⟩
    ·
      refine sx_skip ?_
      refine q_n (k11 _ _ ?_)
      refine sx_seq fun K15 k15 => ?_
      refine sx_region ?_
      refine sx_pure rfl rfl rfl (px_move rfl) ?_
      refine sx_pure rfl rfl rfl (px_assign rfl) ?_
      refine wl_nil ?_
      refine q_n (k15 _ _ ?_)
      refine sx_retc ?_
      refine sx_ret1 Try.results20 rfl ?_
      have q16 := Chg.step (l := 0) (h := 0) cb2 c10 (by omega)
      exact ⟨_, rfl, by omega, q16⟩

theorem c_toIntS {w : World} {va : Value} {lva uva : Nat} {zs : List Int} (hva : Sl w lva uva va (zs)) (h63 : zs.length ≤ 1048576) :
    Ret Try.prog 43 [va] w fun v w' => ∃ s, v = s ∧ OwnI w' w.heap.size w'.heap.size s intT (zs) ∧ Chg 0 0 w w' := by
  have hva0 := hva.fit
  refine sx_enter Try.func43 rfl Try.ntmps43 (Nat.le_of_ble_eq_true rfl) ?_
  refine sx_seq fun K1 k1 => ?_
  refine sx_region ?_
  refine sx_pure rfl rfl rfl (px_assign rfl) ?_
  refine wl_nil ?_
  refine q_n (k1 _ _ ?_)
  refine sx_seq fun K2 k2 => ?_
  refine sx_region ?_
  refine sx_pure rfl rfl rfl (px_move rfl) ?_
  refine sx_pure rfl rfl rfl (px_len rfl Try.underlying22 hva0) ?_
  refine sx_make (c := (zs).length) rfl xelt22 (rfl) (rfl) (by omega) (by unfold maxLen; omega) (fun s3 ws3 fs3 cs3 ls3 => ?_)
  have ns3 := fs3.made
  have zws3 := cs3.size
  refine sx_pure rfl rfl rfl (px_assign rfl) ?_
  refine wl_nil ?_
  refine q_n (k2 _ _ ?_)
  refine sx_seq fun K4 k4 => ?_
  refine sx_seq fun K5 k5 => ?_
  refine sx_region ?_
  refine sx_pure rfl rfl rfl (px_assign rfl) ?_
  refine wl_nil ?_
  refine q_n (k5 _ _ ?_)
  refine sx_block ?_
  refine sx_loop (fun mm aa w' => ∃ (k : Nat) (os : List Int), Agr 22 [(0, va), (3, s3), (4, .int .i64 ↑k)] aa ∧ Chg w.heap.size ws3.heap.size ws3 w' ∧ Own w' w.heap.size ws3.heap.size s3 3 os.length 1 (os.map (Value.int .i64)) ∧ (mm = zs.length - k) ∧ (k ≤ zs.length) ∧ (os.length = zs.length) ∧ (os.take k = zs.take k)) (_) (fun a ha => ⟨0, List.replicate zs.length 0, ha.sub (Sub.cons (t := 0) rfl (.cons (t := 3) rfl (.cons (t := 4) (look_int (t := 4) rfl (by first | omega | simp)) (.nil)))), Chg.refl _ _ _, (ns3.mono (by omega) (by omega)), rfl, by omega, by simp, by simp⟩) ?_
  rintro mm aa wl6 ⟨k, os, hAwl6, cwl6, hs_s3, hm, hk, ho, he⟩
  refine (show cw Try.prog 22 _ _ _ wl6 from ?_) aa hAwl6
  clear hAwl6
  have zwl6 := cwl6.size
  refine sx_seq fun K7 k7 => ?_
  refine sx_seq fun K8 k8 => ?_
  refine sx_region ?_
  refine sx_pure rfl rfl rfl (px_move rfl) ?_
  refine sx_pure rfl rfl rfl (px_move rfl) ?_
  have f9 := hva0.ext cs3
  have f10 := f9.chg cwl6 (by omega)
  refine sx_pure rfl rfl rfl (px_len rfl Try.underlying22 f10) ?_
  refine sx_pure rfl rfl rfl (px_lt rfl rfl) ?_
  refine wl_nil ?_
  refine q_n (k8 _ _ ?_)
  refine sx_condP rfl (fun h203 => ?_) (fun h203 => ?_)
  ·
    refine sx_skip ?_
    refine q_n (k7 _ _ ?_)
    refine sx_seq fun K11 k11 => ?_
    refine sx_block ?_
    refine sx_region ?_
    refine sx_pure rfl rfl rfl (px_move rfl) ?_
    refine sx_pure rfl rfl rfl (px_move rfl) ?_
    refine sx_pure rfl rfl rfl (px_move rfl) ?_
    refine sx_pure rfl rfl rfl (px_move rfl) ?_
    refine sx_pure rfl rfl rfl (px_index1 (j := k) rfl rfl (by omega) Try.underlying22 Try.sizeOf3 f10 (by omega)) ?_
    refine sx_pure rfl rfl rfl (px_load rfl (f10.load1 (at_int (by omega)) Try.isAgg3)) ?_
    refine sx_pure rfl rfl rfl (px_index1 (j := k) rfl rfl (by omega) Try.underlying22 Try.sizeOf3 hs_s3.sv (by omega)) ?_
    refine sx_storeO rfl rfl hs_s3 (by simp only [List.length_map]; omega) Try.sizeOf3 rfl (fun w12 sw12 fw12 cw12 => ?_)
    have zw12 := cw12.size
    have nw12 := fw12.set
    refine wl_nil ?_
    refine q_bn (q_n (k11 _ _ ?_))
    refine sx_region ?_
    refine sx_pure rfl rfl rfl (px_move rfl) ?_
    refine sx_pure rfl rfl rfl (px_add rfl rfl (by omega)) ?_
    refine sx_pure rfl rfl rfl (px_assign rfl) ?_
    refine wl_nil ?_
    have q13 := Chg.step (l := w.heap.size) (h := ws3.heap.size) cwl6 cw12 (by omega)
    exact fun a ha => ⟨_, by omega, (k + 1), (os.set k (zs.getD k 0)), ha.sub (Sub.cons (t := 0) rfl (.cons (t := 3) rfl (.cons (t := 4) (look_int (t := 4) rfl (by first | omega | simp)) (.nil)))), q13, (nw12.mono (by omega) (by omega)), rfl, by omega, by simp [ho], take_set_succ he (by omega) (by omega)⟩
  ·
    refine sx_exit ?_
    refine q_e (q_e (q_bx (q_n (k4 _ _ ?_))))
    refine sx_seq fun K14 k14 => ?_
    refine sx_region ?_
    refine sx_pure rfl rfl rfl (px_move rfl) ?_
    refine sx_pure rfl rfl rfl (px_assign rfl) ?_
    refine wl_nil ?_
    refine q_n (k14 _ _ ?_)
    refine sx_retc ?_
    refine sx_ret1 Try.results43 rfl ?_
    have e1 : k = zs.length := by omega
    rw [e1, List.take_length, List.take_of_length_le (by omega)] at he
    subst he
    have q15 := Chg.step (l := 0) (h := 0) cs3 cwl6 (by omega)
    exact ⟨_, rfl, Own.mono hs_s3 (by omega) (by omega), q15⟩

theorem c_toSigned {w : World} {n1 : Bool} {v1 : Value} {lv1 uv1 : Nat} {z1 : List Int} (hv1 : Sl w lv1 uv1 v1 (z1)) (bz1 : z1.length ≤ 1048576) :
    Ret Try.prog 42 [.agg #[.bool n1, v1]] w fun v w' => ∃ s1, v = .agg #[.bool (n1), s1] ∧ OwnI w' w.heap.size w'.heap.size s1 intT (z1) ∧ Chg 0 0 w w' := by
  have hv10 := hv1.fit
  refine sx_enter Try.func42 rfl Try.ntmps42 (Nat.le_of_ble_eq_true rfl) ?_
  refine sx_seq fun K1 k1 => ?_
  refine sx_region ?_
  refine sx_box [.bool n1, v1] rfl rfl rfl (fun b2 w3 eb2 sb2 fb2 cb2 => ?_)
  have zw3 := cb2.size
  refine sx_alloc [.bool false, (.slice none 0 0)] rfl Try.zeroValue29 rfl (fun b4 w5 eb4 sb4 fb4 cb4 => ?_)
  have zw5 := cb4.size
  refine wl_nil ?_
  refine q_n (k1 _ _ ?_)
  refine sx_seq fun K6 k6 => ?_
  refine sx_region ?_
  refine sx_alloc [.bool false, (.slice none 0 0)] rfl Try.zeroValue29 rfl (fun b7 w8 eb7 sb7 fb7 cb7 => ?_)
  have zw8 := cb7.size
  refine wl_nil ?_
  refine q_n (k6 _ _ ?_)
  refine sx_seq fun K9 k9 => ?_
  refine sx_region ?_
  refine sx_pure rfl rfl rfl (px_field rfl xfld24x0) ?_
  have f10 := fb2.ext cb4
  have f11 := f10.ext cb7
  refine sx_pure rfl rfl rfl (px_load rfl (f11.load1 rfl Try.isAgg4)) ?_
  refine sx_pure rfl rfl rfl (px_field rfl xfld29x0) ?_
  refine sx_store (vs := [.bool n1]) rfl rfl fb7 rfl Try.sizeOf4 (Nat.le_of_ble_eq_true rfl) (one_cons rfl one_nil) (fun w12 sw12 fw12 cw12 => ?_)
  have zw12 := cw12.size
  have gw12 : Blk w12 b7 [.bool n1, (.slice none 0 0)] 29 := fw12
  refine wl_nil ?_
  refine q_n (k9 _ _ ?_)
  refine sx_seq fun K13 k13 => ?_
  refine sx_region ?_
  refine sx_pure rfl rfl rfl (px_field rfl xfld24x1) ?_
  have f14 := f11.chg cw12 (by omega)
  refine sx_pure rfl rfl rfl (px_load rfl (f14.load1 rfl Try.isAgg22)) ?_
  have f15 := hv10.ext cb2
  have f16 := f15.ext cb4
  have f17 := f16.ext cb7
  have f18 := f17.chg cw12 (by omega)
  refine sx_call rfl rfl Try.call43 (c_toIntS f18 (by omega)) (fun v19 w19 p19 => ?_)
  obtain ⟨s19, rfl, os_19, c19⟩ := p19
  have zw19 := c19.size
  refine sx_pure rfl rfl rfl (px_field rfl xfld29x1) ?_
  have f21 := gw12.ext c19
  refine sx_store (vs := [v19]) rfl rfl f21 (cells_one os_19.one) Try.sizeOf22 (Nat.le_of_ble_eq_true rfl) (one_cons os_19.one one_nil) (fun w20 sw20 fw20 cw20 => ?_)
  have zw20 := cw20.size
  have gw20 : Blk w20 b7 [.bool n1, v19] 29 := fw20
  refine wl_nil ?_
  refine q_n (k13 _ _ ?_)
  refine sx_seq fun K22 k22 => ?_
  refine sx_region ?_
  refine sx_pure rfl rfl rfl (px_load rfl (gw20.loadA (vs := [.bool n1, v19]) (look_lit rfl) Try.isAgg29 Try.sizeOf29)) ?_
  have f24 := fb4.ext cb7
  have f25 := f24.chg cw12 (by omega)
  have f26 := f25.ext c19
  have f27 := f26.chg cw20 (by omega)
  have f28 := os_19.chg cw20 (by omega)
  refine sx_store (vs := [.bool n1, v19]) rfl rfl f27 rfl Try.sizeOf29 (Nat.le_of_ble_eq_true rfl) (one_cons rfl (one_cons f28.one one_nil)) (fun w23 sw23 fw23 cw23 => ?_)
  have zw23 := cw23.size
  have gw23 : Blk w23 b4 [.bool n1, v19] 29 := fw23
  refine wl_nil ?_
  refine q_n (k22 _ _ ?_)
  refine sx_retc ?_
  refine sx_ret1 Try.results42 ⟨_, rfl, gw23.loadA (vs := [.bool n1, v19]) (look_lit rfl) Try.isAgg29 Try.sizeOf29⟩ ?_
  have q29 := Chg.step (l := 0) (h := 0) cb2 cb4 (by omega)
  have q30 := Chg.step (l := 0) (h := 0) q29 cb7 (by omega)
  have q31 := Chg.step (l := 0) (h := 0) q30 cw12 (by omega)
  have q32 := Chg.step (l := 0) (h := 0) q31 c19 (by omega)
  have q33 := Chg.step (l := 0) (h := 0) q32 cw20 (by omega)
  have q34 := Chg.step (l := 0) (h := 0) q33 cw23 (by omega)
  have f35 := f28.chg cw23 (by omega)
  exact ⟨_, rfl, Own.mono f35 (by omega) (by omega), q34⟩

theorem c_toMoney {w : World} {c1 : ByteArray} {n1 : Bool} {v1 : Value} {lv1 uv1 : Nat} {z1 : List Int} (hv1 : Sl w lv1 uv1 v1 (z1)) (bz1 : z1.length ≤ 1048576) :
    Ret Try.prog 22 [.agg #[.string c1, .bool n1, v1]] w fun v w' => ∃ s2, v = .agg #[.string (c1), .bool (n1), s2] ∧ OwnI w' w.heap.size w'.heap.size s2 intT (z1) ∧ Chg 0 0 w w' := by
  have hv10 := hv1.fit
  refine sx_enter Try.func22 rfl Try.ntmps22 (Nat.le_of_ble_eq_true rfl) ?_
  refine sx_seq fun K1 k1 => ?_
  refine sx_region ?_
  refine sx_box [.string c1, .bool n1, v1] rfl rfl rfl (fun b2 w3 eb2 sb2 fb2 cb2 => ?_)
  have zw3 := cb2.size
  refine sx_alloc [.string (⟨#[]⟩), .bool false, (.slice none 0 0)] rfl Try.zeroValue40 rfl (fun b4 w5 eb4 sb4 fb4 cb4 => ?_)
  have zw5 := cb4.size
  refine wl_nil ?_
  refine q_n (k1 _ _ ?_)
  refine sx_seq fun K6 k6 => ?_
  refine sx_region ?_
  refine sx_alloc [.string (⟨#[]⟩), .bool false, (.slice none 0 0)] rfl Try.zeroValue40 rfl (fun b7 w8 eb7 sb7 fb7 cb7 => ?_)
  have zw8 := cb7.size
  refine wl_nil ?_
  refine q_n (k6 _ _ ?_)
  refine sx_seq fun K9 k9 => ?_
  refine sx_region ?_
  refine sx_pure rfl rfl rfl (px_field rfl xfld36x0) ?_
  have f10 := fb2.ext cb4
  have f11 := f10.ext cb7
  refine sx_pure rfl rfl rfl (px_load rfl (f11.load1 rfl Try.isAgg9)) ?_
  refine sx_pure rfl rfl rfl (px_field rfl xfld40x0) ?_
  refine sx_store (vs := [.string c1]) rfl rfl fb7 rfl Try.sizeOf9 (Nat.le_of_ble_eq_true rfl) (one_cons rfl one_nil) (fun w12 sw12 fw12 cw12 => ?_)
  have zw12 := cw12.size
  have gw12 : Blk w12 b7 [.string c1, .bool false, (.slice none 0 0)] 40 := fw12
  refine wl_nil ?_
  refine q_n (k9 _ _ ?_)
  refine sx_seq fun K13 k13 => ?_
  refine sx_region ?_
  refine sx_pure rfl rfl rfl (px_field rfl xfld36x1) ?_
  have f14 := f11.chg cw12 (by omega)
  refine sx_pure rfl rfl rfl (px_load rfl (f14.loadA (vs := [.bool n1, v1]) (look_lit rfl) Try.isAgg24 Try.sizeOf24)) ?_
  have f15 := hv10.ext cb2
  have f16 := f15.ext cb4
  have f17 := f16.ext cb7
  have f18 := f17.chg cw12 (by omega)
  refine sx_call rfl rfl Try.call42 (c_toSigned f18 (by omega)) (fun v19 w19 p19 => ?_)
  obtain ⟨s119, rfl, os1_19, c19⟩ := p19
  have zw19 := c19.size
  refine sx_pure rfl rfl rfl (px_field rfl xfld40x1) ?_
  have f21 := gw12.ext c19
  refine sx_store (vs := [.bool n1, s119]) rfl rfl f21 rfl Try.sizeOf29 (Nat.le_of_ble_eq_true rfl) (one_cons rfl (one_cons os1_19.one one_nil)) (fun w20 sw20 fw20 cw20 => ?_)
  have zw20 := cw20.size
  have gw20 : Blk w20 b7 [.string c1, .bool n1, s119] 40 := fw20
  refine wl_nil ?_
  refine q_n (k13 _ _ ?_)
  refine sx_seq fun K22 k22 => ?_
  refine sx_region ?_
  refine sx_pure rfl rfl rfl (px_load rfl (gw20.loadA (vs := [.string c1, .bool n1, s119]) (look_lit rfl) Try.isAgg40 Try.sizeOf40)) ?_
  have f24 := fb4.ext cb7
  have f25 := f24.chg cw12 (by omega)
  have f26 := f25.ext c19
  have f27 := f26.chg cw20 (by omega)
  have f28 := os1_19.chg cw20 (by omega)
  refine sx_store (vs := [.string c1, .bool n1, s119]) rfl rfl f27 rfl Try.sizeOf40 (Nat.le_of_ble_eq_true rfl) (one_cons rfl (one_cons rfl (one_cons f28.one one_nil))) (fun w23 sw23 fw23 cw23 => ?_)
  have zw23 := cw23.size
  have gw23 : Blk w23 b4 [.string c1, .bool n1, s119] 40 := fw23
  refine wl_nil ?_
  refine q_n (k22 _ _ ?_)
  refine sx_retc ?_
  refine sx_ret1 Try.results22 ⟨_, rfl, gw23.loadA (vs := [.string c1, .bool n1, s119]) (look_lit rfl) Try.isAgg40 Try.sizeOf40⟩ ?_
  have q29 := Chg.step (l := 0) (h := 0) cb2 cb4 (by omega)
  have q30 := Chg.step (l := 0) (h := 0) q29 cb7 (by omega)
  have q31 := Chg.step (l := 0) (h := 0) q30 cw12 (by omega)
  have q32 := Chg.step (l := 0) (h := 0) q31 c19 (by omega)
  have q33 := Chg.step (l := 0) (h := 0) q32 cw20 (by omega)
  have q34 := Chg.step (l := 0) (h := 0) q33 cw23 (by omega)
  have f35 := f28.chg cw23 (by omega)
  exact ⟨_, rfl, Own.mono f35 (by omega) (by omega), q34⟩

theorem c_l02Cmp {w : World} {va : Value} {lva uva : Nat} {zs : List Int} {vb : Value} {lvb uvb : Nat} {ys : List Int} (hva : Sl w lva uva va (zs)) (hvb : Sl w lvb uvb vb (ys)) (h63 : zs.length ≤ 4611686018427387904 ∧ ys.length ≤ 4611686018427387904) :
    Ret Try.prog 76 [va, vb] w fun v w' => v = .int .i64 (cmpL zs ys) ∧ Chg 0 0 w w' := by
  have hva0 := hva.fit
  have hvb0 := hvb.fit
  have zs0 : zs.drop zs.length = [] := by simp
  have ys0 : ys.drop ys.length = [] := by simp
  refine sx_enter Try.func76 rfl Try.ntmps76 (Nat.le_of_ble_eq_true rfl) ?_
  refine sx_seq fun K1 k1 => ?_
  refine sx_region ?_
  refine sx_pure rfl rfl rfl (px_assign rfl) ?_
  refine wl_nil ?_
  refine q_n (k1 _ _ ?_)
  refine sx_seq fun K2 k2 => ?_
  refine sx_seq fun K3 k3 => ?_
  refine sx_region ?_
  refine sx_pure rfl rfl rfl (px_move rfl) ?_
  refine sx_pure rfl rfl rfl (px_len rfl Try.underlying22 hva0) ?_
  refine sx_pure rfl rfl rfl (px_move rfl) ?_
  refine sx_pure rfl rfl rfl (px_len rfl Try.underlying22 hvb0) ?_
  refine sx_pure rfl rfl rfl (px_ne rfl rfl) ?_
  refine wl_nil ?_
  refine q_n (k3 _ _ ?_)
  refine sx_condP rfl (fun h54 => ?_) (fun h54 => ?_)
  ·
    refine sx_seq fun K4 k4 => ?_
    refine sx_seq fun K5 k5 => ?_
    refine sx_region ?_
    refine sx_pure rfl rfl rfl (px_move rfl) ?_
    refine sx_pure rfl rfl rfl (px_len rfl Try.underlying22 hva0) ?_
    refine sx_pure rfl rfl rfl (px_move rfl) ?_
    refine sx_pure rfl rfl rfl (px_len rfl Try.underlying22 hvb0) ?_
    refine sx_pure rfl rfl rfl (px_lt rfl rfl) ?_
    refine wl_nil ?_
    refine q_n (k5 _ _ ?_)
    refine sx_condP rfl (fun h55 => ?_) (fun h55 => ?_)
    ·
      refine sx_seq fun K6 k6 => ?_
      refine sx_region ?_
      refine sx_pure rfl rfl rfl (px_assign rfl) ?_
      refine wl_nil ?_
      refine q_n (k6 _ _ ?_)
      refine sx_retc ?_
      refine q_r (q_r (sx_ret1 Try.results76 rfl ?_))
      exact ⟨iEq (cmpL_short (by omega)).symm, (Chg.refl 0 0 _)⟩
    ·
      refine sx_skip ?_
      refine q_n (k4 _ _ ?_)
      refine sx_seq fun K7 k7 => ?_
      refine sx_region ?_
      refine sx_pure rfl rfl rfl (px_assign rfl) ?_
      refine wl_nil ?_
      refine q_n (k7 _ _ ?_)
      refine sx_retc ?_
      refine q_r (sx_ret1 Try.results76 rfl ?_)
      exact ⟨iEq (cmpL_long (by omega)).symm, (Chg.refl 0 0 _)⟩
  ·
    refine sx_skip ?_
    refine q_n (k2 _ _ ?_)
    refine sx_seq fun K8 k8 => ?_
    refine sx_seq fun K9 k9 => ?_
    refine sx_region ?_
    refine sx_pure rfl rfl rfl (px_move rfl) ?_
    refine sx_pure rfl rfl rfl (px_len rfl Try.underlying22 hva0) ?_
    refine sx_pure rfl rfl rfl (px_sub rfl rfl (by omega)) ?_
    refine sx_pure rfl rfl rfl (px_assign rfl) ?_
    refine wl_nil ?_
    refine q_n (k9 _ _ ?_)
    refine sx_block ?_
    have e00 : zs.length = ys.length := by omega
    have he0 : zs.drop zs.length = ys.drop zs.length := by rw [zs0, e00, ys0]
    refine sx_loop (fun mm aa w' => ∃ (k : Nat), Agr 41 [(0, va), (1, vb), (5, .int .i64 (↑k - 1))] aa ∧ Chg 0 0 w w' ∧ (mm = k) ∧ (k ≤ zs.length) ∧ (zs.drop k = ys.drop k)) (_) (fun a ha => ⟨zs.length, ha.sub (Sub.cons (t := 0) rfl (.cons (t := 1) rfl (.cons (t := 5) (look_int (t := 5) rfl (by first | omega | simp)) (.nil)))), Chg.refl _ _ _, rfl, by omega, he0⟩) ?_
    rintro mm aa wl10 ⟨k, hAwl10, cwl10, hm, hk, he⟩
    refine (show cw Try.prog 41 _ _ _ wl10 from ?_) aa hAwl10
    clear hAwl10
    have zwl10 := cwl10.size
    have hl : zs.length = ys.length := by omega
    refine sx_seq fun K11 k11 => ?_
    refine sx_seq fun K12 k12 => ?_
    refine sx_region ?_
    refine sx_pure rfl rfl rfl (px_move rfl) ?_
    refine sx_pure rfl rfl rfl (px_ge rfl rfl) ?_
    refine wl_nil ?_
    refine q_n (k12 _ _ ?_)
    refine sx_condP rfl (fun h60 => ?_) (fun h60 => ?_)
    ·
      refine sx_skip ?_
      refine q_n (k11 _ _ ?_)
      refine sx_seq fun K13 k13 => ?_
      refine sx_block ?_
      refine sx_seq fun K14 k14 => ?_
      refine sx_seq fun K15 k15 => ?_
      have f16 := hva0.ext cwl10
      have f17 := hvb0.ext cwl10
      refine dx_region (fun w' => Chg 0 0 wl10 w') (by kernel_rfl) (Chg.zero (Chg.drew _)) ?_
      have d18 := Chg.drew wl10
      have s18 : Chg 0 0 wl10 (World.drew wl10) := Chg.zero (Chg.drew _)
      have y18 : (World.drew wl10).heap.size = wl10.heap.size := rfl
      generalize World.drew wl10 = w18 at *
      have zw18 := d18.size
      refine dx_take 0 rfl rfl rfl rfl (by kernel_rfl) (by kernel_rfl) (by kernel_rfl) s18 (fun _ hS => px_move rfl) ?_
      refine dx_take 1 rfl rfl rfl rfl (by kernel_rfl) (by kernel_rfl) (by kernel_rfl) s18 (fun _ hS => px_move rfl) ?_
      refine dx_take 2 rfl rfl rfl rfl (by kernel_rfl) (by kernel_rfl) (by kernel_rfl) s18 (fun _ hS => px_index1 (j := (k - 1)) rfl rfl (by omega) Try.underlying22 Try.sizeOf3 ((f16).chg hS (by omega)) (by omega)) ?_
      refine dx_take 3 rfl rfl rfl rfl (by kernel_rfl) (by kernel_rfl) (by kernel_rfl) s18 (fun _ hS => px_load rfl (((f16).chg hS (by omega)).load1 (at_int (by omega)) Try.isAgg3)) ?_
      refine dx_take 4 rfl rfl rfl rfl (by kernel_rfl) (by kernel_rfl) (by kernel_rfl) s18 (fun _ hS => px_move rfl) ?_
      refine dx_take 5 rfl rfl rfl rfl (by kernel_rfl) (by kernel_rfl) (by kernel_rfl) s18 (fun _ hS => px_move rfl) ?_
      refine dx_take 6 rfl rfl rfl rfl (by kernel_rfl) (by kernel_rfl) (by kernel_rfl) s18 (fun _ hS => px_index1 (j := (k - 1)) rfl rfl (by omega) Try.underlying22 Try.sizeOf3 ((f17).chg hS (by omega)) (by omega)) ?_
      refine dx_take 7 rfl rfl rfl rfl (by kernel_rfl) (by kernel_rfl) (by kernel_rfl) s18 (fun _ hS => px_load rfl (((f17).chg hS (by omega)).load1 (at_int (by omega)) Try.isAgg3)) ?_
      refine dx_take 8 rfl rfl rfl rfl (by kernel_rfl) (by kernel_rfl) (by kernel_rfl) s18 (fun _ hS => px_lt rfl rfl) ?_
      refine dx_done (by kernel_rfl) ?_
      refine q_n (k15 _ _ ?_)
      refine sx_condP rfl (fun h61 => ?_) (fun h61 => ?_)
      ·
        refine sx_seq fun K19 k19 => ?_
        refine sx_region ?_
        refine sx_pure rfl rfl rfl (px_assign rfl) ?_
        refine wl_nil ?_
        refine q_n (k19 _ _ ?_)
        refine sx_sub (Sub.cons (t := 0) rfl (.cons (t := 1) rfl (.cons (t := 4) rfl (.cons (t := 5) rfl (.nil))))) ?_
        refine sx_retc ?_
        refine q_r (q_br (q_r (q_r (q_br (q_r (sx_ret1 Try.results76 rfl ?_))))))
        have hlt := cmpL_lt hl (k := k - 1) (by omega) (by rw [Nat.sub_add_cancel (by omega)]; exact he) (h61)
        have q20 := Chg.step (l := 0) (h := 0) cwl10 d18 (by omega)
        exact ⟨iEq hlt.symm, q20⟩
      ·
        refine sx_skip ?_
        refine q_n (k14 _ _ ?_)
        refine sx_seq fun K21 k21 => ?_
        have f22 := f16.ext d18
        have f23 := f17.ext d18
        refine dx_region (fun w' => Chg 0 0 w18 w') (by kernel_rfl) (Chg.zero (Chg.drew _)) ?_
        have d24 := Chg.drew w18
        have s24 : Chg 0 0 w18 (World.drew w18) := Chg.zero (Chg.drew _)
        have y24 : (World.drew w18).heap.size = w18.heap.size := rfl
        generalize World.drew w18 = w24 at *
        have zw24 := d24.size
        refine dx_take 0 rfl rfl rfl rfl (by kernel_rfl) (by kernel_rfl) (by kernel_rfl) s24 (fun _ hS => px_move rfl) ?_
        refine dx_take 1 rfl rfl rfl rfl (by kernel_rfl) (by kernel_rfl) (by kernel_rfl) s24 (fun _ hS => px_move rfl) ?_
        refine dx_take 2 rfl rfl rfl rfl (by kernel_rfl) (by kernel_rfl) (by kernel_rfl) s24 (fun _ hS => px_index1 (j := (k - 1)) rfl rfl (by omega) Try.underlying22 Try.sizeOf3 ((f22).chg hS (by omega)) (by omega)) ?_
        refine dx_take 3 rfl rfl rfl rfl (by kernel_rfl) (by kernel_rfl) (by kernel_rfl) s24 (fun _ hS => px_load rfl (((f22).chg hS (by omega)).load1 (at_int (by omega)) Try.isAgg3)) ?_
        refine dx_take 4 rfl rfl rfl rfl (by kernel_rfl) (by kernel_rfl) (by kernel_rfl) s24 (fun _ hS => px_move rfl) ?_
        refine dx_take 5 rfl rfl rfl rfl (by kernel_rfl) (by kernel_rfl) (by kernel_rfl) s24 (fun _ hS => px_move rfl) ?_
        refine dx_take 6 rfl rfl rfl rfl (by kernel_rfl) (by kernel_rfl) (by kernel_rfl) s24 (fun _ hS => px_index1 (j := (k - 1)) rfl rfl (by omega) Try.underlying22 Try.sizeOf3 ((f23).chg hS (by omega)) (by omega)) ?_
        refine dx_take 7 rfl rfl rfl rfl (by kernel_rfl) (by kernel_rfl) (by kernel_rfl) s24 (fun _ hS => px_load rfl (((f23).chg hS (by omega)).load1 (at_int (by omega)) Try.isAgg3)) ?_
        refine dx_take 8 rfl rfl rfl rfl (by kernel_rfl) (by kernel_rfl) (by kernel_rfl) s24 (fun _ hS => px_gt rfl rfl) ?_
        refine dx_done (by kernel_rfl) ?_
        refine q_n (k21 _ _ ?_)
        refine sx_sub (Sub.cons (t := 0) rfl (.cons (t := 1) rfl (.cons (t := 5) rfl (.cons (t := 40) rfl (.nil))))) ?_
        refine sx_condP rfl (fun h64 => ?_) (fun h64 => ?_)
        ·
          refine sx_seq fun K25 k25 => ?_
          refine sx_region ?_
          refine sx_pure rfl rfl rfl (px_assign rfl) ?_
          refine wl_nil ?_
          refine q_n (k25 _ _ ?_)
          refine sx_retc ?_
          refine q_br (q_r (q_r (q_br (q_r (sx_ret1 Try.results76 rfl ?_)))))
          have hlt := cmpL_gt hl (k := k - 1) (by omega) (by rw [Nat.sub_add_cancel (by omega)]; exact he) (h64)
          have q26 := Chg.step (l := 0) (h := 0) cwl10 d18 (by omega)
          have q27 := Chg.step (l := 0) (h := 0) q26 d24 (by omega)
          exact ⟨iEq hlt.symm, q27⟩
        ·
          refine sx_skip ?_
          refine q_bn (q_n (k13 _ _ ?_))
          refine sx_region ?_
          refine sx_pure rfl rfl rfl (px_move rfl) ?_
          refine sx_pure rfl rfl rfl (px_sub rfl rfl (by omega)) ?_
          refine sx_pure rfl rfl rfl (px_assign rfl) ?_
          refine wl_nil ?_
          have q28 := Chg.step (l := 0) (h := 0) cwl10 d18 (by omega)
          have q29 := Chg.step (l := 0) (h := 0) q28 d24 (by omega)
          exact fun a ha => ⟨_, by omega, (k - 1), ha.sub (Sub.cons (t := 0) rfl (.cons (t := 1) rfl (.cons (t := 5) (look_int (t := 5) rfl (by first | omega | simp)) (.nil)))), q29, rfl, by omega, drop_succ_eq (by omega) (by omega) (by rw [Nat.sub_add_cancel (by omega)]; exact he) (by omega)⟩
    ·
      refine sx_exit ?_
      refine q_e (q_e (q_bx (q_n (k8 _ _ ?_))))
      refine sx_seq fun K30 k30 => ?_
      refine sx_region ?_
      refine sx_pure rfl rfl rfl (px_assign rfl) ?_
      refine wl_nil ?_
      refine q_n (k30 _ _ ?_)
      refine sx_retc ?_
      refine sx_ret1 Try.results76 rfl ?_
      have e1 : k = 0 := by omega
      subst e1
      have e2 : zs = ys := by simpa using he
      subst e2
      exact ⟨iEq (cmpL_self zs).symm, cwl10⟩

theorem c_l09Same {w : World} {n1 : Bool} {v1 : Value} {lv1 uv1 : Nat} {z1 : List Int} {n2 : Bool} {v2 : Value} {lv2 uv2 : Nat} {z2 : List Int} (hv1 : Sl w lv1 uv1 v1 (z1)) (hv2 : Sl w lv2 uv2 v2 (z2)) (h63 : z1.length ≤ 4611686018427387904 ∧ z2.length ≤ 4611686018427387904) :
    Ret Try.prog 64 [.agg #[.bool n1, v1], .agg #[.bool n2, v2]] w fun v w' => v = .bool (decide (n1 = n2 ∧ z1 = z2)) ∧ Chg 0 0 w w' := by
  have hv10 := hv1.fit
  have hv20 := hv2.fit
  refine sx_enter Try.func64 rfl Try.ntmps64 (Nat.le_of_ble_eq_true rfl) ?_
  refine sx_seq fun K1 k1 => ?_
  refine sx_region ?_
  refine sx_box [.bool n1, v1] rfl rfl rfl (fun b2 w3 eb2 sb2 fb2 cb2 => ?_)
  have zw3 := cb2.size
  refine sx_box [.bool n2, v2] rfl rfl rfl (fun b4 w5 eb4 sb4 fb4 cb4 => ?_)
  have zw5 := cb4.size
  refine sx_pure rfl rfl rfl (px_assign rfl) ?_
  refine wl_nil ?_
  refine q_n (k1 _ _ ?_)
  refine sx_seq fun K6 k6 => ?_
  refine sx_region ?_
  refine sx_pure rfl rfl rfl (px_field rfl xfld29x0) ?_
  have f7 := fb2.ext cb4
  refine sx_pure rfl rfl rfl (px_load rfl (f7.load1 rfl Try.isAgg4)) ?_
  refine sx_pure rfl rfl rfl (px_field rfl xfld29x0) ?_
  refine sx_pure rfl rfl rfl (px_load rfl (fb4.load1 rfl Try.isAgg4)) ?_
  refine sx_pure rfl rfl rfl (px_eqB Try.underlying4 rfl rfl) ?_
  refine sx_pure rfl rfl rfl (px_move rfl) ?_
  refine sx_tmpB (t := 10) rfl (fun h88 => ?_) (fun h88 => ?_)
  ·
    refine sx_guardT rfl rfl rfl ?_
    refine sx_pure rfl rfl rfl (px_field rfl xfld29x1) ?_
    refine sx_guardT rfl rfl rfl ?_
    refine sx_pure rfl rfl rfl (px_load rfl (f7.load1 rfl Try.isAgg22)) ?_
    refine sx_guardT rfl rfl rfl ?_
    refine sx_pure rfl rfl rfl (px_field rfl xfld29x1) ?_
    refine sx_guardT rfl rfl rfl ?_
    refine sx_pure rfl rfl rfl (px_load rfl (fb4.load1 rfl Try.isAgg22)) ?_
    refine sx_guardT rfl rfl rfl ?_
    have f8 := hv10.ext cb2
    have f9 := f8.ext cb4
    have f10 := hv20.ext cb2
    have f11 := f10.ext cb4
    refine sx_call rfl rfl Try.call76 (c_l02Cmp f9 f11 (by omega)) (fun v12 w12 p12 => ?_)
    obtain ⟨rfl, c12⟩ := p12
    have zw12 := c12.size
    refine sx_guardT rfl rfl rfl ?_
    refine sx_pure rfl rfl rfl (px_eq rfl rfl) ?_
    refine sx_pure rfl rfl rfl (px_pick rfl rfl) ?_
    refine sx_pure rfl rfl rfl (px_assign rfl) ?_
    refine wl_nil ?_
    refine q_n (k6 _ _ ?_)
    refine sx_sub (Sub.cons (t := 4) rfl (.nil)) ?_
    refine sx_retc ?_
    refine sx_ret1 Try.results64 rfl ?_
    have q13 := Chg.step (l := 0) (h := 0) cb2 cb4 (by omega)
    have q14 := Chg.step (l := 0) (h := 0) q13 c12 (by omega)
    exact ⟨(by first | exact bTrue (by grind [cmpL_zero]) | exact bFalse (by grind [cmpL_zero]) | exact bIff (by grind [cmpL_zero])), q14⟩
  ·
    refine sx_guardF rfl rfl rfl rfl rfl rfl ?_
    refine sx_guardF rfl rfl rfl rfl rfl rfl ?_
    refine sx_guardF rfl rfl rfl rfl rfl rfl ?_
    refine sx_guardF rfl rfl rfl rfl rfl rfl ?_
    refine sx_guardF rfl rfl rfl rfl rfl rfl ?_
    refine sx_guardF rfl rfl rfl rfl rfl rfl ?_
    refine sx_pure rfl rfl rfl (px_pick rfl rfl) ?_
    refine sx_pure rfl rfl rfl (px_assign rfl) ?_
    refine wl_nil ?_
    refine q_n (k6 _ _ ?_)
    refine sx_sub (Sub.cons (t := 4) rfl (.nil)) ?_
    refine sx_retc ?_
    refine sx_ret1 Try.results64 rfl ?_
    have q15 := Chg.step (l := 0) (h := 0) cb2 cb4 (by omega)
    exact ⟨(by first | exact bTrue (by grind [cmpL_zero]) | exact bFalse (by grind [cmpL_zero]) | exact bIff (by grind [cmpL_zero])), q15⟩

theorem c_sMoneySame {w : World} {c1 : ByteArray} {n1 : Bool} {v1 : Value} {lv1 uv1 : Nat} {z1 : List Int} {c2 : ByteArray} {n2 : Bool} {v2 : Value} {lv2 uv2 : Nat} {z2 : List Int} (hv1 : Sl w lv1 uv1 v1 (z1)) (hv2 : Sl w lv2 uv2 v2 (z2)) (h63 : z1.length ≤ 4611686018427387904 ∧ z2.length ≤ 4611686018427387904) :
    Ret Try.prog 21 [.agg #[.string c1, .bool n1, v1], .agg #[.string c2, .bool n2, v2]] w fun v w' => v = .bool (decide (c1 = c2 ∧ n1 = n2 ∧ z1 = z2)) ∧ Chg 0 0 w w' := by
  have hv10 := hv1.fit
  have hv20 := hv2.fit
  refine sx_enter Try.func21 rfl Try.ntmps21 (Nat.le_of_ble_eq_true rfl) ?_
  refine sx_seq fun K1 k1 => ?_
  refine sx_region ?_
  refine sx_box [.string c1, .bool n1, v1] rfl rfl rfl (fun b2 w3 eb2 sb2 fb2 cb2 => ?_)
  have zw3 := cb2.size
  refine sx_box [.string c2, .bool n2, v2] rfl rfl rfl (fun b4 w5 eb4 sb4 fb4 cb4 => ?_)
  have zw5 := cb4.size
  refine sx_pure rfl rfl rfl (px_assign rfl) ?_
  refine wl_nil ?_
  refine q_n (k1 _ _ ?_)
  refine sx_seq fun K6 k6 => ?_
  refine sx_region ?_
  refine sx_pure rfl rfl rfl (px_field rfl xfld40x0) ?_
  have f7 := fb2.ext cb4
  refine sx_pure rfl rfl rfl (px_load rfl (f7.load1 rfl Try.isAgg9)) ?_
  refine sx_pure rfl rfl rfl (px_field rfl xfld40x0) ?_
  refine sx_pure rfl rfl rfl (px_load rfl (fb4.load1 rfl Try.isAgg9)) ?_
  refine sx_pure rfl rfl rfl (px_eqS rfl rfl) ?_
  refine sx_pure rfl rfl rfl (px_move rfl) ?_
  refine sx_tmpP (t := 10) rfl (fun h92 => ?_) (fun h92 => ?_)
  ·
    refine sx_guardT rfl rfl rfl ?_
    refine sx_pure rfl rfl rfl (px_field rfl xfld40x1) ?_
    refine sx_guardT rfl rfl rfl ?_
    refine sx_pure rfl rfl rfl (px_load rfl (f7.loadA (vs := [.bool n1, v1]) (look_lit rfl) Try.isAgg29 Try.sizeOf29)) ?_
    refine sx_guardT rfl rfl rfl ?_
    refine sx_pure rfl rfl rfl (px_field rfl xfld40x1) ?_
    refine sx_guardT rfl rfl rfl ?_
    refine sx_pure rfl rfl rfl (px_load rfl (fb4.loadA (vs := [.bool n2, v2]) (look_lit rfl) Try.isAgg29 Try.sizeOf29)) ?_
    refine sx_guardT rfl rfl rfl ?_
    have f8 := hv10.ext cb2
    have f9 := f8.ext cb4
    have f10 := hv20.ext cb2
    have f11 := f10.ext cb4
    refine sx_call rfl rfl Try.call64 (c_l09Same f9 f11 (by omega)) (fun v12 w12 p12 => ?_)
    obtain ⟨rfl, c12⟩ := p12
    have zw12 := c12.size
    refine sx_pure rfl rfl rfl (px_pick rfl rfl) ?_
    refine sx_pure rfl rfl rfl (px_assign rfl) ?_
    refine wl_nil ?_
    refine q_n (k6 _ _ ?_)
    refine sx_sub (Sub.cons (t := 4) rfl (.nil)) ?_
    refine sx_retc ?_
    refine sx_ret1 Try.results21 rfl ?_
    have q13 := Chg.step (l := 0) (h := 0) cb2 cb4 (by omega)
    have q14 := Chg.step (l := 0) (h := 0) q13 c12 (by omega)
    exact ⟨(by first | exact bTrue (by grind) | exact bFalse (by grind) | exact bIff (by grind)), q14⟩
  ·
    refine sx_guardF rfl rfl rfl rfl rfl rfl ?_
    refine sx_guardF rfl rfl rfl rfl rfl rfl ?_
    refine sx_guardF rfl rfl rfl rfl rfl rfl ?_
    refine sx_guardF rfl rfl rfl rfl rfl rfl ?_
    refine sx_guardF rfl rfl rfl rfl rfl rfl ?_
    refine sx_pure rfl rfl rfl (px_pick rfl rfl) ?_
    refine sx_pure rfl rfl rfl (px_assign rfl) ?_
    refine wl_nil ?_
    refine q_n (k6 _ _ ?_)
    refine sx_sub (Sub.cons (t := 4) rfl (.nil)) ?_
    refine sx_retc ?_
    refine sx_ret1 Try.results21 rfl ?_
    have q15 := Chg.step (l := 0) (h := 0) cb2 cb4 (by omega)
    exact ⟨(by first | exact bTrue (by grind) | exact bFalse (by grind) | exact bIff (by grind)), q15⟩

theorem c_sameInts {w : World} {va : Value} {lva uva : Nat} {zs : List Int} {vb : Value} {lvb uvb : Nat} {ys : List Int} (hva : Sl w lva uva va (zs)) (hvb : Sl w lvb uvb vb (ys)) (h63 : zs.length ≤ 4611686018427387904 ∧ ys.length ≤ 4611686018427387904) :
    Ret Try.prog 105 [va, vb] w fun v w' => v = .bool (decide (zs = ys)) ∧ Chg 0 0 w w' := by
  have hva0 := hva.fit
  have hvb0 := hvb.fit
  have hneq : zs.length ≠ ys.length → zs ≠ ys := fun h e => h (by rw [e])
  refine sx_enter Try.func105 rfl Try.ntmps105 (Nat.le_of_ble_eq_true rfl) ?_
  refine sx_seq fun K1 k1 => ?_
  refine sx_region ?_
  refine sx_pure rfl rfl rfl (px_assign rfl) ?_
  refine wl_nil ?_
  refine q_n (k1 _ _ ?_)
  refine sx_seq fun K2 k2 => ?_
  refine sx_seq fun K3 k3 => ?_
  refine sx_region ?_
  refine sx_pure rfl rfl rfl (px_move rfl) ?_
  refine sx_pure rfl rfl rfl (px_len rfl Try.underlying22 hva0) ?_
  refine sx_pure rfl rfl rfl (px_move rfl) ?_
  refine sx_pure rfl rfl rfl (px_len rfl Try.underlying22 hvb0) ?_
  refine sx_pure rfl rfl rfl (px_ne rfl rfl) ?_
  refine wl_nil ?_
  refine q_n (k3 _ _ ?_)
  refine sx_condP rfl (fun h169 => ?_) (fun h169 => ?_)
  ·
    refine sx_seq fun K4 k4 => ?_
    refine sx_region ?_
    refine sx_pure rfl rfl rfl (px_assign rfl) ?_
    refine wl_nil ?_
    refine q_n (k4 _ _ ?_)
    refine sx_retc ?_
    refine q_r (sx_ret1 Try.results105 rfl ?_)
    exact ⟨bFalse (hneq (by omega)), (Chg.refl 0 0 _)⟩
  ·
    refine sx_skip ?_
    refine q_n (k2 _ _ ?_)
    refine sx_seq fun K5 k5 => ?_
    refine sx_seq fun K6 k6 => ?_
    refine sx_region ?_
    refine sx_pure rfl rfl rfl (px_move rfl) ?_
    refine sx_pure rfl rfl rfl (px_len rfl Try.underlying22 hva0) ?_
    refine sx_pure rfl rfl rfl (px_move rfl) ?_
    refine wl_nil ?_
    refine q_n (k6 _ _ ?_)
    refine sx_block ?_
    refine sx_loop (fun mm aa w' => ∃ (k : Nat), Agr 26 [(0, va), (1, vb), (12, .int .i64 ↑zs.length), (13, .int .i64 ↑k)] aa ∧ Chg 0 0 w w' ∧ (mm = zs.length - k) ∧ (k ≤ zs.length) ∧ (zs.take k = ys.take k)) (_) (fun a ha => ⟨0, ha.sub (Sub.cons (t := 0) rfl (.cons (t := 1) rfl (.cons (t := 12) (look_int (t := 12) rfl (by first | omega | simp)) (.cons (t := 13) (look_int (t := 13) rfl (by first | omega | simp)) (.nil))))), Chg.refl _ _ _, rfl, by omega, by simp⟩) ?_
    rintro mm aa wl7 ⟨k, hAwl7, cwl7, hm, hk, he⟩
    refine (show cw Try.prog 26 _ _ _ wl7 from ?_) aa hAwl7
    clear hAwl7
    have zwl7 := cwl7.size
    refine sx_seq fun K8 k8 => ?_
    refine sx_region ?_
    refine sx_pure rfl rfl rfl (px_lt rfl rfl) ?_
    refine wl_nil ?_
    refine q_n (k8 _ _ ?_)
    refine sx_seq fun K9 k9 => ?_
    refine sx_condP rfl (fun h172 => ?_) (fun h172 => ?_)
    ·
      refine sx_skip ?_
      refine q_n (k9 _ _ ?_)
      refine sx_seq fun K10 k10 => ?_
      refine sx_block ?_
      refine sx_seq fun K11 k11 => ?_
      refine sx_region ?_
      refine sx_pure rfl rfl rfl (px_move rfl) ?_
      refine sx_pure rfl rfl rfl (px_assign rfl) ?_
      refine wl_nil ?_
      refine q_n (k11 _ _ ?_)
      refine sx_seq fun K12 k12 => ?_
      have f13 := hva0.ext cwl7
      have f14 := hvb0.ext cwl7
      refine dx_region (fun w' => Chg 0 0 wl7 w') (by kernel_rfl) (Chg.zero (Chg.drew _)) ?_
      have d15 := Chg.drew wl7
      have s15 : Chg 0 0 wl7 (World.drew wl7) := Chg.zero (Chg.drew _)
      have y15 : (World.drew wl7).heap.size = wl7.heap.size := rfl
      generalize World.drew wl7 = w15 at *
      have zw15 := d15.size
      refine dx_take 0 rfl rfl rfl rfl (by kernel_rfl) (by kernel_rfl) (by kernel_rfl) s15 (fun _ hS => px_move rfl) ?_
      refine dx_take 1 rfl rfl rfl rfl (by kernel_rfl) (by kernel_rfl) (by kernel_rfl) s15 (fun _ hS => px_move rfl) ?_
      refine dx_take 2 rfl rfl rfl rfl (by kernel_rfl) (by kernel_rfl) (by kernel_rfl) s15 (fun _ hS => px_index1 (j := k) rfl rfl (by omega) Try.underlying22 Try.sizeOf3 ((f13).chg hS (by omega)) (by omega)) ?_
      refine dx_take 3 rfl rfl rfl rfl (by kernel_rfl) (by kernel_rfl) (by kernel_rfl) s15 (fun _ hS => px_load rfl (((f13).chg hS (by omega)).load1 (at_int (by omega)) Try.isAgg3)) ?_
      refine dx_take 4 rfl rfl rfl rfl (by kernel_rfl) (by kernel_rfl) (by kernel_rfl) s15 (fun _ hS => px_move rfl) ?_
      refine dx_take 5 rfl rfl rfl rfl (by kernel_rfl) (by kernel_rfl) (by kernel_rfl) s15 (fun _ hS => px_move rfl) ?_
      refine dx_take 6 rfl rfl rfl rfl (by kernel_rfl) (by kernel_rfl) (by kernel_rfl) s15 (fun _ hS => px_index1 (j := k) rfl rfl (by omega) Try.underlying22 Try.sizeOf3 ((f14).chg hS (by omega)) (by omega)) ?_
      refine dx_take 7 rfl rfl rfl rfl (by kernel_rfl) (by kernel_rfl) (by kernel_rfl) s15 (fun _ hS => px_load rfl (((f14).chg hS (by omega)).load1 (at_int (by omega)) Try.isAgg3)) ?_
      refine dx_take 8 rfl rfl rfl rfl (by kernel_rfl) (by kernel_rfl) (by kernel_rfl) s15 (fun _ hS => px_ne rfl rfl) ?_
      refine dx_done (by kernel_rfl) ?_
      refine q_n (k12 _ _ ?_)
      refine sx_sub (Sub.cons (t := 0) rfl (.cons (t := 1) rfl (.cons (t := 12) rfl (.cons (t := 13) rfl (.cons (t := 24) rfl (.nil)))))) ?_
      refine sx_condP rfl (fun h173 => ?_) (fun h173 => ?_)
      ·
        refine sx_seq fun K16 k16 => ?_
        refine sx_region ?_
        refine sx_pure rfl rfl rfl (px_assign rfl) ?_
        refine wl_nil ?_
        refine q_n (k16 _ _ ?_)
        refine sx_retc ?_
        refine q_br (q_r (q_r (q_br (q_r (sx_ret1 Try.results105 rfl ?_)))))
        have q17 := Chg.step (l := 0) (h := 0) cwl7 d15 (by omega)
        exact ⟨bFalse (ne_of_getD h173), q17⟩
      ·
        refine sx_skip ?_
        refine q_bn (q_n (k10 _ _ ?_))
        refine sx_region ?_
        refine sx_pure rfl rfl rfl (px_add rfl rfl (by omega)) ?_
        refine sx_pure rfl rfl rfl (px_move rfl) ?_
        refine wl_nil ?_
        have q18 := Chg.step (l := 0) (h := 0) cwl7 d15 (by omega)
        exact fun a ha => ⟨_, by omega, (k + 1), ha.sub (Sub.cons (t := 0) rfl (.cons (t := 1) rfl (.cons (t := 12) rfl (.cons (t := 13) (look_int (t := 13) rfl (by first | omega | simp)) (.nil))))), q18, rfl, by omega, take_succ_eq he (by omega) (by omega) (Decidable.not_not.1 h173)⟩
    ·
      refine sx_exit ?_
      refine q_e (q_e (q_bx (q_n (k5 _ _ ?_))))
      refine sx_seq fun K19 k19 => ?_
      refine sx_region ?_
      refine sx_pure rfl rfl rfl (px_assign rfl) ?_
      refine wl_nil ?_
      refine q_n (k19 _ _ ?_)
      refine sx_retc ?_
      refine sx_ret1 Try.results105 rfl ?_
      have e1 : k = zs.length := by omega
      rw [e1, List.take_length, List.take_of_length_le (by omega)] at he
      exact ⟨bTrue he, cwl7⟩

theorem c_intSame {w : World} {n1 : Bool} {v1 : Value} {lv1 uv1 : Nat} {z1 : List Int} {n2 : Bool} {v2 : Value} {lv2 uv2 : Nat} {z2 : List Int} (hv1 : Sl w lv1 uv1 v1 (z1)) (hv2 : Sl w lv2 uv2 v2 (z2)) (h63 : z1.length ≤ 4611686018427387904 ∧ z2.length ≤ 4611686018427387904) :
    Ret Try.prog 65 [.agg #[.bool n1, v1], .agg #[.bool n2, v2]] w fun v w' => v = .bool (decide (n1 = n2 ∧ z1 = z2)) ∧ Chg 0 0 w w' := by
  have hv10 := hv1.fit
  have hv20 := hv2.fit
  refine sx_enter Try.func65 rfl Try.ntmps65 (Nat.le_of_ble_eq_true rfl) ?_
  refine sx_seq fun K1 k1 => ?_
  refine sx_region ?_
  refine sx_box [.bool n1, v1] rfl rfl rfl (fun b2 w3 eb2 sb2 fb2 cb2 => ?_)
  have zw3 := cb2.size
  refine sx_box [.bool n2, v2] rfl rfl rfl (fun b4 w5 eb4 sb4 fb4 cb4 => ?_)
  have zw5 := cb4.size
  refine sx_pure rfl rfl rfl (px_assign rfl) ?_
  refine wl_nil ?_
  refine q_n (k1 _ _ ?_)
  refine sx_seq fun K6 k6 => ?_
  refine sx_region ?_
  refine sx_pure rfl rfl rfl (px_field rfl xfld29x0) ?_
  have f7 := fb2.ext cb4
  refine sx_pure rfl rfl rfl (px_load rfl (f7.load1 rfl Try.isAgg4)) ?_
  refine sx_pure rfl rfl rfl (px_field rfl xfld29x0) ?_
  refine sx_pure rfl rfl rfl (px_load rfl (fb4.load1 rfl Try.isAgg4)) ?_
  refine sx_pure rfl rfl rfl (px_eqB Try.underlying4 rfl rfl) ?_
  refine sx_pure rfl rfl rfl (px_move rfl) ?_
  refine sx_tmpB (t := 10) rfl (fun h165 => ?_) (fun h165 => ?_)
  ·
    refine sx_guardT rfl rfl rfl ?_
    refine sx_pure rfl rfl rfl (px_field rfl xfld29x1) ?_
    refine sx_guardT rfl rfl rfl ?_
    refine sx_pure rfl rfl rfl (px_load rfl (f7.load1 rfl Try.isAgg22)) ?_
    refine sx_guardT rfl rfl rfl ?_
    refine sx_pure rfl rfl rfl (px_field rfl xfld29x1) ?_
    refine sx_guardT rfl rfl rfl ?_
    refine sx_pure rfl rfl rfl (px_load rfl (fb4.load1 rfl Try.isAgg22)) ?_
    refine sx_guardT rfl rfl rfl ?_
    have f8 := hv10.ext cb2
    have f9 := f8.ext cb4
    have f10 := hv20.ext cb2
    have f11 := f10.ext cb4
    refine sx_call rfl rfl Try.call105 (c_sameInts f9 f11 (by omega)) (fun v12 w12 p12 => ?_)
    obtain ⟨rfl, c12⟩ := p12
    have zw12 := c12.size
    refine sx_pure rfl rfl rfl (px_pick rfl rfl) ?_
    refine sx_pure rfl rfl rfl (px_assign rfl) ?_
    refine wl_nil ?_
    refine q_n (k6 _ _ ?_)
    refine sx_sub (Sub.cons (t := 4) rfl (.nil)) ?_
    refine sx_retc ?_
    refine sx_ret1 Try.results65 rfl ?_
    have q13 := Chg.step (l := 0) (h := 0) cb2 cb4 (by omega)
    have q14 := Chg.step (l := 0) (h := 0) q13 c12 (by omega)
    exact ⟨(by first | exact bTrue (by grind) | exact bFalse (by grind) | exact bIff (by grind)), q14⟩
  ·
    refine sx_guardF rfl rfl rfl rfl rfl rfl ?_
    refine sx_guardF rfl rfl rfl rfl rfl rfl ?_
    refine sx_guardF rfl rfl rfl rfl rfl rfl ?_
    refine sx_guardF rfl rfl rfl rfl rfl rfl ?_
    refine sx_guardF rfl rfl rfl rfl rfl rfl ?_
    refine sx_pure rfl rfl rfl (px_pick rfl rfl) ?_
    refine sx_pure rfl rfl rfl (px_assign rfl) ?_
    refine wl_nil ?_
    refine q_n (k6 _ _ ?_)
    refine sx_sub (Sub.cons (t := 4) rfl (.nil)) ?_
    refine sx_retc ?_
    refine sx_ret1 Try.results65 rfl ?_
    have q15 := Chg.step (l := 0) (h := 0) cb2 cb4 (by omega)
    exact ⟨(by first | exact bTrue (by grind) | exact bFalse (by grind) | exact bIff (by grind)), q15⟩

theorem c_iMoneySame {w : World} {c1 : ByteArray} {n1 : Bool} {v1 : Value} {lv1 uv1 : Nat} {z1 : List Int} {c2 : ByteArray} {n2 : Bool} {v2 : Value} {lv2 uv2 : Nat} {z2 : List Int} (hv1 : Sl w lv1 uv1 v1 (z1)) (hv2 : Sl w lv2 uv2 v2 (z2)) (h63 : z1.length ≤ 4611686018427387904 ∧ z2.length ≤ 4611686018427387904) :
    Ret Try.prog 23 [.agg #[.string c1, .bool n1, v1], .agg #[.string c2, .bool n2, v2]] w fun v w' => v = .bool (decide (c1 = c2 ∧ n1 = n2 ∧ z1 = z2)) ∧ Chg 0 0 w w' := by
  have hv10 := hv1.fit
  have hv20 := hv2.fit
  refine sx_enter Try.func23 rfl Try.ntmps23 (Nat.le_of_ble_eq_true rfl) ?_
  refine sx_seq fun K1 k1 => ?_
  refine sx_region ?_
  refine sx_box [.string c1, .bool n1, v1] rfl rfl rfl (fun b2 w3 eb2 sb2 fb2 cb2 => ?_)
  have zw3 := cb2.size
  refine sx_box [.string c2, .bool n2, v2] rfl rfl rfl (fun b4 w5 eb4 sb4 fb4 cb4 => ?_)
  have zw5 := cb4.size
  refine sx_pure rfl rfl rfl (px_assign rfl) ?_
  refine wl_nil ?_
  refine q_n (k1 _ _ ?_)
  refine sx_seq fun K6 k6 => ?_
  refine sx_region ?_
  refine sx_pure rfl rfl rfl (px_field rfl xfld40x0) ?_
  have f7 := fb2.ext cb4
  refine sx_pure rfl rfl rfl (px_load rfl (f7.load1 rfl Try.isAgg9)) ?_
  refine sx_pure rfl rfl rfl (px_field rfl xfld40x0) ?_
  refine sx_pure rfl rfl rfl (px_load rfl (fb4.load1 rfl Try.isAgg9)) ?_
  refine sx_pure rfl rfl rfl (px_eqS rfl rfl) ?_
  refine sx_pure rfl rfl rfl (px_move rfl) ?_
  refine sx_tmpP (t := 10) rfl (fun h94 => ?_) (fun h94 => ?_)
  ·
    refine sx_guardT rfl rfl rfl ?_
    refine sx_pure rfl rfl rfl (px_field rfl xfld40x1) ?_
    refine sx_guardT rfl rfl rfl ?_
    refine sx_pure rfl rfl rfl (px_load rfl (f7.loadA (vs := [.bool n1, v1]) (look_lit rfl) Try.isAgg29 Try.sizeOf29)) ?_
    refine sx_guardT rfl rfl rfl ?_
    refine sx_pure rfl rfl rfl (px_field rfl xfld40x1) ?_
    refine sx_guardT rfl rfl rfl ?_
    refine sx_pure rfl rfl rfl (px_load rfl (fb4.loadA (vs := [.bool n2, v2]) (look_lit rfl) Try.isAgg29 Try.sizeOf29)) ?_
    refine sx_guardT rfl rfl rfl ?_
    have f8 := hv10.ext cb2
    have f9 := f8.ext cb4
    have f10 := hv20.ext cb2
    have f11 := f10.ext cb4
    refine sx_call rfl rfl Try.call65 (c_intSame f9 f11 (by omega)) (fun v12 w12 p12 => ?_)
    obtain ⟨rfl, c12⟩ := p12
    have zw12 := c12.size
    refine sx_pure rfl rfl rfl (px_pick rfl rfl) ?_
    refine sx_pure rfl rfl rfl (px_assign rfl) ?_
    refine wl_nil ?_
    refine q_n (k6 _ _ ?_)
    refine sx_sub (Sub.cons (t := 4) rfl (.nil)) ?_
    refine sx_retc ?_
    refine sx_ret1 Try.results23 rfl ?_
    have q13 := Chg.step (l := 0) (h := 0) cb2 cb4 (by omega)
    have q14 := Chg.step (l := 0) (h := 0) q13 c12 (by omega)
    exact ⟨(by first | exact bTrue (by grind) | exact bFalse (by grind) | exact bIff (by grind)), q14⟩
  ·
    refine sx_guardF rfl rfl rfl rfl rfl rfl ?_
    refine sx_guardF rfl rfl rfl rfl rfl rfl ?_
    refine sx_guardF rfl rfl rfl rfl rfl rfl ?_
    refine sx_guardF rfl rfl rfl rfl rfl rfl ?_
    refine sx_guardF rfl rfl rfl rfl rfl rfl ?_
    refine sx_pure rfl rfl rfl (px_pick rfl rfl) ?_
    refine sx_pure rfl rfl rfl (px_assign rfl) ?_
    refine wl_nil ?_
    refine q_n (k6 _ _ ?_)
    refine sx_sub (Sub.cons (t := 4) rfl (.nil)) ?_
    refine sx_retc ?_
    refine sx_ret1 Try.results23 rfl ?_
    have q15 := Chg.step (l := 0) (h := 0) cb2 cb4 (by omega)
    exact ⟨(by first | exact bTrue (by grind) | exact bFalse (by grind) | exact bIff (by grind)), q15⟩

theorem c_eqIntS {w : World} {va : Value} {lva uva : Nat} {zs : List Int} {vb : Value} {lvb uvb : Nat} {ys : List Int} (hva : Sl w lva uva va (zs)) (hvb : Sl w lvb uvb vb (ys)) (h63 : zs.length ≤ 4611686018427387904 ∧ ys.length ≤ 4611686018427387904) :
    Ret Try.prog 46 [va, vb] w fun v w' => v = .bool (decide (zs = ys)) ∧ Chg 0 0 w w' := by
  have hva0 := hva.fit
  have hvb0 := hvb.fit
  have hneq : zs.length ≠ ys.length → zs ≠ ys := fun h e => h (by rw [e])
  refine sx_enter Try.func46 rfl Try.ntmps46 (Nat.le_of_ble_eq_true rfl) ?_
  refine sx_seq fun K1 k1 => ?_
  refine sx_region ?_
  refine sx_pure rfl rfl rfl (px_assign rfl) ?_
  refine wl_nil ?_
  refine q_n (k1 _ _ ?_)
  refine sx_seq fun K2 k2 => ?_
  refine sx_seq fun K3 k3 => ?_
  refine sx_region ?_
  refine sx_pure rfl rfl rfl (px_move rfl) ?_
  refine sx_pure rfl rfl rfl (px_len rfl Try.underlying22 hva0) ?_
  refine sx_pure rfl rfl rfl (px_move rfl) ?_
  refine sx_pure rfl rfl rfl (px_len rfl Try.underlying22 hvb0) ?_
  refine sx_pure rfl rfl rfl (px_ne rfl rfl) ?_
  refine wl_nil ?_
  refine q_n (k3 _ _ ?_)
  refine sx_condP rfl (fun h210 => ?_) (fun h210 => ?_)
  ·
    refine sx_seq fun K4 k4 => ?_
    refine sx_region ?_
    refine sx_pure rfl rfl rfl (px_assign rfl) ?_
    refine wl_nil ?_
    refine q_n (k4 _ _ ?_)
    refine sx_retc ?_
    refine q_r (sx_ret1 Try.results46 rfl ?_)
    exact ⟨bFalse (hneq (by omega)), (Chg.refl 0 0 _)⟩
  ·
    refine sx_skip ?_
    refine q_n (k2 _ _ ?_)
    refine sx_seq fun K5 k5 => ?_
    refine sx_seq fun K6 k6 => ?_
    refine sx_region ?_
    refine sx_pure rfl rfl rfl (px_assign rfl) ?_
    refine wl_nil ?_
    refine q_n (k6 _ _ ?_)
    refine sx_block ?_
    refine sx_loop (fun mm aa w' => ∃ (k : Nat), Agr 26 [(0, va), (1, vb), (5, .int .i64 ↑k)] aa ∧ Chg 0 0 w w' ∧ (mm = zs.length - k) ∧ (k ≤ zs.length) ∧ (zs.take k = ys.take k)) (_) (fun a ha => ⟨0, ha.sub (Sub.cons (t := 0) rfl (.cons (t := 1) rfl (.cons (t := 5) (look_int (t := 5) rfl (by first | omega | simp)) (.nil)))), Chg.refl _ _ _, rfl, by omega, by simp⟩) ?_
    rintro mm aa wl7 ⟨k, hAwl7, cwl7, hm, hk, he⟩
    refine (show cw Try.prog 26 _ _ _ wl7 from ?_) aa hAwl7
    clear hAwl7
    have zwl7 := cwl7.size
    refine sx_seq fun K8 k8 => ?_
    refine sx_seq fun K9 k9 => ?_
    refine sx_region ?_
    refine sx_pure rfl rfl rfl (px_move rfl) ?_
    refine sx_pure rfl rfl rfl (px_move rfl) ?_
    have f10 := hva0.ext cwl7
    refine sx_pure rfl rfl rfl (px_len rfl Try.underlying22 f10) ?_
    refine sx_pure rfl rfl rfl (px_lt rfl rfl) ?_
    refine wl_nil ?_
    refine q_n (k9 _ _ ?_)
    refine sx_condP rfl (fun h213 => ?_) (fun h213 => ?_)
    ·
      refine sx_skip ?_
      refine q_n (k8 _ _ ?_)
      refine sx_seq fun K11 k11 => ?_
      refine sx_block ?_
      refine sx_seq fun K12 k12 => ?_
      have f13 := hvb0.ext cwl7
      refine dx_region (fun w' => Chg 0 0 wl7 w') (by kernel_rfl) (Chg.zero (Chg.drew _)) ?_
      have d14 := Chg.drew wl7
      have s14 : Chg 0 0 wl7 (World.drew wl7) := Chg.zero (Chg.drew _)
      have y14 : (World.drew wl7).heap.size = wl7.heap.size := rfl
      generalize World.drew wl7 = w14 at *
      have zw14 := d14.size
      refine dx_take 0 rfl rfl rfl rfl (by kernel_rfl) (by kernel_rfl) (by kernel_rfl) s14 (fun _ hS => px_move rfl) ?_
      refine dx_take 1 rfl rfl rfl rfl (by kernel_rfl) (by kernel_rfl) (by kernel_rfl) s14 (fun _ hS => px_move rfl) ?_
      refine dx_take 2 rfl rfl rfl rfl (by kernel_rfl) (by kernel_rfl) (by kernel_rfl) s14 (fun _ hS => px_index1 (j := k) rfl rfl (by omega) Try.underlying22 Try.sizeOf3 ((f10).chg hS (by omega)) (by omega)) ?_
      refine dx_take 3 rfl rfl rfl rfl (by kernel_rfl) (by kernel_rfl) (by kernel_rfl) s14 (fun _ hS => px_load rfl (((f10).chg hS (by omega)).load1 (at_int (by omega)) Try.isAgg3)) ?_
      refine dx_take 4 rfl rfl rfl rfl (by kernel_rfl) (by kernel_rfl) (by kernel_rfl) s14 (fun _ hS => px_move rfl) ?_
      refine dx_take 5 rfl rfl rfl rfl (by kernel_rfl) (by kernel_rfl) (by kernel_rfl) s14 (fun _ hS => px_move rfl) ?_
      refine dx_take 6 rfl rfl rfl rfl (by kernel_rfl) (by kernel_rfl) (by kernel_rfl) s14 (fun _ hS => px_index1 (j := k) rfl rfl (by omega) Try.underlying22 Try.sizeOf3 ((f13).chg hS (by omega)) (by omega)) ?_
      refine dx_take 7 rfl rfl rfl rfl (by kernel_rfl) (by kernel_rfl) (by kernel_rfl) s14 (fun _ hS => px_load rfl (((f13).chg hS (by omega)).load1 (at_int (by omega)) Try.isAgg3)) ?_
      refine dx_take 8 rfl rfl rfl rfl (by kernel_rfl) (by kernel_rfl) (by kernel_rfl) s14 (fun _ hS => px_ne rfl rfl) ?_
      refine dx_done (by kernel_rfl) ?_
      refine q_n (k12 _ _ ?_)
      refine sx_sub (Sub.cons (t := 0) rfl (.cons (t := 1) rfl (.cons (t := 5) rfl (.cons (t := 25) rfl (.nil))))) ?_
      refine sx_condP rfl (fun h214 => ?_) (fun h214 => ?_)
      ·
        refine sx_seq fun K15 k15 => ?_
        refine sx_region ?_
        refine sx_pure rfl rfl rfl (px_assign rfl) ?_
        refine wl_nil ?_
        refine q_n (k15 _ _ ?_)
        refine sx_retc ?_
        refine q_br (q_r (q_r (q_br (q_r (sx_ret1 Try.results46 rfl ?_)))))
        have q16 := Chg.step (l := 0) (h := 0) cwl7 d14 (by omega)
        exact ⟨bFalse (ne_of_getD h214), q16⟩
      ·
        refine sx_skip ?_
        refine q_bn (q_n (k11 _ _ ?_))
        refine sx_region ?_
        refine sx_pure rfl rfl rfl (px_move rfl) ?_
        refine sx_pure rfl rfl rfl (px_add rfl rfl (by omega)) ?_
        refine sx_pure rfl rfl rfl (px_assign rfl) ?_
        refine wl_nil ?_
        have q17 := Chg.step (l := 0) (h := 0) cwl7 d14 (by omega)
        exact fun a ha => ⟨_, by omega, (k + 1), ha.sub (Sub.cons (t := 0) rfl (.cons (t := 1) rfl (.cons (t := 5) (look_int (t := 5) rfl (by first | omega | simp)) (.nil)))), q17, rfl, by omega, take_succ_eq he (by omega) (by omega) (Decidable.not_not.1 h214)⟩
    ·
      refine sx_exit ?_
      refine q_e (q_e (q_bx (q_n (k5 _ _ ?_))))
      refine sx_seq fun K18 k18 => ?_
      refine sx_region ?_
      refine sx_pure rfl rfl rfl (px_assign rfl) ?_
      refine wl_nil ?_
      refine q_n (k18 _ _ ?_)
      refine sx_retc ?_
      refine sx_ret1 Try.results46 rfl ?_
      have e1 : k = zs.length := by omega
      rw [e1, List.take_length, List.take_of_length_le (by omega)] at he
      exact ⟨bTrue he, cwl7⟩

theorem c_eqSigned {w : World} {n1 : Bool} {v1 : Value} {lv1 uv1 : Nat} {z1 : List Int} {n2 : Bool} {v2 : Value} {lv2 uv2 : Nat} {z2 : List Int} (hv1 : Sl w lv1 uv1 v1 (z1)) (hv2 : Sl w lv2 uv2 v2 (z2)) (h63 : z1.length ≤ 4611686018427387904 ∧ z2.length ≤ 4611686018427387904) :
    Ret Try.prog 45 [.agg #[.bool n1, v1], .agg #[.bool n2, v2]] w fun v w' => v = .bool (decide (n1 = n2 ∧ z1 = z2)) ∧ Chg 0 0 w w' := by
  have hv10 := hv1.fit
  have hv20 := hv2.fit
  refine sx_enter Try.func45 rfl Try.ntmps45 (Nat.le_of_ble_eq_true rfl) ?_
  refine sx_seq fun K1 k1 => ?_
  refine sx_region ?_
  refine sx_box [.bool n1, v1] rfl rfl rfl (fun b2 w3 eb2 sb2 fb2 cb2 => ?_)
  have zw3 := cb2.size
  refine sx_box [.bool n2, v2] rfl rfl rfl (fun b4 w5 eb4 sb4 fb4 cb4 => ?_)
  have zw5 := cb4.size
  refine sx_pure rfl rfl rfl (px_assign rfl) ?_
  refine wl_nil ?_
  refine q_n (k1 _ _ ?_)
  refine sx_seq fun K6 k6 => ?_
  refine sx_seq fun K7 k7 => ?_
  refine sx_region ?_
  refine sx_pure rfl rfl rfl (px_field rfl xfld29x0) ?_
  have f8 := fb2.ext cb4
  refine sx_pure rfl rfl rfl (px_load rfl (f8.load1 rfl Try.isAgg4)) ?_
  refine sx_pure rfl rfl rfl (px_field rfl xfld29x0) ?_
  refine sx_pure rfl rfl rfl (px_load rfl (fb4.load1 rfl Try.isAgg4)) ?_
  refine sx_pure rfl rfl rfl (px_neB Try.underlying4 rfl rfl) ?_
  refine wl_nil ?_
  refine q_n (k7 _ _ ?_)
  refine sx_condB rfl (fun h263 => ?_) (fun h263 => ?_)
  ·
    refine sx_seq fun K9 k9 => ?_
    refine sx_region ?_
    refine sx_pure rfl rfl rfl (px_assign rfl) ?_
    refine wl_nil ?_
    refine q_n (k9 _ _ ?_)
    refine sx_retc ?_
    refine q_r (sx_ret1 Try.results45 rfl ?_)
    have q10 := Chg.step (l := 0) (h := 0) cb2 cb4 (by omega)
    exact ⟨(by first | exact bTrue (by grind) | exact bFalse (by grind) | exact bIff (by grind)), q10⟩
  ·
    refine sx_skip ?_
    refine q_n (k6 _ _ ?_)
    refine sx_seq fun K11 k11 => ?_
    refine sx_seq fun K12 k12 => ?_
    refine sx_region ?_
    refine sx_pure rfl rfl rfl (px_field rfl xfld29x1) ?_
    refine sx_pure rfl rfl rfl (px_load rfl (f8.load1 rfl Try.isAgg22)) ?_
    refine sx_pure rfl rfl rfl (px_field rfl xfld29x1) ?_
    refine sx_pure rfl rfl rfl (px_load rfl (fb4.load1 rfl Try.isAgg22)) ?_
    have f13 := hv10.ext cb2
    have f14 := f13.ext cb4
    have f15 := hv20.ext cb2
    have f16 := f15.ext cb4
    refine sx_call rfl rfl Try.call46 (c_eqIntS f14 f16 (by omega)) (fun v17 w17 p17 => ?_)
    obtain ⟨rfl, c17⟩ := p17
    have zw17 := c17.size
    refine sx_pure rfl rfl rfl (px_notP rfl) ?_
    refine wl_nil ?_
    refine q_n (k12 _ _ ?_)
    refine sx_sub (Sub.cons (t := 4) rfl (.cons (t := 15) rfl (.nil))) ?_
    refine sx_condP rfl (fun h266 => ?_) (fun h266 => ?_)
    ·
      refine sx_seq fun K18 k18 => ?_
      refine sx_region ?_
      refine sx_pure rfl rfl rfl (px_assign rfl) ?_
      refine wl_nil ?_
      refine q_n (k18 _ _ ?_)
      refine sx_retc ?_
      refine q_r (sx_ret1 Try.results45 rfl ?_)
      have q19 := Chg.step (l := 0) (h := 0) cb2 cb4 (by omega)
      have q20 := Chg.step (l := 0) (h := 0) q19 c17 (by omega)
      exact ⟨(by first | exact bTrue (by grind) | exact bFalse (by grind) | exact bIff (by grind)), q20⟩
    ·
      refine sx_skip ?_
      refine q_n (k11 _ _ ?_)
      refine sx_seq fun K21 k21 => ?_
      refine sx_region ?_
      refine sx_pure rfl rfl rfl (px_assign rfl) ?_
      refine wl_nil ?_
      refine q_n (k21 _ _ ?_)
      refine sx_retc ?_
      refine sx_ret1 Try.results45 rfl ?_
      have q22 := Chg.step (l := 0) (h := 0) cb2 cb4 (by omega)
      have q23 := Chg.step (l := 0) (h := 0) q22 c17 (by omega)
      exact ⟨(by first | exact bTrue (by grind) | exact bFalse (by grind) | exact bIff (by grind)), q23⟩

theorem c_eqMoney {w : World} {c1 : ByteArray} {n1 : Bool} {v1 : Value} {lv1 uv1 : Nat} {z1 : List Int} {c2 : ByteArray} {n2 : Bool} {v2 : Value} {lv2 uv2 : Nat} {z2 : List Int} (hv1 : Sl w lv1 uv1 v1 (z1)) (hv2 : Sl w lv2 uv2 v2 (z2)) (h63 : z1.length ≤ 4611686018427387904 ∧ z2.length ≤ 4611686018427387904) :
    Ret Try.prog 24 [.agg #[.string c1, .bool n1, v1], .agg #[.string c2, .bool n2, v2]] w fun v w' => v = .bool (decide (c1 = c2 ∧ n1 = n2 ∧ z1 = z2)) ∧ Chg 0 0 w w' := by
  have hv10 := hv1.fit
  have hv20 := hv2.fit
  refine sx_enter Try.func24 rfl Try.ntmps24 (Nat.le_of_ble_eq_true rfl) ?_
  refine sx_seq fun K1 k1 => ?_
  refine sx_region ?_
  refine sx_box [.string c1, .bool n1, v1] rfl rfl rfl (fun b2 w3 eb2 sb2 fb2 cb2 => ?_)
  have zw3 := cb2.size
  refine sx_box [.string c2, .bool n2, v2] rfl rfl rfl (fun b4 w5 eb4 sb4 fb4 cb4 => ?_)
  have zw5 := cb4.size
  refine sx_pure rfl rfl rfl (px_assign rfl) ?_
  refine wl_nil ?_
  refine q_n (k1 _ _ ?_)
  refine sx_seq fun K6 k6 => ?_
  refine sx_seq fun K7 k7 => ?_
  refine sx_region ?_
  refine sx_pure rfl rfl rfl (px_field rfl xfld40x0) ?_
  have f8 := fb2.ext cb4
  refine sx_pure rfl rfl rfl (px_load rfl (f8.load1 rfl Try.isAgg9)) ?_
  refine sx_pure rfl rfl rfl (px_field rfl xfld40x0) ?_
  refine sx_pure rfl rfl rfl (px_load rfl (fb4.load1 rfl Try.isAgg9)) ?_
  refine sx_pure rfl rfl rfl (px_neS rfl rfl) ?_
  refine wl_nil ?_
  refine q_n (k7 _ _ ?_)
  refine sx_condP rfl (fun h447 => ?_) (fun h447 => ?_)
  ·
    refine sx_seq fun K9 k9 => ?_
    refine sx_region ?_
    refine sx_pure rfl rfl rfl (px_assign rfl) ?_
    refine wl_nil ?_
    refine q_n (k9 _ _ ?_)
    refine sx_retc ?_
    refine q_r (sx_ret1 Try.results24 rfl ?_)
    have q10 := Chg.step (l := 0) (h := 0) cb2 cb4 (by omega)
    exact ⟨(by first | exact bTrue (by grind) | exact bFalse (by grind) | exact bIff (by grind)), q10⟩
  ·
    refine sx_skip ?_
    refine q_n (k6 _ _ ?_)
    refine sx_seq fun K11 k11 => ?_
    refine sx_seq fun K12 k12 => ?_
    refine sx_region ?_
    refine sx_pure rfl rfl rfl (px_field rfl xfld40x1) ?_
    refine sx_pure rfl rfl rfl (px_load rfl (f8.loadA (vs := [.bool n1, v1]) (look_lit rfl) Try.isAgg29 Try.sizeOf29)) ?_
    refine sx_pure rfl rfl rfl (px_field rfl xfld40x1) ?_
    refine sx_pure rfl rfl rfl (px_load rfl (fb4.loadA (vs := [.bool n2, v2]) (look_lit rfl) Try.isAgg29 Try.sizeOf29)) ?_
    have f13 := hv10.ext cb2
    have f14 := f13.ext cb4
    have f15 := hv20.ext cb2
    have f16 := f15.ext cb4
    refine sx_call rfl rfl Try.call45 (c_eqSigned f14 f16 (by omega)) (fun v17 w17 p17 => ?_)
    obtain ⟨rfl, c17⟩ := p17
    have zw17 := c17.size
    refine sx_pure rfl rfl rfl (px_notP rfl) ?_
    refine wl_nil ?_
    refine q_n (k12 _ _ ?_)
    refine sx_sub (Sub.cons (t := 4) rfl (.cons (t := 15) rfl (.nil))) ?_
    refine sx_condP rfl (fun h450 => ?_) (fun h450 => ?_)
    ·
      refine sx_seq fun K18 k18 => ?_
      refine sx_region ?_
      refine sx_pure rfl rfl rfl (px_assign rfl) ?_
      refine wl_nil ?_
      refine q_n (k18 _ _ ?_)
      refine sx_retc ?_
      refine q_r (sx_ret1 Try.results24 rfl ?_)
      have q19 := Chg.step (l := 0) (h := 0) cb2 cb4 (by omega)
      have q20 := Chg.step (l := 0) (h := 0) q19 c17 (by omega)
      exact ⟨(by first | exact bTrue (by grind) | exact bFalse (by grind) | exact bIff (by grind)), q20⟩
    ·
      refine sx_skip ?_
      refine q_n (k11 _ _ ?_)
      refine sx_seq fun K21 k21 => ?_
      refine sx_region ?_
      refine sx_pure rfl rfl rfl (px_assign rfl) ?_
      refine wl_nil ?_
      refine q_n (k21 _ _ ?_)
      refine sx_retc ?_
      refine sx_ret1 Try.results24 rfl ?_
      have q22 := Chg.step (l := 0) (h := 0) cb2 cb4 (by omega)
      have q23 := Chg.step (l := 0) (h := 0) q22 c17 (by omega)
      exact ⟨(by first | exact bTrue (by grind) | exact bFalse (by grind) | exact bIff (by grind)), q23⟩

theorem law_MoneySame {w : World} {c1 : ByteArray} {n1 : Bool} {v1 : Value} {lv1 uv1 : Nat} {z1 : List Int} {c2 : ByteArray} {n2 : Bool} {v2 : Value} {lv2 uv2 : Nat} {z2 : List Int} (hv1 : Sl w lv1 uv1 v1 (z1)) (hv2 : Sl w lv2 uv2 v2 (z2)) (bc1 : c1.size ≤ 9223372036854775807) (bz1 : z1.length ≤ 9223372036854775807) (bc2 : c2.size ≤ 9223372036854775807) (bz2 : z2.length ≤ 9223372036854775807) :
    Ret Try.prog 4 [.agg #[.string c1, .bool n1, v1], .agg #[.string c2, .bool n2, v2]] w fun v w' => v = .bool (true) ∧ Chg 0 0 w w' := by
  have hv10 := hv1.fit
  have hv20 := hv2.fit
  refine sx_enter Try.func4 rfl Try.ntmps4 (Nat.le_of_ble_eq_true rfl) ?_
  refine sx_seq fun K1 k1 => ?_
  refine sx_region ?_
  refine sx_box [.string c1, .bool n1, v1] rfl rfl rfl (fun b2 w3 eb2 sb2 fb2 cb2 => ?_)
  have zw3 := cb2.size
  refine sx_box [.string c2, .bool n2, v2] rfl rfl rfl (fun b4 w5 eb4 sb4 fb4 cb4 => ?_)
  have zw5 := cb4.size
  refine sx_pure rfl rfl rfl (px_assign rfl) ?_
  refine wl_nil ?_
  refine q_n (k1 _ _ ?_)
  refine sx_seq fun K6 k6 => ?_
  refine sx_region ?_
  refine sx_pure rfl rfl rfl (px_assign rfl) ?_
  refine wl_nil ?_
  refine q_n (k6 _ _ ?_)
  refine sx_seq fun K7 k7 => ?_
  refine sx_region ?_
  have f8 := fb2.ext cb4
  refine sx_pure rfl rfl rfl (px_load rfl (f8.loadA (vs := [.string c1, .bool n1, v1]) (look_lit rfl) Try.isAgg36 Try.sizeOf36)) ?_
  refine sx_pure rfl rfl rfl (px_move rfl) ?_
  have f9 := hv10.ext cb2
  have f10 := f9.ext cb4
  refine sx_call rfl rfl Try.call20 (c_szMoney f10 (by omega) (by omega) (by omega)) (fun v11 w11 p11 => ?_)
  obtain ⟨r11, rfl, hr11, c11⟩ := p11
  have zw11 := c11.size
  refine sx_pure rfl rfl rfl (px_assign rfl) ?_
  refine wl_nil ?_
  refine q_n (k7 _ _ ?_)
  refine sx_seq fun K12 k12 => ?_
  refine sx_seq fun K13 k13 => ?_
  refine sx_region ?_
  refine sx_pure rfl rfl rfl (px_move rfl) ?_
  refine sx_pure rfl rfl rfl (px_lt rfl rfl) ?_
  refine wl_nil ?_
  refine q_n (k13 _ _ ?_)
  refine sx_condP rfl (fun h5218 => ?_) (fun h5218 => ?_)
  ·
    refine sx_seq fun K14 k14 => ?_
    refine sx_region ?_
    refine sx_pure rfl rfl rfl (px_assign rfl) ?_
    refine wl_nil ?_
    refine q_n (k14 _ _ ?_)
    refine sx_retc ?_
    refine q_r (sx_ret1 Try.results4 rfl ?_)
    have q15 := Chg.step (l := 0) (h := 0) cb2 cb4 (by omega)
    have q16 := Chg.step (l := 0) (h := 0) q15 c11 (by omega)
    exact ⟨rfl, q16⟩
  ·
    refine sx_skip ?_
    refine q_n (k12 _ _ ?_)
    refine sx_seq fun K17 k17 => ?_
    refine sx_region ?_
    have f18 := fb4.ext c11
    refine sx_pure rfl rfl rfl (px_load rfl (f18.loadA (vs := [.string c2, .bool n2, v2]) (look_lit rfl) Try.isAgg36 Try.sizeOf36)) ?_
    refine sx_pure rfl rfl rfl (px_move rfl) ?_
    have f19 := hv20.ext cb2
    have f20 := f19.ext cb4
    have f21 := f20.ext c11
    refine sx_call rfl rfl Try.call20 (c_szMoney f21 (by omega) (by omega) (by omega)) (fun v22 w22 p22 => ?_)
    obtain ⟨r22, rfl, hr22, c22⟩ := p22
    have zw22 := c22.size
    refine sx_pure rfl rfl rfl (px_assign rfl) ?_
    refine wl_nil ?_
    refine q_n (k17 _ _ ?_)
    refine sx_seq fun K23 k23 => ?_
    refine sx_seq fun K24 k24 => ?_
    refine sx_region ?_
    refine sx_pure rfl rfl rfl (px_move rfl) ?_
    refine sx_pure rfl rfl rfl (px_lt rfl rfl) ?_
    refine wl_nil ?_
    refine q_n (k24 _ _ ?_)
    refine sx_sub (Sub.cons (t := 2) rfl (.cons (t := 3) rfl (.cons (t := 4) rfl (.cons (t := 19) rfl (.nil))))) ?_
    refine sx_condP rfl (fun h5222 => ?_) (fun h5222 => ?_)
    ·
      refine sx_seq fun K25 k25 => ?_
      refine sx_region ?_
      refine sx_pure rfl rfl rfl (px_assign rfl) ?_
      refine wl_nil ?_
      refine q_n (k25 _ _ ?_)
      refine sx_retc ?_
      refine q_r (sx_ret1 Try.results4 rfl ?_)
      have q26 := Chg.step (l := 0) (h := 0) cb2 cb4 (by omega)
      have q27 := Chg.step (l := 0) (h := 0) q26 c11 (by omega)
      have q28 := Chg.step (l := 0) (h := 0) q27 c22 (by omega)
      exact ⟨rfl, q28⟩
    ·
      refine sx_skip ?_
      refine q_n (k23 _ _ ?_)
      refine sx_seq fun K29 k29 => ?_
      have f30 := f8.ext c11
      have f31 := f30.ext c22
      have f32 := f18.ext c22
      have f33 := f10.ext c11
      have f34 := f33.ext c22
      have f35 := f21.ext c22
      refine dx_region (fun w' => Chg 0 0 w22 w') (by kernel_rfl) (Chg.zero (Chg.drew _)) ?_
      have d36 := Chg.drew w22
      have s36 : Chg 0 0 w22 (World.drew w22) := Chg.zero (Chg.drew _)
      have y36 : (World.drew w22).heap.size = w22.heap.size := rfl
      generalize World.drew w22 = w36 at *
      have zw36 := d36.size
      refine dx_take 0 rfl rfl rfl rfl (by kernel_rfl) (by kernel_rfl) (by kernel_rfl) s36 (fun _ hS => px_load rfl ((f31.chg hS (by omega)).loadA (vs := [.string c1, .bool n1, v1]) (look_lit rfl) Try.isAgg36 Try.sizeOf36)) ?_
      refine dx_take 2 rfl rfl rfl rfl (by kernel_rfl) (by kernel_rfl) (by kernel_rfl) s36 (fun _ hS => px_load rfl ((f32.chg hS (by omega)).loadA (vs := [.string c2, .bool n2, v2]) (look_lit rfl) Try.isAgg36 Try.sizeOf36)) ?_
      refine dx_eff 1 rfl (by kernel_rfl) ?_
      have f37 := f34.ext d36
      refine sx_call rfl rfl Try.call22 (c_toMoney f37 (by omega)) (fun v38 w38 p38 => ?_)
      obtain ⟨s238, rfl, os2_38, c38⟩ := p38
      have zw38 := c38.size
      have q40 := Chg.step (l := 0) (h := 0) d36 c38 (by omega)
      have s39 : Chg 0 0 w22 w38 := q40
      refine wl_nil ?_
      refine dx_next s39 ?_
      refine dx_eff 3 rfl (by kernel_rfl) ?_
      have f41 := f35.ext d36
      have f42 := f41.ext c38
      refine sx_call rfl rfl Try.call22 (c_toMoney f42 (by omega)) (fun v43 w43 p43 => ?_)
      obtain ⟨s243, rfl, os2_43, c43⟩ := p43
      have zw43 := c43.size
      have q45 := Chg.step (l := 0) (h := 0) d36 c38 (by omega)
      have q46 := Chg.step (l := 0) (h := 0) q45 c43 (by omega)
      have s44 : Chg 0 0 w22 w43 := q46
      refine wl_nil ?_
      refine dx_next s44 ?_
      refine dx_eff 4 rfl (by kernel_rfl) ?_
      have f47 := os2_38.ext c43
      refine sx_call rfl rfl Try.call21 (c_sMoneySame f47.sv os2_43.sv (by omega)) (fun v48 w48 p48 => ?_)
      obtain ⟨rfl, c48⟩ := p48
      have zw48 := c48.size
      have q50 := Chg.step (l := 0) (h := 0) d36 c38 (by omega)
      have q51 := Chg.step (l := 0) (h := 0) q50 c43 (by omega)
      have q52 := Chg.step (l := 0) (h := 0) q51 c48 (by omega)
      have s49 : Chg 0 0 w22 w48 := q52
      refine wl_nil ?_
      refine dx_next s49 ?_
      refine dx_take 5 rfl rfl rfl rfl (by kernel_rfl) (by kernel_rfl) (by kernel_rfl) s49 (fun _ hS => px_assign rfl) ?_
      refine dx_done (by kernel_rfl) ?_
      refine q_n (k29 _ _ ?_)
      refine sx_seq fun K53 k53 => ?_
      refine sx_region ?_
      have f54 := f31.ext d36
      have f55 := f54.ext c38
      have f56 := f55.ext c43
      have f57 := f56.ext c48
      refine sx_pure rfl rfl rfl (px_load rfl (f57.loadA (vs := [.string c1, .bool n1, v1]) (look_lit rfl) Try.isAgg36 Try.sizeOf36)) ?_
      have f58 := f37.ext c38
      have f59 := f58.ext c43
      have f60 := f59.ext c48
      refine sx_call rfl rfl Try.call22 (c_toMoney f60 (by omega)) (fun v61 w61 p61 => ?_)
      obtain ⟨s261, rfl, os2_61, c61⟩ := p61
      have zw61 := c61.size
      refine sx_alloc [.string (⟨#[]⟩), .bool false, (.slice none 0 0)] rfl Try.zeroValue40 rfl (fun b62 w63 eb62 sb62 fb62 cb62 => ?_)
      have zw63 := cb62.size
      have f65 := os2_61.ext cb62
      refine sx_store (vs := [.string c1, .bool n1, s261]) rfl rfl fb62 rfl Try.sizeOf40 (Nat.le_of_ble_eq_true rfl) (one_cons rfl (one_cons rfl (one_cons f65.one one_nil))) (fun w64 sw64 fw64 cw64 => ?_)
      have zw64 := cw64.size
      have gw64 : Blk w64 b62 [.string c1, .bool n1, s261] 40 := fw64
      refine wl_nil ?_
      refine q_n (k53 _ _ ?_)
      refine sx_seq fun K66 k66 => ?_
      refine sx_region ?_
      have f67 := f32.ext d36
      have f68 := f67.ext c38
      have f69 := f68.ext c43
      have f70 := f69.ext c48
      have f71 := f70.ext c61
      have f72 := f71.ext cb62
      have f73 := f72.chg cw64 (by omega)
      refine sx_pure rfl rfl rfl (px_load rfl (f73.loadA (vs := [.string c2, .bool n2, v2]) (look_lit rfl) Try.isAgg36 Try.sizeOf36)) ?_
      have f74 := f42.ext c43
      have f75 := f74.ext c48
      have f76 := f75.ext c61
      have f77 := f76.ext cb62
      have f78 := f77.chg cw64 (by omega)
      refine sx_call rfl rfl Try.call22 (c_toMoney f78 (by omega)) (fun v79 w79 p79 => ?_)
      obtain ⟨s279, rfl, os2_79, c79⟩ := p79
      have zw79 := c79.size
      refine sx_alloc [.string (⟨#[]⟩), .bool false, (.slice none 0 0)] rfl Try.zeroValue40 rfl (fun b80 w81 eb80 sb80 fb80 cb80 => ?_)
      have zw81 := cb80.size
      have f83 := os2_79.ext cb80
      refine sx_store (vs := [.string c2, .bool n2, s279]) rfl rfl fb80 rfl Try.sizeOf40 (Nat.le_of_ble_eq_true rfl) (one_cons rfl (one_cons rfl (one_cons f83.one one_nil))) (fun w82 sw82 fw82 cw82 => ?_)
      have zw82 := cw82.size
      have gw82 : Blk w82 b80 [.string c2, .bool n2, s279] 40 := fw82
      refine wl_nil ?_
      refine q_n (k66 _ _ ?_)
      refine sx_sub (Sub.cons (t := 2) rfl (.cons (t := 3) rfl (.cons (t := 4) rfl (.cons (t := 6) rfl (.cons (t := 7) rfl (.cons (t := 8) rfl (.nil))))))) ?_
      refine sx_seq fun K84 k84 => ?_
      refine sx_region ?_
      have f85 := gw64.ext c79
      have f86 := f85.ext cb80
      have f87 := f86.chg cw82 (by omega)
      refine sx_pure rfl rfl rfl (px_load rfl (f87.loadA (vs := [.string c1, .bool n1, s261]) (look_lit rfl) Try.isAgg40 Try.sizeOf40)) ?_
      refine sx_pure rfl rfl rfl (px_load rfl (gw82.loadA (vs := [.string c2, .bool n2, s279]) (look_lit rfl) Try.isAgg40 Try.sizeOf40)) ?_
      have f88 := f65.chg cw64 (by omega)
      have f89 := f88.ext c79
      have f90 := f89.ext cb80
      have f91 := f90.chg cw82 (by omega)
      have f92 := f83.chg cw82 (by omega)
      refine sx_call rfl rfl Try.call23 (c_iMoneySame f91.sv f92.sv (by omega)) (fun v93 w93 p93 => ?_)
      obtain ⟨rfl, c93⟩ := p93
      have zw93 := c93.size
      refine sx_pure rfl rfl rfl (px_assign rfl) ?_
      refine wl_nil ?_
      refine q_n (k84 _ _ ?_)
      refine sx_seq fun K94 k94 => ?_
      refine sx_seq fun K95 k95 => ?_
      refine sx_region ?_
      refine sx_pure rfl rfl rfl (px_move rfl) ?_
      refine sx_pure rfl rfl rfl (px_move rfl) ?_
      refine sx_pure rfl rfl rfl (px_neB Try.underlying4 rfl rfl) ?_
      refine wl_nil ?_
      refine q_n (k95 _ _ ?_)
      have h5229 : ((decide (c1 = c2 ∧ n1 = n2 ∧ z1 = z2)) != (decide (c1 = c2 ∧ n1 = n2 ∧ z1 = z2))) = false := by simp
      refine sx_condBF rfl h5229 ?_
      refine sx_skip ?_
      refine q_n (k94 _ _ ?_)
      refine sx_seq fun K96 k96 => ?_
      refine sx_seq fun K97 k97 => ?_
      have f98 := f57.ext c61
      have f99 := f98.ext cb62
      have f100 := f99.chg cw64 (by omega)
      have f101 := f100.ext c79
      have f102 := f101.ext cb80
      have f103 := f102.chg cw82 (by omega)
      have f104 := f103.ext c93
      have f105 := f73.ext c79
      have f106 := f105.ext cb80
      have f107 := f106.chg cw82 (by omega)
      have f108 := f107.ext c93
      have f109 := f87.ext c93
      have f110 := gw82.ext c93
      have f111 := f60.ext c61
      have f112 := f111.ext cb62
      have f113 := f112.chg cw64 (by omega)
      have f114 := f113.ext c79
      have f115 := f114.ext cb80
      have f116 := f115.chg cw82 (by omega)
      have f117 := f116.ext c93
      have f118 := f78.ext c79
      have f119 := f118.ext cb80
      have f120 := f119.chg cw82 (by omega)
      have f121 := f120.ext c93
      have f122 := f47.ext c48
      have f123 := f122.ext c61
      have f124 := f123.ext cb62
      have f125 := f124.chg cw64 (by omega)
      have f126 := f125.ext c79
      have f127 := f126.ext cb80
      have f128 := f127.chg cw82 (by omega)
      have f129 := f128.ext c93
      have f130 := os2_43.ext c48
      have f131 := f130.ext c61
      have f132 := f131.ext cb62
      have f133 := f132.chg cw64 (by omega)
      have f134 := f133.ext c79
      have f135 := f134.ext cb80
      have f136 := f135.chg cw82 (by omega)
      have f137 := f136.ext c93
      have f138 := f91.ext c93
      have f139 := f92.ext c93
      refine dx_region (fun w' => Chg 0 0 w93 w') (by kernel_rfl) (Chg.zero (Chg.drew _)) ?_
      have d140 := Chg.drew w93
      have s140 : Chg 0 0 w93 (World.drew w93) := Chg.zero (Chg.drew _)
      have y140 : (World.drew w93).heap.size = w93.heap.size := rfl
      generalize World.drew w93 = w140 at *
      have zw140 := d140.size
      refine dx_take 0 rfl rfl rfl rfl (by kernel_rfl) (by kernel_rfl) (by kernel_rfl) s140 (fun _ hS => px_load rfl ((f109.chg hS (by omega)).loadA (vs := [.string c1, .bool n1, s261]) (look_lit rfl) Try.isAgg40 Try.sizeOf40)) ?_
      refine dx_take 1 rfl rfl rfl rfl (by kernel_rfl) (by kernel_rfl) (by kernel_rfl) s140 (fun _ hS => px_load rfl ((f104.chg hS (by omega)).loadA (vs := [.string c1, .bool n1, v1]) (look_lit rfl) Try.isAgg36 Try.sizeOf36)) ?_
      refine dx_eff 2 rfl (by kernel_rfl) ?_
      have f141 := f117.ext d140
      refine sx_call rfl rfl Try.call22 (c_toMoney f141 (by omega)) (fun v142 w142 p142 => ?_)
      obtain ⟨s2142, rfl, os2_142, c142⟩ := p142
      have zw142 := c142.size
      have q144 := Chg.step (l := 0) (h := 0) d140 c142 (by omega)
      have s143 : Chg 0 0 w93 w142 := q144
      refine wl_nil ?_
      refine dx_next s143 ?_
      refine dx_eff 3 rfl (by kernel_rfl) ?_
      have f145 := f138.ext d140
      have f146 := f145.ext c142
      refine sx_call rfl rfl Try.call24 (c_eqMoney f146.sv os2_142.sv (by omega)) (fun v147 w147 p147 => ?_)
      obtain ⟨rfl, c147⟩ := p147
      have zw147 := c147.size
      have q149 := Chg.step (l := 0) (h := 0) d140 c142 (by omega)
      have q150 := Chg.step (l := 0) (h := 0) q149 c147 (by omega)
      have s148 : Chg 0 0 w93 w147 := q150
      refine wl_nil ?_
      refine dx_next s148 ?_
      refine dx_take 4 rfl rfl rfl rfl (by kernel_rfl) (by kernel_rfl) (by kernel_rfl) s148 (fun _ hS => px_notP rfl) ?_
      refine dx_done (by kernel_rfl) ?_
      refine q_n (k97 _ _ ?_)
      refine sx_sub (Sub.cons (t := 3) rfl (.cons (t := 4) rfl (.cons (t := 8) rfl (.cons (t := 39) rfl (.nil))))) ?_
      have h5232 : ¬ (¬ (c1 = c1 ∧ n1 = n1 ∧ z1 = z1)) := by simp
      refine sx_condPF rfl h5232 ?_
      refine sx_skip ?_
      refine q_n (k96 _ _ ?_)
      refine sx_seq fun K151 k151 => ?_
      refine sx_seq fun K152 k152 => ?_
      have f153 := f104.ext d140
      have f154 := f153.ext c142
      have f155 := f154.ext c147
      have f156 := f108.ext d140
      have f157 := f156.ext c142
      have f158 := f157.ext c147
      have f159 := f109.ext d140
      have f160 := f159.ext c142
      have f161 := f160.ext c147
      have f162 := f110.ext d140
      have f163 := f162.ext c142
      have f164 := f163.ext c147
      have f165 := f141.ext c142
      have f166 := f165.ext c147
      have f167 := f121.ext d140
      have f168 := f167.ext c142
      have f169 := f168.ext c147
      have f170 := f129.ext d140
      have f171 := f170.ext c142
      have f172 := f171.ext c147
      have f173 := f137.ext d140
      have f174 := f173.ext c142
      have f175 := f174.ext c147
      have f176 := f146.ext c147
      have f177 := f139.ext d140
      have f178 := f177.ext c142
      have f179 := f178.ext c147
      have f180 := os2_142.ext c147
      refine dx_region (fun w' => Chg 0 0 w147 w') (by kernel_rfl) (Chg.zero (Chg.drew _)) ?_
      have d181 := Chg.drew w147
      have s181 : Chg 0 0 w147 (World.drew w147) := Chg.zero (Chg.drew _)
      have y181 : (World.drew w147).heap.size = w147.heap.size := rfl
      generalize World.drew w147 = w181 at *
      have zw181 := d181.size
      refine dx_take 0 rfl rfl rfl rfl (by kernel_rfl) (by kernel_rfl) (by kernel_rfl) s181 (fun _ hS => px_load rfl ((f164.chg hS (by omega)).loadA (vs := [.string c2, .bool n2, s279]) (look_lit rfl) Try.isAgg40 Try.sizeOf40)) ?_
      refine dx_take 1 rfl rfl rfl rfl (by kernel_rfl) (by kernel_rfl) (by kernel_rfl) s181 (fun _ hS => px_load rfl ((f158.chg hS (by omega)).loadA (vs := [.string c2, .bool n2, v2]) (look_lit rfl) Try.isAgg36 Try.sizeOf36)) ?_
      refine dx_eff 2 rfl (by kernel_rfl) ?_
      have f182 := f169.ext d181
      refine sx_call rfl rfl Try.call22 (c_toMoney f182 (by omega)) (fun v183 w183 p183 => ?_)
      obtain ⟨s2183, rfl, os2_183, c183⟩ := p183
      have zw183 := c183.size
      have q185 := Chg.step (l := 0) (h := 0) d181 c183 (by omega)
      have s184 : Chg 0 0 w147 w183 := q185
      refine wl_nil ?_
      refine dx_next s184 ?_
      refine dx_eff 3 rfl (by kernel_rfl) ?_
      have f186 := f179.ext d181
      have f187 := f186.ext c183
      refine sx_call rfl rfl Try.call24 (c_eqMoney f187.sv os2_183.sv (by omega)) (fun v188 w188 p188 => ?_)
      obtain ⟨rfl, c188⟩ := p188
      have zw188 := c188.size
      have q190 := Chg.step (l := 0) (h := 0) d181 c183 (by omega)
      have q191 := Chg.step (l := 0) (h := 0) q190 c188 (by omega)
      have s189 : Chg 0 0 w147 w188 := q191
      refine wl_nil ?_
      refine dx_next s189 ?_
      refine dx_take 4 rfl rfl rfl rfl (by kernel_rfl) (by kernel_rfl) (by kernel_rfl) s189 (fun _ hS => px_notP rfl) ?_
      refine dx_done (by kernel_rfl) ?_
      refine q_n (k152 _ _ ?_)
      have h5235 : ¬ (¬ (c2 = c2 ∧ n2 = n2 ∧ z2 = z2)) := by simp
      refine sx_condPF rfl h5235 ?_
      refine sx_skip ?_
      refine q_n (k151 _ _ ?_)
      refine sx_seq fun K192 k192 => ?_
      refine sx_region ?_
      refine sx_pure rfl rfl rfl (px_assign rfl) ?_
      refine wl_nil ?_
      refine q_n (k192 _ _ ?_)
      refine sx_retc ?_
      refine sx_ret1 Try.results4 rfl ?_
      have q193 := Chg.step (l := 0) (h := 0) cb2 cb4 (by omega)
      have q194 := Chg.step (l := 0) (h := 0) q193 c11 (by omega)
      have q195 := Chg.step (l := 0) (h := 0) q194 c22 (by omega)
      have q196 := Chg.step (l := 0) (h := 0) q195 d36 (by omega)
      have q197 := Chg.step (l := 0) (h := 0) q196 c38 (by omega)
      have q198 := Chg.step (l := 0) (h := 0) q197 c43 (by omega)
      have q199 := Chg.step (l := 0) (h := 0) q198 c48 (by omega)
      have q200 := Chg.step (l := 0) (h := 0) q199 c61 (by omega)
      have q201 := Chg.step (l := 0) (h := 0) q200 cb62 (by omega)
      have q202 := Chg.step (l := 0) (h := 0) q201 cw64 (by omega)
      have q203 := Chg.step (l := 0) (h := 0) q202 c79 (by omega)
      have q204 := Chg.step (l := 0) (h := 0) q203 cb80 (by omega)
      have q205 := Chg.step (l := 0) (h := 0) q204 cw82 (by omega)
      have q206 := Chg.step (l := 0) (h := 0) q205 c93 (by omega)
      have q207 := Chg.step (l := 0) (h := 0) q206 d140 (by omega)
      have q208 := Chg.step (l := 0) (h := 0) q207 c142 (by omega)
      have q209 := Chg.step (l := 0) (h := 0) q208 c147 (by omega)
      have q210 := Chg.step (l := 0) (h := 0) q209 d181 (by omega)
      have q211 := Chg.step (l := 0) (h := 0) q210 c183 (by omega)
      have q212 := Chg.step (l := 0) (h := 0) q211 c188 (by omega)
      exact ⟨rfl, q212⟩

end Go.Proofs.Yteiifmkclokgnaa
