/- Contracts of functions of the program: what each call returns, and that it changes nothing that was. Conditions: as each says. -/
import Derived.Test.YtnpjfkhleaegmaaDoorTy
import Derived.Test.YtnpjfkhleaegmaaDoorNatL
import Derived.Test.YtnpjfkhleaegmaaDoorSxP
set_option linter.unusedVariables false
set_option linter.unusedSimpArgs false
namespace Go.Proofs.YtnpjfkhleaegmaaDoor
open Go Go.RowKit
set_option maxRecDepth 100000
theorem c_szIntS {w : World} {va : Value} {lva uva : Nat} {zs : List Int} {n : Int} (hva : Sl w lva uva va (zs)) (bzs : zs.length ≤ 9223372036854775807) (hn : 0 ≤ n ∧ n ≤ 1048576) :
  Ret Tryd.prog 25 [va, .int .i64 n] w fun v w' => ∃ r, v = .int .i64 (r) ∧ (r < 0 ∨ (0 ≤ r ∧ r = n - (zs).length)) ∧ Chg 0 0 w w' := by
 have hva0 := hva.fit
 refine sx_enter Tryd.func25 rfl Tryd.ntmps25 (nbl rfl) ?_
 refine sx_seq fun K1 k1 => sx_region ?_
 refine av rfl rfl (wl_nil (q_n (k1 _ _ ?_)))
 refine sx_seq fun K2 k2 => sx_region ?_
 refine mv rfl rfl (mv rfl rfl (sp rfl (px_len rfl Tryd.underlying22 hva0) ?_))
 refine sp rfl (px_sub rfl rfl (by omega)) ?_
 refine av rfl rfl (wl_nil (q_n (k2 _ _ ?_)))
 refine sx_seq fun K3 k3 => ?_
 refine sx_seq fun K4 k4 => sx_region ?_
 refine mv rfl rfl (sp rfl (px_lt rfl rfl) ?_)
 refine wl_nil (q_n (k4 _ _ ?_))
 refine sx_condP rfl (fun h248 => ?_) (fun h248 => ?_)
 ·
  refine sx_seq fun K5 k5 => sx_region ?_
  refine av rfl rfl (wl_nil (q_n (k5 _ _ ?_)))
  refine sx_retc ?_
  refine q_r (sx_ret1 Tryd.results25 rfl ?_)
  exact ⟨_, rfl, by omega, (Chg.refl 0 0 _)⟩
 refine sx_skip ?_
 refine q_n (k3 _ _ ?_)
 refine sx_seq fun K6 k6 => sx_region ?_
 refine mv rfl rfl (av rfl rfl (wl_nil (q_n (k6 _ _ ?_))))
 refine sx_retc ?_
 refine sx_ret1 Tryd.results25 rfl ?_
 exact ⟨_, rfl, by omega, (Chg.refl 0 0 _)⟩

theorem c_szSigned {w : World} {n1 : Bool} {v1 : Value} {lv1 uv1 : Nat} {z1 : List Int} {n : Int} (hv1 : Sl w lv1 uv1 v1 (z1)) (bz1 : z1.length ≤ 9223372036854775807) (hn : 0 ≤ n ∧ n ≤ 1048576) :
  Ret Tryd.prog 13 [.agg #[.bool n1, v1], .int .i64 n] w fun v w' => ∃ r, v = .int .i64 (r) ∧ (r < 0 ∨ (0 ≤ r ∧ r = n - (z1).length)) ∧ Chg 0 0 w w' := by
 have hv10 := hv1.fit
 refine sx_enter Tryd.func13 rfl Tryd.ntmps13 (nbl rfl) ?_
 refine sx_seq fun K1 k1 => sx_region ?_
 refine sx_box [.bool n1, v1] rfl rfl rfl (fun b2 w3 eb2 sb2 fb2 cb2 => ?_)
 have zw3 := cb2.size
 refine av rfl rfl (wl_nil (q_n (k1 _ _ ?_)))
 refine sx_seq fun K4 k4 => sx_region ?_
 refine sp rfl (px_field rfl xfld24x1) ?_
 refine sp rfl (px_load rfl (fb2.load1 rfl Tryd.isAgg22)) ?_
 refine mv rfl rfl ?_
 have f5 := hv10.ext cb2
 refine sx_call rfl rfl Tryd.call25 (c_szIntS f5 (by omega) (by omega)) (fun v6 w6 p6 => ?_)
 obtain ⟨r6, rfl, hr6, c6⟩ := p6
 have zw6 := c6.size
 refine av rfl rfl (wl_nil (q_n (k4 _ _ ?_)))
 refine sx_seq fun K7 k7 => ?_
 refine sx_seq fun K8 k8 => sx_region ?_
 refine mv rfl rfl (sp rfl (px_lt rfl rfl) ?_)
 refine wl_nil (q_n (k8 _ _ ?_))
 refine sx_condP rfl (fun h256 => ?_) (fun h256 => ?_)
 ·
  refine sx_seq fun K9 k9 => sx_region ?_
  refine av rfl rfl (wl_nil (q_n (k9 _ _ ?_)))
  refine sx_retc ?_
  refine q_r (sx_ret1 Tryd.results13 rfl ?_)
  exact ⟨_, rfl, by omega, (cb2.t c6)⟩
 refine sx_skip ?_
 refine q_n (k7 _ _ ?_)
 refine sx_seq fun K10 k10 => sx_region ?_
 refine mv rfl rfl (av rfl rfl (wl_nil (q_n (k10 _ _ ?_))))
 refine sx_retc ?_
 refine sx_ret1 Tryd.results13 rfl ?_
 exact ⟨_, rfl, by omega, (cb2.t c6)⟩

theorem c_szMoney {w : World} {c1 : ByteArray} {n1 : Bool} {v1 : Value} {lv1 uv1 : Nat} {z1 : List Int} {n : Int} (hv1 : Sl w lv1 uv1 v1 (z1)) (bz1 : z1.length ≤ 9223372036854775807) (bc1 : c1.size ≤ 9223372036854775807) (hn : 0 ≤ n ∧ n ≤ 1048576) :
  Ret Tryd.prog 4 [.agg #[.string c1, .bool n1, v1], .int .i64 n] w fun v w' => ∃ r, v = .int .i64 (r) ∧ (r < 0 ∨ (0 ≤ r ∧ r ≤ n - (z1).length)) ∧ Chg 0 0 w w' := by
 have hv10 := hv1.fit
 refine sx_enter Tryd.func4 rfl Tryd.ntmps4 (nbl rfl) ?_
 refine sx_seq fun K1 k1 => sx_region ?_
 refine sx_box [.string c1, .bool n1, v1] rfl rfl rfl (fun b2 w3 eb2 sb2 fb2 cb2 => ?_)
 have zw3 := cb2.size
 refine av rfl rfl (wl_nil (q_n (k1 _ _ ?_)))
 refine sx_seq fun K4 k4 => sx_region ?_
 refine mv rfl rfl (sp rfl (px_field rfl xfld26x0) ?_)
 refine sp rfl (px_load rfl (fb2.load1 rfl Tryd.isAgg9)) ?_
 refine sp rfl (px_lenS rfl Tryd.underlying9) ?_
 refine sp rfl (px_sub rfl rfl (by omega)) ?_
 refine av rfl rfl (wl_nil (q_n (k4 _ _ ?_)))
 refine sx_seq fun K5 k5 => ?_
 refine sx_seq fun K6 k6 => sx_region ?_
 refine mv rfl rfl (sp rfl (px_lt rfl rfl) ?_)
 refine wl_nil (q_n (k6 _ _ ?_))
 refine sx_condP rfl (fun h436 => ?_) (fun h436 => ?_)
 ·
  refine sx_seq fun K7 k7 => sx_region ?_
  refine av rfl rfl (wl_nil (q_n (k7 _ _ ?_)))
  refine sx_retc ?_
  refine q_r (sx_ret1 Tryd.results4 rfl ?_)
  exact ⟨_, rfl, by omega, cb2⟩
 refine sx_skip ?_
 refine q_n (k5 _ _ ?_)
 refine sx_seq fun K8 k8 => sx_region ?_
 refine sp rfl (px_field rfl xfld26x1) ?_
 refine sp rfl (px_load rfl (fb2.loadA (vs := [.bool n1, v1]) (look_lit rfl) Tryd.isAgg24 Tryd.sizeOf24)) ?_
 refine mv rfl rfl ?_
 have f9 := hv10.ext cb2
 refine sx_call rfl rfl Tryd.call13 (c_szSigned f9 (by omega) (by omega)) (fun v10 w10 p10 => ?_)
 obtain ⟨r10, rfl, hr10, c10⟩ := p10
 have zw10 := c10.size
 refine av rfl rfl (wl_nil (q_n (k8 _ _ ?_)))
 refine sx_sub (Sub.c 1 rfl (.c 4 rfl .nil)) ?_
 refine sx_seq fun K11 k11 => ?_
 refine sx_seq fun K12 k12 => sx_region ?_
 refine mv rfl rfl (sp rfl (px_lt rfl rfl) ?_)
 refine wl_nil (q_n (k12 _ _ ?_))
 refine sx_condP rfl (fun h440 => ?_) (fun h440 => ?_)
 ·
  refine sx_seq fun K13 k13 => sx_region ?_
  refine av rfl rfl (wl_nil (q_n (k13 _ _ ?_)))
  refine sx_retc ?_
  refine q_r (sx_ret1 Tryd.results4 rfl ?_)
  exact ⟨_, rfl, by omega, (cb2.t c10)⟩
 refine sx_skip ?_
 refine q_n (k11 _ _ ?_)
 refine sx_seq fun K14 k14 => sx_region ?_
 refine mv rfl rfl (av rfl rfl (wl_nil (q_n (k14 _ _ ?_))))
 refine sx_retc ?_
 refine sx_ret1 Tryd.results4 rfl ?_
 exact ⟨_, rfl, by omega, (cb2.t c10)⟩

theorem c_toIntS {w : World} {va : Value} {lva uva : Nat} {zs : List Int} (hva : Sl w lva uva va (zs)) (h63 : zs.length ≤ 1048576) :
  Ret Tryd.prog 30 [va] w fun v w' => ∃ s, v = s ∧ OwnI w' w.heap.size w'.heap.size s intT (zs) ∧ Chg 0 0 w w' := by
 have hva0 := hva.fit
 refine sx_enter Tryd.func30 rfl Tryd.ntmps30 (nbl rfl) ?_
 refine sx_seq fun K1 k1 => sx_region ?_
 refine av rfl rfl (wl_nil (q_n (k1 _ _ ?_)))
 refine sx_seq fun K2 k2 => sx_region ?_
 refine mv rfl rfl (sp rfl (px_len rfl Tryd.underlying22 hva0) ?_)
 refine sx_make (c := (zs).length) rfl xelt22 (rfl) (rfl) (by omega) (by unfold maxLen; omega) (fun s3 ws3 fs3 cs3 ls3 => ?_)
 have ns3 := fs3.made
 have zws3 := cs3.size
 refine av rfl rfl (wl_nil (q_n (k2 _ _ ?_)))
 refine sx_seq fun K4 k4 => ?_
 refine sx_seq fun K5 k5 => sx_region ?_
 refine av rfl rfl (wl_nil (q_n (k5 _ _ ?_)))
 refine sx_block ?_
 refine sx_loop (fun mm aa w' => ∃ (k : Nat) (os : List Int), Agr 22 [(0, va), (3, s3), (4, .int .i64 ↑k)] aa ∧ Chg w.heap.size ws3.heap.size ws3 w' ∧ Own w' w.heap.size ws3.heap.size s3 3 os.length 1 (os.map (Value.int .i64)) ∧ (mm = zs.length - k) ∧ (k ≤ zs.length) ∧ (os.length = zs.length) ∧ (os.take k = zs.take k)) (_) (fun a ha => ⟨0, List.replicate zs.length 0, ha.sub (Sub.c 0 rfl (.c 3 rfl (.c 4 (look_int (t := 4) rfl (by first | omega | simp)) .nil))), Chg.refl _ _ _, (ns3.mono (by omega) (by omega)), rfl, by omega, by simp, by simp⟩) ?_
 rintro mm aa wl6 ⟨k, os, hAwl6, cwl6, hs_s3, hm, hk, ho, he⟩
 refine (show cw Tryd.prog 22 _ _ _ wl6 from ?_) aa hAwl6
 clear hAwl6
 have zwl6 := cwl6.size
 refine sx_seq fun K7 k7 => ?_
 refine sx_seq fun K8 k8 => sx_region ?_
 refine mv rfl rfl (mv rfl rfl ?_)
 have f9 := hva0.ext cs3
 have f10 := f9.chg cwl6 (by omega)
 refine sp rfl (px_len rfl Tryd.underlying22 f10) ?_
 refine sp rfl (px_lt rfl rfl) ?_
 refine wl_nil (q_n (k8 _ _ ?_))
 refine sx_condP rfl (fun h203 => ?_) (fun h203 => ?_)
 ·
  refine sx_skip ?_
  refine q_n (k7 _ _ ?_)
  refine sx_seq fun K11 k11 => ?_
  refine sx_block ?_
  refine sx_region ?_
  refine mv rfl rfl (mv rfl rfl (mv rfl rfl (mv rfl rfl (sp rfl (px_index1 (j := k) rfl rfl (by omega) Tryd.underlying22 Tryd.sizeOf3 f10 (by omega)) ?_))))
  refine sp rfl (px_load rfl (f10.load1 (at_int (by omega)) Tryd.isAgg3)) ?_
  refine sp rfl (px_index1 (j := k) rfl rfl (by omega) Tryd.underlying22 Tryd.sizeOf3 hs_s3.sv (by omega)) ?_
  refine sx_storeO rfl rfl hs_s3 (by simp only [List.length_map]; omega) Tryd.sizeOf3 rfl (fun w12 sw12 fw12 cw12 => ?_)
  have zw12 := cw12.size
  have nw12 := fw12.set
  refine wl_nil ?_
  refine q_bn (q_n (k11 _ _ ?_))
  refine sx_region ?_
  refine mv rfl rfl (sp rfl (px_add rfl rfl (by omega)) ?_)
  refine av rfl rfl (wl_nil ?_)
  have q13 := Chg.step (l := w.heap.size) (h := ws3.heap.size) cwl6 cw12 (by omega)
  exact fun a ha => ⟨_, by omega, (k + 1), (os.set k (zs.getD k 0)), ha.sub (Sub.c 0 rfl (.c 3 rfl (.c 4 (look_int (t := 4) rfl (by first | omega | simp)) .nil))), q13, (nw12.mono (by omega) (by omega)), rfl, by omega, by simp [ho], take_set_succ he (by omega) (by omega)⟩
 refine sx_exit ?_
 refine q_e (q_e (q_bx (q_n (k4 _ _ ?_))))
 refine sx_seq fun K14 k14 => sx_region ?_
 refine mv rfl rfl (av rfl rfl (wl_nil (q_n (k14 _ _ ?_))))
 refine sx_retc ?_
 refine sx_ret1 Tryd.results30 rfl ?_
 have e1 : k = zs.length := by omega
 rw [e1, List.take_length, List.take_of_length_le (by omega)] at he
 subst he
 have q15 := Chg.step (l := 0) (h := 0) (Chg.zero (l := 0) (h := 0) cs3) cwl6 (by omega)
 exact ⟨_, rfl, Own.mono hs_s3 (by omega) (by omega), q15⟩

theorem c_toSigned {w : World} {n1 : Bool} {v1 : Value} {lv1 uv1 : Nat} {z1 : List Int} (hv1 : Sl w lv1 uv1 v1 (z1)) (bz1 : z1.length ≤ 1048576) :
  Ret Tryd.prog 16 [.agg #[.bool n1, v1]] w fun v w' => ∃ s1, v = .agg #[.bool (n1), s1] ∧ OwnI w' w.heap.size w'.heap.size s1 intT (z1) ∧ Chg 0 0 w w' := by
 have hv10 := hv1.fit
 refine sx_enter Tryd.func16 rfl Tryd.ntmps16 (nbl rfl) ?_
 refine sx_seq fun K1 k1 => sx_region ?_
 refine sx_box [.bool n1, v1] rfl rfl rfl (fun b2 w3 eb2 sb2 fb2 cb2 => ?_)
 have zw3 := cb2.size
 refine sx_alloc [.bool false, (.slice none 0 0)] rfl Tryd.zeroValue28 rfl (fun b4 w5 eb4 sb4 fb4 cb4 => ?_)
 have zw5 := cb4.size
 refine wl_nil (q_n (k1 _ _ ?_))
 refine sx_seq fun K6 k6 => sx_region ?_
 refine sx_alloc [.bool false, (.slice none 0 0)] rfl Tryd.zeroValue28 rfl (fun b7 w8 eb7 sb7 fb7 cb7 => ?_)
 have zw8 := cb7.size
 refine wl_nil (q_n (k6 _ _ ?_))
 refine sx_seq fun K9 k9 => sx_region ?_
 refine sp rfl (px_field rfl xfld24x0) ?_
 have f10 := fb2.ext cb4
 have f11 := f10.ext cb7
 refine sp rfl (px_load rfl (f11.load1 rfl Tryd.isAgg4)) ?_
 refine sp rfl (px_field rfl xfld28x0) ?_
 refine sx_store (vs := [.bool n1]) rfl rfl fb7 rfl Tryd.sizeOf4 (nbl rfl) (o1 rfl) (fun w12 sw12 fw12 cw12 => ?_)
 have zw12 := cw12.size
 have gw12 : Blk w12 b7 [.bool n1, (.slice none 0 0)] 28 := fw12
 refine wl_nil (q_n (k9 _ _ ?_))
 refine sx_seq fun K13 k13 => sx_region ?_
 refine sp rfl (px_field rfl xfld24x1) ?_
 have f14 := f11.chg cw12 (by omega)
 refine sp rfl (px_load rfl (f14.load1 rfl Tryd.isAgg22)) ?_
 have f15 := hv10.ext cb2
 have f16 := f15.ext cb4
 have f17 := f16.ext cb7
 have f18 := f17.chg cw12 (by omega)
 refine sx_call rfl rfl Tryd.call30 (c_toIntS f18 (by omega)) (fun v19 w19 p19 => ?_)
 obtain ⟨s19, rfl, os_19, c19⟩ := p19
 have zw19 := c19.size
 refine sp rfl (px_field rfl xfld28x1) ?_
 have f21 := gw12.ext c19
 refine sx_store (vs := [v19]) rfl rfl f21 (cells_one os_19.one) Tryd.sizeOf22 (nbl rfl) (one_cons os_19.one one_nil) (fun w20 sw20 fw20 cw20 => ?_)
 have zw20 := cw20.size
 have gw20 : Blk w20 b7 [.bool n1, v19] 28 := fw20
 refine wl_nil (q_n (k13 _ _ ?_))
 refine sx_seq fun K22 k22 => sx_region ?_
 refine sp rfl (px_load rfl (gw20.loadA (vs := [.bool n1, v19]) (look_lit rfl) Tryd.isAgg28 Tryd.sizeOf28)) ?_
 have f24 := fb4.ext cb7
 have f25 := f24.chg cw12 (by omega)
 have f27 := (f25.ext c19).chg cw20 (by omega)
 have f28 := os_19.chg cw20 (by omega)
 refine sx_store (vs := [.bool n1, v19]) rfl rfl f27 rfl Tryd.sizeOf28 (nbl rfl) (one_cons rfl (one_cons f28.one one_nil)) (fun w23 sw23 fw23 cw23 => ?_)
 have zw23 := cw23.size
 have gw23 : Blk w23 b4 [.bool n1, v19] 28 := fw23
 refine wl_nil (q_n (k22 _ _ ?_))
 refine sx_retc ?_
 refine sx_ret1 Tryd.results16 ⟨_, rfl, gw23.loadA (vs := [.bool n1, v19]) (look_lit rfl) Tryd.isAgg28 Tryd.sizeOf28⟩ ?_
 have q29 := Chg.step (l := 0) (h := 0) (Chg.zero (l := 0) (h := 0) ((cb2.t cb4).t cb7)) cw12 (by omega)
 have q30 := Chg.step (l := 0) (h := 0) q29 c19 (by omega)
 have q31 := Chg.step (l := 0) (h := 0) q30 cw20 (by omega)
 have q32 := Chg.step (l := 0) (h := 0) q31 cw23 (by omega)
 have f33 := f28.chg cw23 (by omega)
 exact ⟨_, rfl, Own.mono f33 (by omega) (by omega), q32⟩

theorem c_toMoney {w : World} {c1 : ByteArray} {n1 : Bool} {v1 : Value} {lv1 uv1 : Nat} {z1 : List Int} (hv1 : Sl w lv1 uv1 v1 (z1)) (bz1 : z1.length ≤ 1048576) :
  Ret Tryd.prog 6 [.agg #[.string c1, .bool n1, v1]] w fun v w' => ∃ s2, v = .agg #[.string (c1), .bool (n1), s2] ∧ OwnI w' w.heap.size w'.heap.size s2 intT (z1) ∧ Chg 0 0 w w' := by
 have hv10 := hv1.fit
 refine sx_enter Tryd.func6 rfl Tryd.ntmps6 (nbl rfl) ?_
 refine sx_seq fun K1 k1 => sx_region ?_
 refine sx_box [.string c1, .bool n1, v1] rfl rfl rfl (fun b2 w3 eb2 sb2 fb2 cb2 => ?_)
 have zw3 := cb2.size
 refine sx_alloc [.string (⟨#[]⟩), .bool false, (.slice none 0 0)] rfl Tryd.zeroValue33 rfl (fun b4 w5 eb4 sb4 fb4 cb4 => ?_)
 have zw5 := cb4.size
 refine wl_nil (q_n (k1 _ _ ?_))
 refine sx_seq fun K6 k6 => sx_region ?_
 refine sx_alloc [.string (⟨#[]⟩), .bool false, (.slice none 0 0)] rfl Tryd.zeroValue33 rfl (fun b7 w8 eb7 sb7 fb7 cb7 => ?_)
 have zw8 := cb7.size
 refine wl_nil (q_n (k6 _ _ ?_))
 refine sx_seq fun K9 k9 => sx_region ?_
 refine sp rfl (px_field rfl xfld26x0) ?_
 have f10 := fb2.ext cb4
 have f11 := f10.ext cb7
 refine sp rfl (px_load rfl (f11.load1 rfl Tryd.isAgg9)) ?_
 refine sp rfl (px_field rfl xfld33x0) ?_
 refine sx_store (vs := [.string c1]) rfl rfl fb7 rfl Tryd.sizeOf9 (nbl rfl) (o1 rfl) (fun w12 sw12 fw12 cw12 => ?_)
 have zw12 := cw12.size
 have gw12 : Blk w12 b7 [.string c1, .bool false, (.slice none 0 0)] 33 := fw12
 refine wl_nil (q_n (k9 _ _ ?_))
 refine sx_seq fun K13 k13 => sx_region ?_
 refine sp rfl (px_field rfl xfld26x1) ?_
 have f14 := f11.chg cw12 (by omega)
 refine sp rfl (px_load rfl (f14.loadA (vs := [.bool n1, v1]) (look_lit rfl) Tryd.isAgg24 Tryd.sizeOf24)) ?_
 have f15 := hv10.ext cb2
 have f16 := f15.ext cb4
 have f17 := f16.ext cb7
 have f18 := f17.chg cw12 (by omega)
 refine sx_call rfl rfl Tryd.call16 (c_toSigned f18 (by omega)) (fun v19 w19 p19 => ?_)
 obtain ⟨s119, rfl, os1_19, c19⟩ := p19
 have zw19 := c19.size
 refine sp rfl (px_field rfl xfld33x1) ?_
 have f21 := gw12.ext c19
 refine sx_store (vs := [.bool n1, s119]) rfl rfl f21 rfl Tryd.sizeOf28 (nbl rfl) (one_cons rfl (one_cons os1_19.one one_nil)) (fun w20 sw20 fw20 cw20 => ?_)
 have zw20 := cw20.size
 have gw20 : Blk w20 b7 [.string c1, .bool n1, s119] 33 := fw20
 refine wl_nil (q_n (k13 _ _ ?_))
 refine sx_seq fun K22 k22 => sx_region ?_
 refine sp rfl (px_load rfl (gw20.loadA (vs := [.string c1, .bool n1, s119]) (look_lit rfl) Tryd.isAgg33 Tryd.sizeOf33)) ?_
 have f24 := fb4.ext cb7
 have f25 := f24.chg cw12 (by omega)
 have f27 := (f25.ext c19).chg cw20 (by omega)
 have f28 := os1_19.chg cw20 (by omega)
 refine sx_store (vs := [.string c1, .bool n1, s119]) rfl rfl f27 rfl Tryd.sizeOf33 (nbl rfl) (one_cons rfl (one_cons rfl (one_cons f28.one one_nil))) (fun w23 sw23 fw23 cw23 => ?_)
 have zw23 := cw23.size
 have gw23 : Blk w23 b4 [.string c1, .bool n1, s119] 33 := fw23
 refine wl_nil (q_n (k22 _ _ ?_))
 refine sx_retc ?_
 refine sx_ret1 Tryd.results6 ⟨_, rfl, gw23.loadA (vs := [.string c1, .bool n1, s119]) (look_lit rfl) Tryd.isAgg33 Tryd.sizeOf33⟩ ?_
 have q29 := Chg.step (l := 0) (h := 0) (Chg.zero (l := 0) (h := 0) ((cb2.t cb4).t cb7)) cw12 (by omega)
 have q30 := Chg.step (l := 0) (h := 0) q29 c19 (by omega)
 have q31 := Chg.step (l := 0) (h := 0) q30 cw20 (by omega)
 have q32 := Chg.step (l := 0) (h := 0) q31 cw23 (by omega)
 have f33 := f28.chg cw23 (by omega)
 exact ⟨_, rfl, Own.mono f33 (by omega) (by omega), q32⟩

theorem c_l08Table {w : World} :
  Ret Tryd.prog 41 [] w fun v w' => ∃ sl, v = sl ∧ Own w' w.heap.size w'.heap.size sl 56 20 4 (crCells tabS) ∧ Chg 0 0 w w' := by
 refine sx_enter Tryd.func41 rfl Tryd.ntmps41 (nbl rfl) ?_
 refine sx_seq fun K1 k1 => sx_region ?_
 refine av rfl rfl (wl_nil (q_n (k1 _ _ ?_)))
 refine sx_seq fun K2 k2 => sx_region ?_
 refine sp rfl (px_build rfl (xbld56x0x1x2x3 rfl rfl rfl rfl _)) ?_
 refine sp rfl (px_build rfl (xbld56x0x1x2x3 rfl rfl rfl rfl _)) ?_
 refine sp rfl (px_build rfl (xbld56x0x1x2x3 rfl rfl rfl rfl _)) ?_
 refine sp rfl (px_build rfl (xbld56x0x1x2x3 rfl rfl rfl rfl _)) ?_
 refine sp rfl (px_build rfl (xbld56x0x1x2x3 rfl rfl rfl rfl _)) ?_
 refine sp rfl (px_build rfl (xbld56x0x1x2x3 rfl rfl rfl rfl _)) ?_
 refine sp rfl (px_build rfl (xbld56x0x1x2x3 rfl rfl rfl rfl _)) ?_
 refine sp rfl (px_build rfl (xbld56x0x1x2x3 rfl rfl rfl rfl _)) ?_
 refine sp rfl (px_build rfl (xbld56x0x1x2x3 rfl rfl rfl rfl _)) ?_
 refine sp rfl (px_build rfl (xbld56x0x1x2x3 rfl rfl rfl rfl _)) ?_
 refine sp rfl (px_build rfl (xbld56x0x1x2x3 rfl rfl rfl rfl _)) ?_
 refine sp rfl (px_build rfl (xbld56x0x1x2x3 rfl rfl rfl rfl _)) ?_
 refine sp rfl (px_build rfl (xbld56x0x1x2x3 rfl rfl rfl rfl _)) ?_
 refine sp rfl (px_build rfl (xbld56x0x1x2x3 rfl rfl rfl rfl _)) ?_
 refine sp rfl (px_build rfl (xbld56x0x1x2x3 rfl rfl rfl rfl _)) ?_
 refine sp rfl (px_build rfl (xbld56x0x1x2x3 rfl rfl rfl rfl _)) ?_
 refine sp rfl (px_build rfl (xbld56x0x1x2x3 rfl rfl rfl rfl _)) ?_
 refine sp rfl (px_build rfl (xbld56x0x1x2x3 rfl rfl rfl rfl _)) ?_
 refine sp rfl (px_build rfl (xbld56x0x1x2x3 rfl rfl rfl rfl _)) ?_
 refine sp rfl (px_build rfl (xbld56x0x1x2x3 rfl rfl rfl rfl _)) ?_
 refine sx_litG (k := 4) (e := 56) (vs := crCells tabS) rfl rfl ⟨by decide, by decide⟩ (fun w => by kernel_rfl) (fun s3 ws3 ss3 fs3 cs3 => ?_)
 have zws3 := cs3.size
 refine av rfl rfl (wl_nil (q_n (k2 _ _ ?_)))
 refine sx_sub (Sub.c 0 rfl .nil) ?_
 refine sx_retc ?_
 refine sx_ret1 Tryd.results41 rfl ?_
 exact ⟨_, rfl, fs3, cs3⟩

theorem c_l08Find {w : World} {s : ByteArray} :
  Ret Tryd.prog 34 [.string s] w fun v w' => v = .agg #[.string ((curOf s).code), .string ((curOf s).number), .int .i64 ((curOf s).places), .int .i64 ((curOf s).cash)] ∧ Chg 0 0 w w' := by
 refine sx_enter Tryd.func34 rfl Tryd.ntmps34 (nbl rfl) ?_
 refine sx_seq fun K1 k1 => sx_region ?_
 refine sx_alloc [.string (⟨#[]⟩), .string (⟨#[]⟩), .int .i64 0, .int .i64 0] rfl Tryd.zeroValue56 rfl (fun b2 w3 eb2 sb2 fb2 cb2 => ?_)
 have zw3 := cb2.size
 refine wl_nil (q_n (k1 _ _ ?_))
 refine sx_seq fun K4 k4 => ?_
 refine sx_seq fun K5 k5 => sx_region ?_
 refine sx_call rfl rfl Tryd.call41 (c_l08Table) (fun v6 w6 p6 => ?_)
 obtain ⟨sl6, rfl, osl_6, c6⟩ := p6
 have zw6 := c6.size
 refine sp rfl (px_len rfl Tryd.underlying66 osl_6.sv) ?_
 refine mv rfl rfl (wl_nil (q_n (k5 _ _ ?_)))
 refine sx_block ?_
 refine sx_loop (fun mm aa w' => ∃ (k : Nat), Agr 18 [(0, .string s), (2, .pointer (some ⟨b2, 0, none⟩)), (5, v6), (6, .int .i64 20), (7, .int .i64 ↑k)] aa ∧ Chg 0 0 w6 w' ∧ (mm = 20 - k) ∧ (k ≤ 20) ∧ (∀ i, i < k → ¬ (tabS.getD i cr0).code = s)) (20) (fun a ha => ⟨0, ha.sub (Sub.c 0 rfl (.c 2 rfl (.c 5 rfl (.c 6 rfl (.c 7 (look_int (t := 7) rfl (by first | omega | simp)) .nil))))), Chg.refl _ _ _, rfl, by omega, fun i h => by omega⟩) ?_
 rintro mm aa wl7 ⟨k, hAwl7, cwl7, hm, hk, hn⟩
 refine (show cw Tryd.prog 18 _ _ _ wl7 from ?_) aa hAwl7
 clear hAwl7
 have zwl7 := cwl7.size
 refine sx_seq fun K8 k8 => sx_region ?_
 refine sp rfl (px_lt rfl rfl) ?_
 refine wl_nil (q_n (k8 _ _ ?_))
 refine sx_seq fun K9 k9 => ?_
 refine sx_condP rfl (fun h24 => ?_) (fun h24 => ?_)
 ·
  refine sx_skip ?_
  refine q_n (k9 _ _ ?_)
  refine sx_seq fun K10 k10 => ?_
  refine sx_block ?_
  refine sx_seq fun K11 k11 => sx_region ?_
  have f12 := osl_6.ext cwl7
  refine sp rfl (px_indexK (j := k) rfl rfl (by omega) Tryd.underlying66 Tryd.sizeOf56 f12.sv (by omega)) ?_
  refine sp rfl (px_load rfl (f12.sv.loadA (cr_look (l := tabS) (k := k) (by rw [show tabS.length = 20 from rfl]; omega)) Tryd.isAgg56 Tryd.sizeOf56)) ?_
  refine sx_alloc [.string (⟨#[]⟩), .string (⟨#[]⟩), .int .i64 0, .int .i64 0] rfl Tryd.zeroValue56 rfl (fun b13 w14 eb13 sb13 fb13 cb13 => ?_)
  have zw14 := cb13.size
  refine sx_store (vs := [.string ((tabS.getD k cr0).code), .string ((tabS.getD k cr0).number), .int .i64 ((tabS.getD k cr0).places), .int .i64 ((tabS.getD k cr0).cash)]) rfl rfl fb13 rfl Tryd.sizeOf56 (nbl rfl) (one_cons rfl (o3 rfl rfl rfl)) (fun w15 sw15 fw15 cw15 => ?_)
  have zw15 := cw15.size
  have gw15 : Blk w15 b13 [.string ((tabS.getD k cr0).code), .string ((tabS.getD k cr0).number), .int .i64 ((tabS.getD k cr0).places), .int .i64 ((tabS.getD k cr0).cash)] 56 := fw15
  refine wl_nil (q_n (k11 _ _ ?_))
  refine sx_seq fun K16 k16 => sx_region ?_
  refine sp rfl (px_field rfl xfld56x0) ?_
  refine sp rfl (px_load rfl (gw15.load1 rfl Tryd.isAgg9)) ?_
  refine mv rfl rfl (sp rfl (px_eqS rfl rfl) ?_)
  refine wl_nil (q_n (k16 _ _ ?_))
  refine sx_condP rfl (fun h25 => ?_) (fun h25 => ?_)
  ·
   refine sx_seq fun K17 k17 => sx_region ?_
   refine sp rfl (px_load rfl (gw15.loadA (vs := [.string ((tabS.getD k cr0).code), .string ((tabS.getD k cr0).number), .int .i64 ((tabS.getD k cr0).places), .int .i64 ((tabS.getD k cr0).cash)]) (look_lit rfl) Tryd.isAgg56 Tryd.sizeOf56)) ?_
   have f20 := (fb2.ext c6).ext cwl7
   have f21 := f20.ext cb13
   have f22 := f21.chg cw15 (by omega)
   refine sx_store (vs := [.string ((tabS.getD k cr0).code), .string ((tabS.getD k cr0).number), .int .i64 ((tabS.getD k cr0).places), .int .i64 ((tabS.getD k cr0).cash)]) rfl rfl f22 rfl Tryd.sizeOf56 (nbl rfl) (one_cons rfl (o3 rfl rfl rfl)) (fun w18 sw18 fw18 cw18 => ?_)
   have zw18 := cw18.size
   have gw18 : Blk w18 b2 [.string ((tabS.getD k cr0).code), .string ((tabS.getD k cr0).number), .int .i64 ((tabS.getD k cr0).places), .int .i64 ((tabS.getD k cr0).cash)] 56 := fw18
   refine wl_nil (q_n (k17 _ _ ?_))
   refine sx_retc ?_
   refine q_br (q_r (q_r (q_br (q_r (sx_ret1 Tryd.results34 ⟨_, rfl, gw18.loadA (vs := [.string ((tabS.getD k cr0).code), .string ((tabS.getD k cr0).number), .int .i64 ((tabS.getD k cr0).places), .int .i64 ((tabS.getD k cr0).cash)]) (look_lit rfl) Tryd.isAgg56 Tryd.sizeOf56⟩ ?_)))))
   have e := curOf_someS (by rw [show tabS.length = 20 from rfl]; omega) hn h25
   rw [e]
   have q23 := Chg.step (l := 0) (h := 0) (Chg.zero (l := 0) (h := 0) (((cb2.t c6).t cwl7).t cb13)) cw15 (by omega)
   have q24 := Chg.step (l := 0) (h := 0) q23 cw18 (by omega)
   exact ⟨rfl, q24⟩
  refine sx_skip ?_
  refine q_bn (q_n (k10 _ _ ?_))
  refine sx_region ?_
  refine sp rfl (px_add rfl rfl (by omega)) ?_
  refine mv rfl rfl (wl_nil ?_)
  have q25 := Chg.step (l := 0) (h := 0) (Chg.zero (l := 0) (h := 0) (cwl7.t cb13)) cw15 (by omega)
  exact fun a ha => ⟨_, by omega, (k + 1), ha.sub (Sub.c 0 rfl (.c 2 rfl (.c 5 rfl (.c 6 rfl (.c 7 (look_int (t := 7) rfl (by first | omega | simp)) .nil))))), q25, rfl, by omega, upto_succ hn h25⟩
 refine sx_exit ?_
 refine q_e (q_e (q_bx (q_n (k4 _ _ ?_))))
 refine sx_seq fun K26 k26 => sx_region ?_
 refine sp rfl (px_build rfl (xbld56x  _)) ?_
 have f29 := (fb2.ext c6).ext cwl7
 refine sx_store (vs := [.string (⟨#[]⟩), .string (⟨#[]⟩), .int .i64 0, .int .i64 0]) rfl rfl f29 rfl Tryd.sizeOf56 (nbl rfl) (one_cons rfl (o3 rfl rfl rfl)) (fun w27 sw27 fw27 cw27 => ?_)
 have zw27 := cw27.size
 have gw27 : Blk w27 b2 [.string (⟨#[]⟩), .string (⟨#[]⟩), .int .i64 0, .int .i64 0] 56 := fw27
 refine wl_nil (q_n (k26 _ _ ?_))
 refine sx_retc ?_
 refine sx_ret1 Tryd.results34 ⟨_, rfl, gw27.loadA (vs := [.string (⟨#[]⟩), .string (⟨#[]⟩), .int .i64 0, .int .i64 0]) (look_lit rfl) Tryd.isAgg56 Tryd.sizeOf56⟩ ?_
 have e := curOf_noneS (s := s) (fun i hi => hn i (by rw [show tabS.length = 20 from rfl] at hi; omega))
 rw [e]
 have q30 := Chg.step (l := 0) (h := 0) (Chg.zero (l := 0) (h := 0) ((cb2.t c6).t cwl7)) cw27 (by omega)
 exact ⟨rfl, q30⟩

theorem c_sCurKnown {w : World} {s : ByteArray} :
  Ret Tryd.prog 26 [.string s] w fun v w' => v = .bool (decide (Known s)) ∧ Chg 0 0 w w' := by
 refine sx_enter Tryd.func26 rfl Tryd.ntmps26 (nbl rfl) ?_
 refine sx_seq fun K1 k1 => sx_region ?_
 refine av rfl rfl (wl_nil (q_n (k1 _ _ ?_)))
 refine sx_seq fun K2 k2 => sx_region ?_
 refine mv rfl rfl (sx_call rfl rfl Tryd.call34 (c_l08Find) (fun v3 w3 p3 => ?_))
 obtain ⟨rfl, c3⟩ := p3
 have zw3 := c3.size
 refine sp rfl (px_fieldv rfl (xfv56x0 _)) ?_
 refine sp rfl (px_neS rfl rfl) ?_
 refine av rfl rfl (wl_nil (q_n (k2 _ _ ?_)))
 refine sx_retc ?_
 refine sx_ret1 Tryd.results26 rfl ?_
 exact ⟨bIff (known_iff s).symm, c3⟩

theorem c_l01In {w : World} {n : Int} {lo : Int} {hi : Int} :
  Ret Tryd.prog 42 [.int .i64 n, .int .i64 lo, .int .i64 hi] w fun v w' => v = .bool (decide (lo ≤ n ∧ n ≤ hi)) ∧ Chg 0 0 w w' := by
 refine sx_enter Tryd.func42 rfl Tryd.ntmps42 (nbl rfl) ?_
 refine sx_seq fun K1 k1 => sx_region ?_
 refine av rfl rfl (wl_nil (q_n (k1 _ _ ?_)))
 refine sx_seq fun K2 k2 => sx_region ?_
 refine mv rfl rfl (mv rfl rfl (sp rfl (px_ge rfl rfl) ?_))
 refine mv rfl rfl ?_
 refine sx_tmpP (t := 10) rfl (fun h5 => ?_) (fun h5 => ?_)
 ·
  refine sx_guardT rfl rfl rfl ?_
  refine mv rfl rfl ?_
  refine sx_guardT rfl rfl rfl ?_
  refine mv rfl rfl ?_
  refine sx_guardT rfl rfl rfl ?_
  refine sp rfl (px_le rfl rfl) ?_
  refine sp rfl (px_pick rfl rfl) ?_
  refine av rfl rfl (wl_nil (q_n (k2 _ _ ?_)))
  refine sx_retc ?_
  refine sx_ret1 Tryd.results42 rfl ?_
  exact ⟨(by first | exact bIff (by omega) | exact bFalse (by omega) | exact bTrue (by omega)), (Chg.refl 0 0 _)⟩
 refine sx_guardF rfl rfl rfl rfl rfl rfl ?_
 refine sx_guardF rfl rfl rfl rfl rfl rfl ?_
 refine sx_guardF rfl rfl rfl rfl rfl rfl ?_
 refine sp rfl (px_pick rfl rfl) ?_
 refine av rfl rfl (wl_nil (q_n (k2 _ _ ?_)))
 refine sx_retc ?_
 refine sx_ret1 Tryd.results42 rfl ?_
 exact ⟨(by first | exact bIff (by omega) | exact bFalse (by omega) | exact bTrue (by omega)), (Chg.refl 0 0 _)⟩

theorem c_sNatOk {w : World} {va : Value} {lva uva : Nat} {zs : List Int} (hva : Sl w lva uva va (zs)) (h63 : zs.length ≤ 4611686018427387904) :
  Ret Tryd.prog 35 [va] w fun v w' => v = .bool (decide (NOk zs)) ∧ Chg 0 0 w w' := by
 have hva0 := hva.fit
 refine sx_enter Tryd.func35 rfl Tryd.ntmps35 (nbl rfl) ?_
 refine sx_seq fun K1 k1 => sx_region ?_
 refine av rfl rfl (wl_nil (q_n (k1 _ _ ?_)))
 refine sx_seq fun K2 k2 => ?_
 refine sx_seq fun K3 k3 => sx_region ?_
 refine mv rfl rfl (sp rfl (px_len rfl Tryd.underlying22 hva0) ?_)
 refine mv rfl rfl (wl_nil (q_n (k3 _ _ ?_)))
 refine sx_block ?_
 refine sx_loop (fun mm aa w' => ∃ (k : Nat), Agr 32 [(0, va), (5, va), (6, .int .i64 ↑zs.length), (7, .int .i64 ↑k)] aa ∧ Chg 0 0 w w' ∧ (mm = zs.length - k) ∧ (k ≤ zs.length) ∧ (∀ i, i < k → 0 ≤ zs.getD i 0 ∧ zs.getD i 0 < 1000000000)) (_) (fun a ha => ⟨0, ha.sub (Sub.c 0 rfl (.c 5 rfl (.c 6 (look_int (t := 6) rfl (by first | omega | simp)) (.c 7 (look_int (t := 7) rfl (by first | omega | simp)) .nil)))), Chg.refl _ _ _, rfl, by omega, fun i h => by omega⟩) ?_
 rintro mm aa wl4 ⟨k, hAwl4, cwl4, hm, hk, hall⟩
 refine (show cw Tryd.prog 32 _ _ _ wl4 from ?_) aa hAwl4
 clear hAwl4
 have zwl4 := cwl4.size
 refine sx_seq fun K5 k5 => sx_region ?_
 refine sp rfl (px_lt rfl rfl) ?_
 refine wl_nil (q_n (k5 _ _ ?_))
 refine sx_seq fun K6 k6 => ?_
 refine sx_condP rfl (fun h7 => ?_) (fun h7 => ?_)
 ·
  refine sx_skip ?_
  refine q_n (k6 _ _ ?_)
  refine sx_seq fun K7 k7 => ?_
  refine sx_block ?_
  refine sx_seq fun K8 k8 => sx_region ?_
  have f9 := hva0.ext cwl4
  refine sp rfl (px_index1 (j := k) rfl rfl (by omega) Tryd.underlying22 Tryd.sizeOf3 f9 (by omega)) ?_
  refine sp rfl (px_load rfl (f9.load1 (at_int (by omega)) Tryd.isAgg3)) ?_
  refine av rfl rfl (wl_nil (q_n (k8 _ _ ?_)))
  refine sx_seq fun K10 k10 => sx_region ?_
  refine mv rfl rfl (sx_call rfl rfl Tryd.call42 (c_l01In) (fun v11 w11 p11 => ?_))
  obtain ⟨rfl, c11⟩ := p11
  have zw11 := c11.size
  refine sp rfl (px_notP rfl) ?_
  refine wl_nil (q_n (k10 _ _ ?_))
  refine sx_condP rfl (fun h8 => ?_) (fun h8 => ?_)
  ·
   refine sx_seq fun K12 k12 => sx_region ?_
   refine av rfl rfl (wl_nil (q_n (k12 _ _ ?_)))
   refine sx_retc ?_
   refine q_br (q_r (q_r (q_br (q_r (sx_ret1 Tryd.results35 rfl ?_)))))
   exact ⟨bFalse (fun h => by have h1 := h.1.getD k; omega), (cwl4.t c11)⟩
  refine sx_skip ?_
  refine q_bn (q_n (k7 _ _ ?_))
  refine sx_region ?_
  refine sp rfl (px_add rfl rfl (by omega)) ?_
  refine mv rfl rfl (wl_nil ?_)
  exact fun a ha => ⟨_, by omega, (k + 1), ha.sub (Sub.c 0 rfl (.c 5 rfl (.c 6 rfl (.c 7 (look_int (t := 7) rfl (by first | omega | simp)) .nil)))), (cwl4.t c11), rfl, by omega, lm_succ hall (by omega)⟩
 refine sx_exit ?_
 refine q_e (q_e (q_bx (q_n (k2 _ _ ?_))))
 refine sx_seq fun K13 k13 => ?_
 have ek : k = zs.length := by omega
 have hz : Lm zs := lm_mem (by rw [← ek]; exact hall)
 refine sx_region ?_
 refine mv rfl rfl ?_
 have f14 := hva0.ext cwl4
 refine sp rfl (px_len rfl Tryd.underlying22 f14) ?_
 refine sp rfl (px_le rfl rfl) ?_
 refine mv rfl rfl ?_
 refine sx_tmpP (t := 18) rfl (fun h12 => ?_) (fun h12 => ?_)
 ·
  refine sx_guardT rfl rfl rfl ?_
  refine mv rfl rfl ?_
  refine sx_guardT rfl rfl rfl ?_
  refine sp rfl (px_len rfl Tryd.underlying22 f14) ?_
  refine sx_guardT rfl rfl rfl ?_
  refine sp rfl (px_eq rfl rfl) ?_
  refine sx_guardT rfl rfl rfl ?_
  refine mv rfl rfl ?_
  refine sx_tmpP (t := 22) rfl (fun h12x1 => ?_) (fun h12x1 => ?_)
  ·
   refine sx_guardF rfl rfl rfl rfl rfl rfl ?_
   refine sx_guardF rfl rfl rfl rfl rfl rfl ?_
   refine sx_guardF rfl rfl rfl rfl rfl rfl ?_
   refine sx_guardF rfl rfl rfl rfl rfl rfl ?_
   refine sx_guardF rfl rfl rfl rfl rfl rfl ?_
   refine sx_guardF rfl rfl rfl rfl rfl rfl ?_
   refine sx_guardF rfl rfl rfl rfl rfl rfl ?_
   refine sx_guardT rfl rfl rfl ?_
   refine sp rfl (px_pick rfl rfl) ?_
   refine sp rfl (px_pick rfl rfl) ?_
   refine av rfl rfl (wl_nil (q_n (k13 _ _ ?_)))
   refine sx_sub (Sub.c 2 rfl .nil) ?_
   refine sx_retc ?_
   refine sx_ret1 Tryd.results35 rfl ?_
   exact ⟨(by first | exact bFalse (fun h => by have h1 := h.2.1; omega) | exact bTrue (NOk_mk hz (by omega) (.inl (by omega))) | exact bIff (NOk_iff hz (by omega) (by omega))), cwl4⟩
  refine sx_guardT rfl rfl rfl ?_
  refine mv rfl rfl ?_
  refine sx_guardT rfl rfl rfl ?_
  refine mv rfl rfl ?_
  refine sx_guardT rfl rfl rfl ?_
  refine sp rfl (px_len rfl Tryd.underlying22 f14) ?_
  refine sx_guardT rfl rfl rfl ?_
  refine sp rfl (px_sub rfl rfl (by omega)) ?_
  refine sx_guardT rfl rfl rfl ?_
  refine sp rfl (px_index1 (j := (zs.length - 1)) rfl rfl (by omega) Tryd.underlying22 Tryd.sizeOf3 f14 (by omega)) ?_
  refine sx_guardT rfl rfl rfl ?_
  refine sp rfl (px_load rfl (f14.load1 (at_int (by omega)) Tryd.isAgg3)) ?_
  refine sx_guardT rfl rfl rfl ?_
  refine sp rfl (px_ne rfl rfl) ?_
  refine sx_guardT rfl rfl rfl ?_
  refine sp rfl (px_pick rfl rfl) ?_
  refine sp rfl (px_pick rfl rfl) ?_
  refine av rfl rfl (wl_nil (q_n (k13 _ _ ?_)))
  refine sx_sub (Sub.c 2 rfl .nil) ?_
  refine sx_retc ?_
  refine sx_ret1 Tryd.results35 rfl ?_
  exact ⟨(by first | exact bFalse (fun h => by have h1 := h.2.1; omega) | exact bTrue (NOk_mk hz (by omega) (.inl (by omega))) | exact bIff (NOk_iff hz (by omega) (by omega))), cwl4⟩
 refine sx_guardF rfl rfl rfl rfl rfl rfl ?_
 refine sx_guardF rfl rfl rfl rfl rfl rfl ?_
 refine sx_guardF rfl rfl rfl rfl rfl rfl ?_
 refine sx_guardF rfl rfl rfl rfl rfl rfl ?_
 refine sx_guardFU rfl rfl rfl rfl rfl ?_
 refine sx_guardFU rfl rfl rfl rfl rfl ?_
 refine sx_guardFU rfl rfl rfl rfl rfl ?_
 refine sx_guardFU rfl rfl rfl rfl rfl ?_
 refine sx_guardFU rfl rfl rfl rfl rfl ?_
 refine sx_guardFU rfl rfl rfl rfl rfl ?_
 refine sx_guardFU rfl rfl rfl rfl rfl ?_
 refine sx_guardF rfl rfl rfl rfl rfl rfl ?_
 refine sp rfl (px_pick rfl rfl) ?_
 refine av rfl rfl (wl_nil (q_n (k13 _ _ ?_)))
 refine sx_sub (Sub.c 2 rfl .nil) ?_
 refine sx_retc ?_
 refine sx_ret1 Tryd.results35 rfl ?_
 exact ⟨(by first | exact bFalse (fun h => by have h1 := h.2.1; omega) | exact bTrue (NOk_mk hz (by omega) (.inl (by omega))) | exact bIff (NOk_iff hz (by omega) (by omega))), cwl4⟩

theorem c_sIntOk {w : World} {n1 : Bool} {v1 : Value} {lv1 uv1 : Nat} {z1 : List Int} (hv1 : Sl w lv1 uv1 v1 (z1)) (h63 : z1.length ≤ 4611686018427387904) :
  Ret Tryd.prog 27 [.agg #[.bool n1, v1]] w fun v w' => v = .bool (decide (IOk n1 z1)) ∧ Chg 0 0 w w' := by
 have hv10 := hv1.fit
 refine sx_enter Tryd.func27 rfl Tryd.ntmps27 (nbl rfl) ?_
 refine sx_seq fun K1 k1 => sx_region ?_
 refine sx_box [.bool n1, v1] rfl rfl rfl (fun b2 w3 eb2 sb2 fb2 cb2 => ?_)
 have zw3 := cb2.size
 refine av rfl rfl (wl_nil (q_n (k1 _ _ ?_)))
 refine sx_seq fun K4 k4 => sx_region ?_
 refine sp rfl (px_field rfl xfld28x1) ?_
 refine sp rfl (px_load rfl (fb2.load1 rfl Tryd.isAgg22)) ?_
 have f5 := hv10.ext cb2
 refine sx_call rfl rfl Tryd.call35 (c_sNatOk f5 (by omega)) (fun v6 w6 p6 => ?_)
 obtain ⟨rfl, c6⟩ := p6
 have zw6 := c6.size
 refine mv rfl rfl ?_
 refine sx_tmpP (t := 6) rfl (fun h6 => ?_) (fun h6 => ?_)
 ·
  refine sx_guardT rfl rfl rfl ?_
  refine sp rfl (px_field rfl xfld28x0) ?_
  refine sx_guardT rfl rfl rfl ?_
  have f7 := fb2.ext c6
  refine sp rfl (px_load rfl (f7.load1 rfl Tryd.isAgg4)) ?_
  refine sx_guardT rfl rfl rfl ?_
  refine sp rfl (px_not rfl) ?_
  refine sx_guardT rfl rfl rfl ?_
  refine mv rfl rfl ?_
  refine sx_tmpB (t := 10) rfl (fun h6x1 => ?_) (fun h6x1 => ?_)
  ·
   refine sx_guardF rfl rfl rfl rfl rfl rfl ?_
   refine sx_guardF rfl rfl rfl rfl rfl rfl ?_
   refine sx_guardF rfl rfl rfl rfl rfl rfl ?_
   refine sx_guardF rfl rfl rfl rfl rfl rfl ?_
   refine sx_guardT rfl rfl rfl ?_
   refine sp rfl (px_pick rfl rfl) ?_
   refine sp rfl (px_pick rfl rfl) ?_
   refine av rfl rfl (wl_nil (q_n (k4 _ _ ?_)))
   refine sx_sub (Sub.c 2 rfl .nil) ?_
   refine sx_retc ?_
   refine sx_ret1 Tryd.results27 rfl ?_
   exact ⟨(by first | exact bTrue (by grind [IOk]) | exact bFalse (by grind [IOk]) | exact bIff (by grind [IOk])), (cb2.t c6)⟩
  refine sx_guardT rfl rfl rfl ?_
  refine sp rfl (px_field rfl xfld28x1) ?_
  refine sx_guardT rfl rfl rfl ?_
  refine sp rfl (px_load rfl (f7.load1 rfl Tryd.isAgg22)) ?_
  refine sx_guardT rfl rfl rfl ?_
  have f8 := f5.ext c6
  refine sp rfl (px_len rfl Tryd.underlying22 f8) ?_
  refine sx_guardT rfl rfl rfl ?_
  refine sp rfl (px_gt rfl rfl) ?_
  refine sx_guardT rfl rfl rfl ?_
  refine sp rfl (px_pick rfl rfl) ?_
  refine sp rfl (px_pick rfl rfl) ?_
  refine av rfl rfl (wl_nil (q_n (k4 _ _ ?_)))
  refine sx_sub (Sub.c 2 rfl .nil) ?_
  refine sx_retc ?_
  refine sx_ret1 Tryd.results27 rfl ?_
  exact ⟨(by first | exact bTrue (by grind [IOk]) | exact bFalse (by grind [IOk]) | exact bIff (by grind [IOk])), (cb2.t c6)⟩
 refine sx_guardF rfl rfl rfl rfl rfl rfl ?_
 refine sx_guardF rfl rfl rfl rfl rfl rfl ?_
 refine sx_guardF rfl rfl rfl rfl rfl rfl ?_
 refine sx_guardF rfl rfl rfl rfl rfl rfl ?_
 refine sx_guardFU rfl rfl rfl rfl rfl ?_
 refine sx_guardFU rfl rfl rfl rfl rfl ?_
 refine sx_guardFU rfl rfl rfl rfl rfl ?_
 refine sx_guardFU rfl rfl rfl rfl rfl ?_
 refine sx_guardF rfl rfl rfl rfl rfl rfl ?_
 refine sp rfl (px_pick rfl rfl) ?_
 refine av rfl rfl (wl_nil (q_n (k4 _ _ ?_)))
 refine sx_sub (Sub.c 2 rfl .nil) ?_
 refine sx_retc ?_
 refine sx_ret1 Tryd.results27 rfl ?_
 exact ⟨(by first | exact bTrue (by grind [IOk]) | exact bFalse (by grind [IOk]) | exact bIff (by grind [IOk])), (cb2.t c6)⟩

theorem c_sMoneyOk {w : World} {c1 : ByteArray} {n1 : Bool} {v1 : Value} {lv1 uv1 : Nat} {z1 : List Int} (hv1 : Sl w lv1 uv1 v1 (z1)) (h63 : z1.length ≤ 4611686018427387904) :
  Ret Tryd.prog 14 [.agg #[.string c1, .bool n1, v1]] w fun v w' => v = .bool (decide (MOk c1 n1 z1)) ∧ Chg 0 0 w w' := by
 have hv10 := hv1.fit
 refine sx_enter Tryd.func14 rfl Tryd.ntmps14 (nbl rfl) ?_
 refine sx_seq fun K1 k1 => sx_region ?_
 refine sx_box [.string c1, .bool n1, v1] rfl rfl rfl (fun b2 w3 eb2 sb2 fb2 cb2 => ?_)
 have zw3 := cb2.size
 refine av rfl rfl (wl_nil (q_n (k1 _ _ ?_)))
 refine sx_seq fun K4 k4 => sx_region ?_
 refine sp rfl (px_field rfl xfld33x0) ?_
 refine sp rfl (px_load rfl (fb2.load1 rfl Tryd.isAgg9)) ?_
 refine sx_call rfl rfl Tryd.call26 (c_sCurKnown) (fun v5 w5 p5 => ?_)
 obtain ⟨rfl, c5⟩ := p5
 have zw5 := c5.size
 refine mv rfl rfl ?_
 refine sx_tmpP (t := 6) rfl (fun h7 => ?_) (fun h7 => ?_)
 ·
  refine sx_guardT rfl rfl rfl ?_
  refine sp rfl (px_field rfl xfld33x1) ?_
  refine sx_guardT rfl rfl rfl ?_
  have f6 := fb2.ext c5
  refine sp rfl (px_load rfl (f6.loadA (vs := [.bool n1, v1]) (look_lit rfl) Tryd.isAgg28 Tryd.sizeOf28)) ?_
  refine sx_guardT rfl rfl rfl ?_
  have f7 := hv10.ext cb2
  have f8 := f7.ext c5
  refine sx_call rfl rfl Tryd.call27 (c_sIntOk f8 (by omega)) (fun v9 w9 p9 => ?_)
  obtain ⟨rfl, c9⟩ := p9
  have zw9 := c9.size
  refine sp rfl (px_pick rfl rfl) ?_
  refine mv rfl rfl ?_
  refine sx_tmpP (t := 11) rfl (fun h7x1 => ?_) (fun h7x1 => ?_)
  ·
   refine sx_guardT rfl rfl rfl ?_
   refine sp rfl (px_field rfl xfld33x1) ?_
   refine sx_guardT rfl rfl rfl ?_
   refine sp rfl (px_field rfl xfld28x1) ?_
   refine sx_guardT rfl rfl rfl ?_
   have f10 := f6.ext c9
   refine sp rfl (px_load rfl (f10.load1 rfl Tryd.isAgg22)) ?_
   refine sx_guardT rfl rfl rfl ?_
   have f11 := f8.ext c9
   refine sp rfl (px_len rfl Tryd.underlying22 f11) ?_
   refine sx_guardT rfl rfl rfl ?_
   refine sp rfl (px_le rfl rfl) ?_
   refine sp rfl (px_pick rfl rfl) ?_
   refine av rfl rfl (wl_nil (q_n (k4 _ _ ?_)))
   refine sx_sub (Sub.c 2 rfl .nil) ?_
   refine sx_retc ?_
   refine sx_ret1 Tryd.results14 rfl ?_
   exact ⟨(by first | exact bTrue (by grind [MOk]) | exact bFalse (by grind [MOk]) | exact bIff (by grind [MOk])), ((cb2.t c5).t c9)⟩
  refine sx_guardF rfl rfl rfl rfl rfl rfl ?_
  refine sx_guardF rfl rfl rfl rfl rfl rfl ?_
  refine sx_guardF rfl rfl rfl rfl rfl rfl ?_
  refine sx_guardF rfl rfl rfl rfl rfl rfl ?_
  refine sx_guardF rfl rfl rfl rfl rfl rfl ?_
  refine sp rfl (px_pick rfl rfl) ?_
  refine av rfl rfl (wl_nil (q_n (k4 _ _ ?_)))
  refine sx_sub (Sub.c 2 rfl .nil) ?_
  refine sx_retc ?_
  refine sx_ret1 Tryd.results14 rfl ?_
  exact ⟨(by first | exact bTrue (by grind [MOk]) | exact bFalse (by grind [MOk]) | exact bIff (by grind [MOk])), ((cb2.t c5).t c9)⟩
 refine sx_guardF rfl rfl rfl rfl rfl rfl ?_
 refine sx_guardF rfl rfl rfl rfl rfl rfl ?_
 refine sx_guardF rfl rfl rfl rfl rfl rfl ?_
 refine sp rfl (px_pick rfl rfl) ?_
 refine mv rfl rfl ?_
 refine sx_guardF rfl rfl rfl rfl rfl rfl ?_
 refine sx_guardF rfl rfl rfl rfl rfl rfl ?_
 refine sx_guardF rfl rfl rfl rfl rfl rfl ?_
 refine sx_guardF rfl rfl rfl rfl rfl rfl ?_
 refine sx_guardF rfl rfl rfl rfl rfl rfl ?_
 refine sp rfl (px_pick rfl rfl) ?_
 refine av rfl rfl (wl_nil (q_n (k4 _ _ ?_)))
 refine sx_sub (Sub.c 2 rfl .nil) ?_
 refine sx_retc ?_
 refine sx_ret1 Tryd.results14 rfl ?_
 exact ⟨(by first | exact bTrue (by grind [MOk]) | exact bFalse (by grind [MOk]) | exact bIff (by grind [MOk])), (cb2.t c5)⟩

theorem c_l02Trim {w : World} {va : Value} {lva uva : Nat} {zs : List Int} (hva : OwnI w lva uva va intT (zs)) (hz : Lm zs) (h63 : zs.length ≤ 1000000) :
  Ret Tryd.prog 43 [va] w fun v w' => ∃ s, v = s ∧ OwnI w' (lva) (uva) s intT (dg (vl zs)) ∧ Chg 0 0 w w' := by
 refine sx_enter Tryd.func43 rfl Tryd.ntmps43 (nbl rfl) ?_
 refine sx_seq fun K1 k1 => sx_region ?_
 refine av rfl rfl (wl_nil (q_n (k1 _ _ ?_)))
 refine sx_seq fun K2 k2 => sx_region ?_
 refine mv rfl rfl (sp rfl (px_len rfl Tryd.underlying22 hva.sv) ?_)
 refine av rfl rfl (wl_nil (q_n (k2 _ _ ?_)))
 refine sx_seq fun K3 k3 => ?_
 refine sx_block ?_
 refine sx_loop (fun mm aa w' => ∃ (k : Nat), Agr 21 [(0, va), (3, .int .i64 ↑k)] aa ∧ Chg 0 0 w w' ∧ (mm = k) ∧ (k ≤ zs.length) ∧ (vl (zs.take k) = vl zs)) (_) (fun a ha => ⟨zs.length, ha.sub (Sub.c 0 rfl (.c 3 (look_int (t := 3) rfl (by first | omega | simp)) .nil)), Chg.refl _ _ _, rfl, by omega, vl_take_all zs⟩) ?_
 rintro mm aa wl4 ⟨k, hAwl4, cwl4, hm, hk, hv⟩
 refine (show cw Tryd.prog 21 _ _ _ wl4 from ?_) aa hAwl4
 clear hAwl4
 have zwl4 := cwl4.size
 refine sx_seq fun K5 k5 => ?_
 refine sx_seq fun K6 k6 => sx_region ?_
 refine mv rfl rfl (sp rfl (px_gt rfl rfl) ?_)
 refine mv rfl rfl ?_
 refine sx_tmpP (t := 8) rfl (fun h17 => ?_) (fun h17 => ?_)
 ·
  refine sx_guardT rfl rfl rfl ?_
  refine mv rfl rfl ?_
  refine sx_guardT rfl rfl rfl ?_
  refine mv rfl rfl ?_
  refine sx_guardT rfl rfl rfl ?_
  refine sp rfl (px_sub rfl rfl (by omega)) ?_
  refine sx_guardT rfl rfl rfl ?_
  have f7 := hva.ext cwl4
  refine sp rfl (px_index1 (j := (k - 1)) rfl rfl (by omega) Tryd.underlying22 Tryd.sizeOf3 f7.sv (by omega)) ?_
  refine sx_guardT rfl rfl rfl ?_
  refine sp rfl (px_load rfl (f7.sv.load1 (at_int (by omega)) Tryd.isAgg3)) ?_
  refine sx_guardT rfl rfl rfl ?_
  refine sp rfl (px_eq rfl rfl) ?_
  refine sp rfl (px_pick rfl rfl) ?_
  refine wl_nil (q_n (k6 _ _ ?_))
  refine sx_condP rfl (fun h17x1 => ?_) (fun h17x1 => ?_)
  ·
   refine sx_skip ?_
   refine q_n (k5 _ _ ?_)
   refine sx_block ?_
   refine sx_region ?_
   refine mv rfl rfl (sp rfl (px_sub rfl rfl (by omega)) ?_)
   refine av rfl rfl (wl_nil ?_)
   exact q_bn (fun a ha => ⟨_, by omega, (k - 1), ha.sub (Sub.c 0 rfl (.c 3 (look_int (t := 3) rfl (by first | omega | simp)) .nil)), cwl4, rfl, by omega, trim_step (by omega) hk (by rw [getD_take (by omega)]; exact h17x1) hv⟩)
  refine sx_exit ?_
  refine q_e (q_e (q_bx (q_n (k3 _ _ ?_))))
  refine sx_seq fun K8 k8 => sx_region ?_
  refine mv rfl rfl (mv rfl rfl (sp rfl (px_sliceTo (h := k) rfl rfl (by omega) Tryd.underlying22 Tryd.sizeOf3 f7.sv (by omega)) ?_))
  refine av rfl rfl (wl_nil (q_n (k8 _ _ ?_)))
  refine sx_sub (Sub.c 2 rfl .nil) ?_
  refine sx_retc ?_
  refine sx_ret1 Tryd.results43 rfl ?_
  have hd := trim_done hz hk hv (by first | exact .inl (by omega) | exact .inr (by rw [getD_take (by omega)]; assumption))
  rw [← hd]
  exact ⟨_, rfl, (Own.takeI f7 (h := k) (by omega)), cwl4⟩
 refine sx_guardF rfl rfl rfl rfl rfl rfl ?_
 refine sx_guardF rfl rfl rfl rfl rfl rfl ?_
 refine sx_guardF rfl rfl rfl rfl rfl rfl ?_
 refine sx_guardF rfl rfl rfl rfl rfl rfl ?_
 refine sx_guardF rfl rfl rfl rfl rfl rfl ?_
 refine sx_guardF rfl rfl rfl rfl rfl rfl ?_
 refine sp rfl (px_pick rfl rfl) ?_
 refine wl_nil (q_n (k6 _ _ ?_))
 refine sx_condF rfl ?_
 refine sx_exit ?_
 refine q_e (q_e (q_bx (q_n (k3 _ _ ?_))))
 refine sx_seq fun K9 k9 => sx_region ?_
 refine mv rfl rfl (mv rfl rfl ?_)
 have f10 := hva.ext cwl4
 refine sp rfl (px_sliceTo (h := k) rfl rfl (by omega) Tryd.underlying22 Tryd.sizeOf3 f10.sv (by omega)) ?_
 refine av rfl rfl (wl_nil (q_n (k9 _ _ ?_)))
 refine sx_sub (Sub.c 2 rfl .nil) ?_
 refine sx_retc ?_
 refine sx_ret1 Tryd.results43 rfl ?_
 have hd := trim_done hz hk hv (by first | exact .inl (by omega) | exact .inr (by rw [getD_take (by omega)]; assumption))
 rw [← hd]
 exact ⟨_, rfl, (Own.takeI f10 (h := k) (by omega)), cwl4⟩

theorem c_l02TrimS {w : World} {va : Value} {lva uva : Nat} {zs : List Int} (hva : Sl w lva uva va (zs)) (hz : Lm zs) (h63 : zs.length ≤ 1000000) :
  Ret Tryd.prog 43 [va] w fun v w' => ∃ s, v = s ∧ Sl w' (lva) (uva) s (dg (vl zs)) ∧ Chg 0 0 w w' := by
 refine sx_enter Tryd.func43 rfl Tryd.ntmps43 (nbl rfl) ?_
 refine sx_seq fun K1 k1 => sx_region ?_
 refine av rfl rfl (wl_nil (q_n (k1 _ _ ?_)))
 refine sx_seq fun K2 k2 => sx_region ?_
 refine mv rfl rfl (sp rfl (px_len rfl Tryd.underlying22 hva) ?_)
 refine av rfl rfl (wl_nil (q_n (k2 _ _ ?_)))
 refine sx_seq fun K3 k3 => ?_
 refine sx_block ?_
 refine sx_loop (fun mm aa w' => ∃ (k : Nat), Agr 21 [(0, va), (3, .int .i64 ↑k)] aa ∧ Chg 0 0 w w' ∧ (mm = k) ∧ (k ≤ zs.length) ∧ (vl (zs.take k) = vl zs)) (_) (fun a ha => ⟨zs.length, ha.sub (Sub.c 0 rfl (.c 3 (look_int (t := 3) rfl (by first | omega | simp)) .nil)), Chg.refl _ _ _, rfl, by omega, vl_take_all zs⟩) ?_
 rintro mm aa wl4 ⟨k, hAwl4, cwl4, hm, hk, hv⟩
 refine (show cw Tryd.prog 21 _ _ _ wl4 from ?_) aa hAwl4
 clear hAwl4
 have zwl4 := cwl4.size
 refine sx_seq fun K5 k5 => ?_
 refine sx_seq fun K6 k6 => sx_region ?_
 refine mv rfl rfl (sp rfl (px_gt rfl rfl) ?_)
 refine mv rfl rfl ?_
 refine sx_tmpP (t := 8) rfl (fun h17 => ?_) (fun h17 => ?_)
 ·
  refine sx_guardT rfl rfl rfl ?_
  refine mv rfl rfl ?_
  refine sx_guardT rfl rfl rfl ?_
  refine mv rfl rfl ?_
  refine sx_guardT rfl rfl rfl ?_
  refine sp rfl (px_sub rfl rfl (by omega)) ?_
  refine sx_guardT rfl rfl rfl ?_
  have f7 := hva.ext cwl4
  refine sp rfl (px_index1 (j := (k - 1)) rfl rfl (by omega) Tryd.underlying22 Tryd.sizeOf3 f7 (by omega)) ?_
  refine sx_guardT rfl rfl rfl ?_
  refine sp rfl (px_load rfl (f7.load1 (at_int (by omega)) Tryd.isAgg3)) ?_
  refine sx_guardT rfl rfl rfl ?_
  refine sp rfl (px_eq rfl rfl) ?_
  refine sp rfl (px_pick rfl rfl) ?_
  refine wl_nil (q_n (k6 _ _ ?_))
  refine sx_condP rfl (fun h17x1 => ?_) (fun h17x1 => ?_)
  ·
   refine sx_skip ?_
   refine q_n (k5 _ _ ?_)
   refine sx_block ?_
   refine sx_region ?_
   refine mv rfl rfl (sp rfl (px_sub rfl rfl (by omega)) ?_)
   refine av rfl rfl (wl_nil ?_)
   exact q_bn (fun a ha => ⟨_, by omega, (k - 1), ha.sub (Sub.c 0 rfl (.c 3 (look_int (t := 3) rfl (by first | omega | simp)) .nil)), cwl4, rfl, by omega, trim_step (by omega) hk (by rw [getD_take (by omega)]; exact h17x1) hv⟩)
  refine sx_exit ?_
  refine q_e (q_e (q_bx (q_n (k3 _ _ ?_))))
  refine sx_seq fun K8 k8 => sx_region ?_
  refine mv rfl rfl (mv rfl rfl (sp rfl (px_sliceTo (h := k) rfl rfl (by omega) Tryd.underlying22 Tryd.sizeOf3 f7 (by omega)) ?_))
  refine av rfl rfl (wl_nil (q_n (k8 _ _ ?_)))
  refine sx_sub (Sub.c 2 rfl .nil) ?_
  refine sx_retc ?_
  refine sx_ret1 Tryd.results43 rfl ?_
  have hd := trim_done hz hk hv (by first | exact .inl (by omega) | exact .inr (by rw [getD_take (by omega)]; assumption))
  rw [← hd]
  exact ⟨_, rfl, (Sv.takeI f7 (h := k) (by omega)), cwl4⟩
 refine sx_guardF rfl rfl rfl rfl rfl rfl ?_
 refine sx_guardF rfl rfl rfl rfl rfl rfl ?_
 refine sx_guardF rfl rfl rfl rfl rfl rfl ?_
 refine sx_guardF rfl rfl rfl rfl rfl rfl ?_
 refine sx_guardF rfl rfl rfl rfl rfl rfl ?_
 refine sx_guardF rfl rfl rfl rfl rfl rfl ?_
 refine sp rfl (px_pick rfl rfl) ?_
 refine wl_nil (q_n (k6 _ _ ?_))
 refine sx_condF rfl ?_
 refine sx_exit ?_
 refine q_e (q_e (q_bx (q_n (k3 _ _ ?_))))
 refine sx_seq fun K9 k9 => sx_region ?_
 refine mv rfl rfl (mv rfl rfl ?_)
 have f10 := hva.ext cwl4
 refine sp rfl (px_sliceTo (h := k) rfl rfl (by omega) Tryd.underlying22 Tryd.sizeOf3 f10 (by omega)) ?_
 refine av rfl rfl (wl_nil (q_n (k9 _ _ ?_)))
 refine sx_sub (Sub.c 2 rfl .nil) ?_
 refine sx_retc ?_
 refine sx_ret1 Tryd.results43 rfl ?_
 have hd := trim_done hz hk hv (by first | exact .inl (by omega) | exact .inr (by rw [getD_take (by omega)]; assumption))
 rw [← hd]
 exact ⟨_, rfl, (Sv.takeI f10 (h := k) (by omega)), cwl4⟩

theorem c_l02TrimD {w : World} {va : Value} {lva uva : Nat} {m : Nat} (hva : Sl w lva uva va (dg m)) (h63 : (dg m).length ≤ 1000000) :
  Ret Tryd.prog 43 [va] w fun v w' => ∃ s, v = s ∧ Sl w' (lva) (uva) s (dg m) ∧ Chg 0 0 w w' := by
 simpa only [vl_dg] using c_l02TrimS hva (Lm_dg m) h63

theorem c_l02Cap {w : World} {va : Value} {lva uva : Nat} {m : Nat} (hva : Sl w lva uva va (dg m)) (h63 : (dg m).length ≤ 1000000) :
  Ret Tryd.prog 46 [va] w fun v w' => ∃ s, v = s ∧ Sl w' (lva) (uva) s (dg (capN m)) ∧ Chg 0 0 w w' := by
 refine sx_enter Tryd.func46 rfl Tryd.ntmps46 (nbl rfl) ?_
 refine sx_seq fun K1 k1 => sx_region ?_
 refine av rfl rfl (wl_nil (q_n (k1 _ _ ?_)))
 refine sx_seq fun K2 k2 => sx_region ?_
 refine mv rfl rfl (sx_call rfl rfl Tryd.call43 (c_l02TrimD hva (by omega)) (fun v3 w3 p3 => ?_))
 obtain ⟨s3, rfl, os_3, c3⟩ := p3
 have zw3 := c3.size
 refine av rfl rfl (wl_nil (q_n (k2 _ _ ?_)))
 refine sx_seq fun K4 k4 => ?_
 refine sx_seq fun K5 k5 => sx_region ?_
 refine mv rfl rfl (sp rfl (px_len rfl Tryd.underlying22 os_3) ?_)
 refine sp rfl (px_gt rfl rfl) ?_
 refine wl_nil (q_n (k5 _ _ ?_))
 refine sx_condP rfl (fun h25 => ?_) (fun h25 => ?_)
 ·
  refine sx_seq fun K6 k6 => sx_region ?_
  refine av rfl rfl (wl_nil (q_n (k6 _ _ ?_)))
  refine sx_retc ?_
  refine q_r (sx_ret1 Tryd.results46 rfl ?_)
  rw [capN_no (by omega), dg_zero]
  exact ⟨_, rfl, Sv.nil _ _ _ _, c3⟩
 refine sx_skip ?_
 refine q_n (k4 _ _ ?_)
 refine sx_seq fun K7 k7 => sx_region ?_
 refine mv rfl rfl (av rfl rfl (wl_nil (q_n (k7 _ _ ?_))))
 refine sx_retc ?_
 refine sx_ret1 Tryd.results46 rfl ?_
 rw [capN_ok (by omega)]
 exact ⟨_, rfl, (Sv.mono os_3 (by omega) (by omega)), c3⟩

theorem c_l04Make {w : World} {n : Bool} {va : Value} {lva uva : Nat} {m : Nat} (hva : Sl w lva uva va (dg m)) (h63 : (dg m).length ≤ 1000000) :
  Ret Tryd.prog 37 [.bool n, va] w fun v w' => ∃ s, v = .agg #[.bool (ng (capI n m)), s] ∧ OwnI w' w.heap.size w'.heap.size s intT (dg (capI n m).natAbs) ∧ Chg 0 0 w w' := by
 have hva0 := hva.fit
 have hcap : (dg (capN m)).length ≤ 50 := by unfold capN; split; assumption; rw [dg_zero]; simp
 refine sx_enter Tryd.func37 rfl Tryd.ntmps37 (nbl rfl) ?_
 refine sx_seq fun K1 k1 => sx_region ?_
 refine sx_alloc [.bool false, (.slice none 0 0)] rfl Tryd.zeroValue28 rfl (fun b2 w3 eb2 sb2 fb2 cb2 => ?_)
 have zw3 := cb2.size
 refine wl_nil (q_n (k1 _ _ ?_))
 refine sx_seq fun K4 k4 => sx_region ?_
 refine mv rfl rfl ?_
 have f5 := hva0.ext cb2
 refine sx_call rfl rfl Tryd.call46 (c_l02Cap f5 (by omega)) (fun v6 w6 p6 => ?_)
 obtain ⟨s6, rfl, os_6, c6⟩ := p6
 have zw6 := c6.size
 refine av rfl rfl (wl_nil (q_n (k4 _ _ ?_)))
 refine sx_seq fun K7 k7 => sx_region ?_
 refine mv rfl rfl (mv rfl rfl ?_)
 refine sx_tmpB (t := 9) rfl (fun h10 => ?_) (fun h10 => ?_)
 ·
  refine sx_guardT rfl rfl rfl ?_
  refine mv rfl rfl ?_
  refine sx_guardT rfl rfl rfl ?_
  refine sp rfl (px_len rfl Tryd.underlying22 os_6) ?_
  refine sx_guardT rfl rfl rfl ?_
  refine sp rfl (px_gt rfl rfl) ?_
  refine sp rfl (px_pick rfl rfl) ?_
  refine sx_lit0 rfl xelt22 (fun s8 ws8 ss8 fs8 cs8 => ?_)
  have zws8 := cs8.size
  refine mv rfl rfl ?_
  have f10 := os_6.ext cs8
  refine sx_append rfl xelt22 rfl rfl fs8 f10 one_int (by omega) (by first | omega | (simp only [List.length_nil]; omega)) (by unfold maxLen; first | omega | (simp only [List.length_nil]; omega)) (fun a9 w9 fw9 cw9 => ?_)
  have nw9 := Own.norm (f := (Value.int .i64)) (zs := dg (capN m)) fw9
  have zw9 := cw9.size
  refine sp rfl (px_build rfl (xbld28x0x1 rfl nw9.one _)) ?_
  have f13 := (fb2.ext c6).ext cs8
  have f14 := f13.chg cw9 (by omega)
  refine sx_store (vs := [.bool (decide ((0 : Int) < ↑((dg (capN m)).length))), a9]) rfl rfl f14 rfl Tryd.sizeOf28 (nbl rfl) (one_cons rfl (one_cons nw9.one one_nil)) (fun w11 sw11 fw11 cw11 => ?_)
  have zw11 := cw11.size
  have gw11 : Blk w11 b2 [.bool (decide ((0 : Int) < ↑((dg (capN m)).length))), a9] 28 := fw11
  refine wl_nil (q_n (k7 _ _ ?_))
  refine sx_sub (Sub.c 4 rfl .nil) ?_
  refine sx_retc ?_
  refine sx_ret1 Tryd.results37 ⟨_, rfl, gw11.loadA (vs := [.bool (decide ((0 : Int) < ↑((dg (capN m)).length))), a9]) (look_lit rfl) Tryd.isAgg28 Tryd.sizeOf28⟩ ?_
  have hh := cap_sg n m
  rw [← hh.1, ← hh.2]
  have q15 := Chg.step (l := 0) (h := 0) (Chg.zero (l := 0) (h := 0) ((cb2.t c6).t cs8)) cw9 (by omega)
  have q16 := Chg.step (l := 0) (h := 0) q15 cw11 (by omega)
  have f17 := nw9.chg cw11 (by omega)
  exact ⟨_, by simp [nz, h10], (Own.mono f17 (by omega) (by omega)), q16⟩
 refine sx_guardF rfl rfl rfl rfl rfl rfl ?_
 refine sx_guardF rfl rfl rfl rfl rfl rfl ?_
 refine sx_guardF rfl rfl rfl rfl rfl rfl ?_
 refine sp rfl (px_pick rfl rfl) ?_
 refine sx_lit0 rfl xelt22 (fun s18 ws18 ss18 fs18 cs18 => ?_)
 have zws18 := cs18.size
 refine mv rfl rfl ?_
 have f20 := os_6.ext cs18
 refine sx_append rfl xelt22 rfl rfl fs18 f20 one_int (by omega) (by first | omega | (simp only [List.length_nil]; omega)) (by unfold maxLen; first | omega | (simp only [List.length_nil]; omega)) (fun a19 w19 fw19 cw19 => ?_)
 have nw19 := Own.norm (f := (Value.int .i64)) (zs := dg (capN m)) fw19
 have zw19 := cw19.size
 refine sp rfl (px_build rfl (xbld28x0x1 rfl nw19.one _)) ?_
 have f23 := (fb2.ext c6).ext cs18
 have f24 := f23.chg cw19 (by omega)
 refine sx_store (vs := [.bool false, a19]) rfl rfl f24 rfl Tryd.sizeOf28 (nbl rfl) (one_cons rfl (one_cons nw19.one one_nil)) (fun w21 sw21 fw21 cw21 => ?_)
 have zw21 := cw21.size
 have gw21 : Blk w21 b2 [.bool false, a19] 28 := fw21
 refine wl_nil (q_n (k7 _ _ ?_))
 refine sx_sub (Sub.c 4 rfl .nil) ?_
 refine sx_retc ?_
 refine sx_ret1 Tryd.results37 ⟨_, rfl, gw21.loadA (vs := [.bool false, a19]) (look_lit rfl) Tryd.isAgg28 Tryd.sizeOf28⟩ ?_
 have hh := cap_sg n m
 rw [← hh.1, ← hh.2]
 have q25 := Chg.step (l := 0) (h := 0) (Chg.zero (l := 0) (h := 0) ((cb2.t c6).t cs18)) cw19 (by omega)
 have q26 := Chg.step (l := 0) (h := 0) q25 cw21 (by omega)
 have f27 := nw19.chg cw21 (by omega)
 exact ⟨_, by simp [nz, h10], (Own.mono f27 (by omega) (by omega)), q26⟩

theorem c_l04MakeMin {w : World} {n : Bool} {va : Value} {lva uva : Nat} {zs : List Int} (hva : Sl w lva uva va (zs)) (hz : zs = dg (-9223372036854775808 : Int).natAbs) :
  Ret Tryd.prog 37 [.bool n, va] w fun v w' => ∃ s, v = .agg #[.bool (ng (capI n (-9223372036854775808 : Int).natAbs)), s] ∧ OwnI w' w.heap.size w'.heap.size s intT (dg (capI n (-9223372036854775808 : Int).natAbs).natAbs) ∧ Chg 0 0 w w' := by
 subst hz; exact c_l04Make hva (by rw [dg_min]; simp)

theorem c_sNatOf {w : World} {n : Int} (hn : 0 ≤ n ∧ n ≤ 9223372036854775807) :
  Ret Tryd.prog 38 [.int .i64 n] w fun v w' => ∃ s, v = s ∧ OwnI w' w.heap.size w'.heap.size s intT (dg (n).toNat) ∧ Chg 0 0 w w' := by
 have l0 := len_u64 (n := n) (by omega)
 refine sx_enter Tryd.func38 rfl Tryd.ntmps38 (nbl rfl) ?_
 refine sx_seq fun K1 k1 => sx_region ?_
 refine av rfl rfl (wl_nil (q_n (k1 _ _ ?_)))
 refine sx_seq fun K2 k2 => sx_region ?_
 refine sx_lit0 rfl xelt22 (fun s3 ws3 ss3 fs3 cs3 => ?_)
 have zws3 := cs3.size
 refine av rfl rfl (wl_nil (q_n (k2 _ _ ?_)))
 refine sx_seq fun K4 k4 => ?_
 refine sx_block ?_
 refine sx_loop (fun mm aa w' => ∃ (s : Value) (os : List Int) (m : Int), Agr 15 [(0, .int .i64 m), (3, s)] aa ∧ Chg w.heap.size ws3.heap.size ws3 w' ∧ Own w' w.heap.size w'.heap.size s intT os.length 1 (os.map (Value.int .i64)) ∧ (mm = m.toNat) ∧ (Lm os) ∧ (0 ≤ m ∧ m ≤ n) ∧ (vl os + Bs ^ os.length * m.toNat = n.toNat) ∧ (os.length + (dg m.toNat).length = (dg n.toNat).length) ∧ (os.length = 0 ∨ Bs ^ (os.length - 1) ≤ n.toNat)) (_) (fun a ha => ⟨s3, [], n, ha.sub (Sub.c 0 (look_int (t := 0) rfl (by first | omega | simp)) (.c 3 rfl .nil)), Chg.refl _ _ _, (fs3.mono (by omega) (by omega)), rfl, Lm.nil, by omega, by simp [vl], by simp, .inl rfl⟩) ?_
 rintro mm aa wl5 ⟨s, os, m, hAwl5, cwl5, hs_s, hm, hlm, hb, hv, hln, hl⟩
 refine (show cw Tryd.prog 15 _ _ _ wl5 from ?_) aa hAwl5
 clear hAwl5
 have zwl5 := cwl5.size
 refine sx_seq fun K6 k6 => ?_
 refine sx_seq fun K7 k7 => sx_region ?_
 refine mv rfl rfl (sp rfl (px_gt rfl rfl) ?_)
 refine wl_nil (q_n (k7 _ _ ?_))
 refine sx_condP rfl (fun h34 => ?_) (fun h34 => ?_)
 ·
  refine sx_skip ?_
  refine q_n (k6 _ _ ?_)
  refine sx_block ?_
  refine sx_seq fun K8 k8 => sx_region ?_
  refine mv rfl rfl (mv rfl rfl (sp rfl (px_rem rfl rfl (by omega) (by omega)) ?_))
  refine sx_lit1 rfl xelt22 rfl rfl (fun s9 ws9 ss9 fs9 cs9 => ?_)
  have ns9 := Own.norm (f := (Value.int .i64)) (zs := [m % 1000000000]) fs9
  have zws9 := cs9.size
  have f11 := hs_s.ext cs9
  refine sx_append rfl xelt22 rfl rfl f11 ns9.sv one_int (by omega) (by simp only [List.length_cons, List.length_nil]; omega) (by unfold maxLen; simp only [List.length_cons, List.length_nil]; omega) (fun a10 w10 fw10 cw10 => ?_)
  have nw10 := Own.app (f := (Value.int .i64)) (a := os) (b := [m % 1000000000]) fw10
  have zw10 := cw10.size
  refine av rfl rfl (wl_nil (q_n (k8 _ _ ?_)))
  refine sx_region ?_
  refine mv rfl rfl (sp rfl (px_quo rfl rfl (by omega) (by omega) (by omega)) ?_)
  refine av rfl rfl (wl_nil ?_)
  have q12 := Chg.step (l := w.heap.size) (h := ws3.heap.size) cwl5 cs9 (by omega)
  have q13 := Chg.step (l := w.heap.size) (h := ws3.heap.size) q12 cw10 (by omega)
  have hmd := mod_bd (s := m) (by omega)
  have hm0 : m / 1000000000 < m := by omega
  exact q_bn (fun a ha => ⟨_, by omega, a10, (os ++ ([m % 1000000000])), (m / 1000000000), ha.sub (Sub.c 0 (look_int (t := 0) rfl (by first | omega | simp)) (.c 3 rfl .nil)), q13, (nw10.mono (by omega) (by omega)), rfl, hlm.append (Lm.single hmd.1 hmd.2), by omega, of_stepI (by omega) hv, by have h9 := of_ln (m := m) (by omega); simp only [List.length_append, List.length_singleton]; omega, .inr (of_len (by omega) hv)⟩)
 refine sx_exit ?_
 refine q_e (q_e (q_bx (q_n (k4 _ _ ?_))))
 refine sx_seq fun K14 k14 => sx_region ?_
 refine mv rfl rfl (av rfl rfl (wl_nil (q_n (k14 _ _ ?_))))
 refine sx_retc ?_
 refine sx_ret1 Tryd.results38 rfl ?_
 have hm0 : m = 0 := by omega
 subst hm0
 have hd : os = dg n.toNat := dg_of hlm (by simpa using hv) hl
 subst hd
 have q15 := Chg.step (l := 0) (h := 0) (Chg.zero (l := 0) (h := 0) cs3) cwl5 (by omega)
 exact ⟨_, rfl, (Own.mono hs_s (by omega) (by omega)), q15⟩

theorem c_sIntOf {w : World} {n : Int} (hn : -9223372036854775808 ≤ n ∧ n ≤ 9223372036854775807) :
  Ret Tryd.prog 29 [.int .i64 n] w fun v w' => ∃ s, v = .agg #[.bool (ng n), s] ∧ OwnI w' w.heap.size w'.heap.size s intT (dg (n).natAbs) ∧ Chg 0 0 w w' := by
 refine sx_enter Tryd.func29 rfl Tryd.ntmps29 (nbl rfl) ?_
 refine sx_seq fun K1 k1 => sx_region ?_
 refine sx_alloc [.bool false, (.slice none 0 0)] rfl Tryd.zeroValue28 rfl (fun b2 w3 eb2 sb2 fb2 cb2 => ?_)
 have zw3 := cb2.size
 refine wl_nil (q_n (k1 _ _ ?_))
 refine sx_seq fun K4 k4 => ?_
 refine sx_seq fun K5 k5 => sx_region ?_
 refine mv rfl rfl (sp rfl (px_eq rfl rfl) ?_)
 refine wl_nil (q_n (k5 _ _ ?_))
 refine sx_condP rfl (fun h15 => ?_) (fun h15 => ?_)
 ·
  subst h15
  refine sx_seq fun K6 k6 => sx_region ?_
  refine sx_lit3 rfl xelt22 rfl rfl rfl rfl rfl rfl (fun s7 ws7 ss7 fs7 cs7 => ?_)
  have ns7 := Own.norm (f := (Value.int .i64)) (zs := [854775808, 223372036, 9]) fs7
  have zws7 := cs7.size
  refine sx_call rfl rfl Tryd.call37 (c_l04MakeMin ns7.sv (dg_min.symm)) (fun v8 w8 p8 => ?_)
  obtain ⟨s8, rfl, os_8, c8⟩ := p8
  have zw8 := c8.size
  have f10 := fb2.ext cs7
  have f11 := f10.ext c8
  refine sx_store (vs := [.bool (ng (capI true (-9223372036854775808 : Int).natAbs)), s8]) rfl rfl f11 rfl Tryd.sizeOf28 (nbl rfl) (one_cons rfl (one_cons os_8.one one_nil)) (fun w9 sw9 fw9 cw9 => ?_)
  have zw9 := cw9.size
  have gw9 : Blk w9 b2 [.bool (ng (capI true (-9223372036854775808 : Int).natAbs)), s8] 28 := fw9
  refine wl_nil (q_n (k6 _ _ ?_))
  refine sx_retc ?_
  refine q_r (sx_ret1 Tryd.results29 ⟨_, rfl, gw9.loadA (vs := [.bool (ng (capI true (-9223372036854775808 : Int).natAbs)), s8]) (look_lit rfl) Tryd.isAgg28 Tryd.sizeOf28⟩ ?_)
  have e : capI true (-9223372036854775808 : Int).natAbs = -9223372036854775808 := capI_min
  have f12 := os_8.chg cw9 (by omega)
  have hr := f12
  rw [e] at hr
  have q13 := Chg.step (l := 0) (h := 0) (Chg.zero (l := 0) (h := 0) ((cb2.t cs7).t c8)) cw9 (by omega)
  exact ⟨_, by rw [e], hr.mono (by omega) (by omega), q13⟩
 refine sx_skip ?_
 refine q_n (k4 _ _ ?_)
 refine sx_seq fun K14 k14 => ?_
 refine sx_seq fun K15 k15 => sx_region ?_
 refine mv rfl rfl (sp rfl (px_lt rfl rfl) ?_)
 refine wl_nil (q_n (k15 _ _ ?_))
 refine sx_condP rfl (fun h18 => ?_) (fun h18 => ?_)
 ·
  refine sx_seq fun K16 k16 => sx_region ?_
  refine mv rfl rfl (sp rfl (px_neg rfl (by omega)) ?_)
  refine sx_call rfl rfl Tryd.call38 (c_sNatOf (by omega)) (fun v17 w17 p17 => ?_)
  obtain ⟨s17, rfl, os_17, c17⟩ := p17
  have zw17 := c17.size
  refine sx_call rfl rfl Tryd.call37 (c_l04Make os_17.sv (by first | (have h9 := len_u64 (n := -n) (by omega); omega) | (have h9 := len_u64 (n := n) (by omega); omega))) (fun v18 w18 p18 => ?_)
  obtain ⟨s18, rfl, os_18, c18⟩ := p18
  have zw18 := c18.size
  have f21 := (fb2.ext c17).ext c18
  refine sx_store (vs := [.bool (ng (capI true (((-n)).toNat))), s18]) rfl rfl f21 rfl Tryd.sizeOf28 (nbl rfl) (one_cons rfl (one_cons os_18.one one_nil)) (fun w19 sw19 fw19 cw19 => ?_)
  have zw19 := cw19.size
  have gw19 : Blk w19 b2 [.bool (ng (capI true (((-n)).toNat))), s18] 28 := fw19
  refine wl_nil (q_n (k16 _ _ ?_))
  refine sx_retc ?_
  refine q_r (sx_ret1 Tryd.results29 ⟨_, rfl, gw19.loadA (vs := [.bool (ng (capI true (((-n)).toNat))), s18]) (look_lit rfl) Tryd.isAgg28 Tryd.sizeOf28⟩ ?_)
  have e : capI true (-n).toNat = n := capI_neg (by omega)
  have f22 := os_18.chg cw19 (by omega)
  have hr := f22
  rw [e] at hr
  have q23 := Chg.step (l := 0) (h := 0) (Chg.zero (l := 0) (h := 0) ((cb2.t c17).t c18)) cw19 (by omega)
  exact ⟨_, by rw [e], hr.mono (by omega) (by omega), q23⟩
 refine sx_skip ?_
 refine q_n (k14 _ _ ?_)
 refine sx_seq fun K24 k24 => sx_region ?_
 refine mv rfl rfl (sx_call rfl rfl Tryd.call38 (c_sNatOf (by omega)) (fun v25 w25 p25 => ?_))
 obtain ⟨s25, rfl, os_25, c25⟩ := p25
 have zw25 := c25.size
 refine sx_call rfl rfl Tryd.call37 (c_l04Make os_25.sv (by first | (have h9 := len_u64 (n := -n) (by omega); omega) | (have h9 := len_u64 (n := n) (by omega); omega))) (fun v26 w26 p26 => ?_)
 obtain ⟨s26, rfl, os_26, c26⟩ := p26
 have zw26 := c26.size
 have f29 := (fb2.ext c25).ext c26
 refine sx_store (vs := [.bool (ng (capI false ((n).toNat))), s26]) rfl rfl f29 rfl Tryd.sizeOf28 (nbl rfl) (one_cons rfl (one_cons os_26.one one_nil)) (fun w27 sw27 fw27 cw27 => ?_)
 have zw27 := cw27.size
 have gw27 : Blk w27 b2 [.bool (ng (capI false ((n).toNat))), s26] 28 := fw27
 refine wl_nil (q_n (k24 _ _ ?_))
 refine sx_retc ?_
 refine sx_ret1 Tryd.results29 ⟨_, rfl, gw27.loadA (vs := [.bool (ng (capI false ((n).toNat))), s26]) (look_lit rfl) Tryd.isAgg28 Tryd.sizeOf28⟩ ?_
 have e : capI false n.toNat = n := capI_pos (by omega)
 have f30 := os_26.chg cw27 (by omega)
 have hr := f30
 rw [e] at hr
 have q31 := Chg.step (l := 0) (h := 0) (Chg.zero (l := 0) (h := 0) ((cb2.t c25).t c26)) cw27 (by omega)
 exact ⟨_, by rw [e], hr.mono (by omega) (by omega), q31⟩

theorem c_l03Small {w : World} {va : Value} {lva uva : Nat} {m : Nat} {d : Int} (hva : Sl w lva uva va (dg m)) (hbm : (dg m).length ≤ 1000) (hd : 1 ≤ d ∧ d ≤ 999999999) :
  Ret Tryd.prog 47 [va, .int .i64 d] w fun v w' => ∃ s, v = .tuple #[s, .int .i64 (((m % (d).toNat : Nat) : Int))] ∧ OwnI w' w.heap.size w'.heap.size s intT (dg (m / (d).toNat)) ∧ Chg 0 0 w w' := by
 have hva0 := hva.fit
 refine sx_enter Tryd.func47 rfl Tryd.ntmps47 (nbl rfl) ?_
 refine sx_seq fun K1 k1 => sx_region ?_
 refine av rfl rfl (av rfl rfl (wl_nil (q_n (k1 _ _ ?_))))
 refine sx_seq fun K2 k2 => sx_region ?_
 refine mv rfl rfl (sp rfl (px_len rfl Tryd.underlying22 hva0) ?_)
 refine sx_make (c := (dg m).length) rfl xelt22 (rfl) (rfl) (by omega) (by unfold maxLen; omega) (fun s3 ws3 fs3 cs3 ls3 => ?_)
 have ns3 := fs3.made
 have zws3 := cs3.size
 refine av rfl rfl (wl_nil (q_n (k2 _ _ ?_)))
 refine sx_seq fun K4 k4 => sx_region ?_
 refine av rfl rfl (wl_nil (q_n (k4 _ _ ?_)))
 refine sx_seq fun K5 k5 => ?_
 refine sx_seq fun K6 k6 => sx_region ?_
 refine mv rfl rfl ?_
 have f7 := hva0.ext cs3
 refine sp rfl (px_len rfl Tryd.underlying22 f7) ?_
 refine sp rfl (px_sub rfl rfl (by omega)) ?_
 refine av rfl rfl (wl_nil (q_n (k6 _ _ ?_)))
 refine sx_block ?_
 refine sx_loop (fun mm aa w' => ∃ (k : Nat) (os : List Int) (r : Int), Agr 39 [(0, va), (1, .int .i64 d), (6, s3), (7, .int .i64 r), (8, .int .i64 (↑k - 1))] aa ∧ Chg w.heap.size ws3.heap.size ws3 w' ∧ Own w' w.heap.size ws3.heap.size s3 intT os.length 1 (os.map (Value.int .i64)) ∧ (mm = k) ∧ (k ≤ (dg m).length) ∧ (os.length = (dg m).length) ∧ (Lm os) ∧ (0 ≤ r ∧ r < d) ∧ (vl ((dg m).drop k) = d.toNat * vl (os.drop k) + r.toNat)) (_) (fun a ha => ⟨(dg m).length, List.replicate (dg m).length 0, 0, ha.sub (Sub.c 0 rfl (.c 1 rfl (.c 6 rfl (.c 7 (look_int (t := 7) rfl (by first | omega | simp)) (.c 8 (look_int (t := 8) rfl (by first | omega | simp)) .nil))))), Chg.refl _ _ _, ns3, rfl, by omega, by simp, Lm.replicate _, by omega, by simp [vl]⟩) ?_
 rintro mm aa wl8 ⟨k, os, r, hAwl8, cwl8, hs_s3, hm, hk, hos, hlm, hr, hv⟩
 refine (show cw Tryd.prog 39 _ _ _ wl8 from ?_) aa hAwl8
 clear hAwl8
 have zwl8 := cwl8.size
 have am := (Lm_dg m).getD (k - 1)
 have hq := small_q hr.1 hr.2 am.1 am.2
 refine sx_seq fun K9 k9 => ?_
 refine sx_seq fun K10 k10 => sx_region ?_
 refine mv rfl rfl (sp rfl (px_ge rfl rfl) ?_)
 refine wl_nil (q_n (k10 _ _ ?_))
 refine sx_condP rfl (fun h8 => ?_) (fun h8 => ?_)
 ·
  refine sx_skip ?_
  refine q_n (k9 _ _ ?_)
  refine sx_seq fun K11 k11 => ?_
  refine sx_block ?_
  refine sx_seq fun K12 k12 => sx_region ?_
  refine mv rfl rfl (sp rfl (px_mul rfl rfl (by omega)) ?_)
  refine mv rfl rfl (mv rfl rfl ?_)
  have f13 := f7.chg cwl8 (by omega)
  refine sp rfl (px_index1 (j := (k - 1)) rfl rfl (by omega) Tryd.underlying22 Tryd.sizeOf3 f13 (by omega)) ?_
  refine sp rfl (px_load rfl (f13.load1 (at_int (by omega)) Tryd.isAgg3)) ?_
  refine sp rfl (px_add rfl rfl (by omega)) ?_
  refine av rfl rfl (wl_nil (q_n (k12 _ _ ?_)))
  refine sx_sub (Sub.c 0 rfl (.c 1 rfl (.c 6 rfl (.c 7 rfl (.c 8 rfl (.c 9 rfl .nil)))))) ?_
  refine sx_seq fun K14 k14 => sx_region ?_
  refine mv rfl rfl (mv rfl rfl (mv rfl rfl (mv rfl rfl (sp rfl (px_quo rfl rfl (by omega) (by omega) (by omega)) ?_))))
  refine sp rfl (px_index1 (j := (k - 1)) rfl rfl (by omega) Tryd.underlying22 Tryd.sizeOf3 hs_s3.sv (by omega)) ?_
  refine sx_storeO rfl rfl hs_s3 (by first | omega | (simp only [List.length_map]; omega)) Tryd.sizeOf3 rfl (fun w15 sw15 fw15 cw15 => ?_)
  have zw15 := cw15.size
  have nw15 := fw15.set
  refine wl_nil (q_n (k14 _ _ ?_))
  refine sx_region ?_
  refine mv rfl rfl (mv rfl rfl (sp rfl (px_rem rfl rfl (by omega) (by omega)) ?_))
  refine av rfl rfl (wl_nil ?_)
  refine q_bn (q_n (k11 _ _ ?_))
  refine sx_sub (Sub.c 0 rfl (.c 1 rfl (.c 6 rfl (.c 7 rfl (.c 8 rfl .nil))))) ?_
  refine sx_region ?_
  refine mv rfl rfl (sp rfl (px_sub rfl rfl (by omega)) ?_)
  refine av rfl rfl (wl_nil ?_)
  have q16 := Chg.step (l := w.heap.size) (h := ws3.heap.size) cwl8 cw15 (by omega)
  have hst := small_step (X := ((r * 1000000000) + ((dg m).getD (k - 1) 0))) (by omega) (by omega) (by omega) hr am rfl hv
  exact fun a ha => ⟨_, by omega, (k - 1), ((os).set (k - 1) (((r * 1000000000) + ((dg m).getD (k - 1) 0)) / d)), (((r * 1000000000) + ((dg m).getD (k - 1) 0)) % d), ha.sub (Sub.c 0 rfl (.c 1 rfl (.c 6 rfl (.c 7 (look_int (t := 7) rfl (by first | omega | simp)) (.c 8 (look_int (t := 8) rfl (by first | omega | simp)) .nil))))), q16, (nw15.mono (by omega) (by omega)), rfl, by omega, by simpa using hos, hlm.set _ hq.1 hq.2.1, hq.2.2, hst⟩
 refine sx_exit ?_
 refine q_e (q_e (q_bx (q_n (k5 _ _ ?_))))
 refine sx_seq fun K17 k17 => sx_region ?_
 refine mv rfl rfl (sx_call rfl rfl Tryd.call43 (c_l02Trim hs_s3 (by assumption) (by first | omega | (simp only [List.length_append, List.length_set, List.length_replicate, List.length_cons, List.length_nil] at *; omega))) (fun v18 w18 p18 => ?_))
 obtain ⟨s18, rfl, os_18, c18⟩ := p18
 have zw18 := c18.size
 refine mv rfl rfl (av rfl rfl (av rfl rfl (wl_nil (q_n (k17 _ _ ?_)))))
 refine sx_retc ?_
 refine sx_ret2 Tryd.results47 rfl rfl ?_
 have e0 : k = 0 := by omega
 subst e0
 have he := div_end (m := m) (d := d.toNat) (v := vl os) (r := r.toNat) (by rw [List.drop_zero, List.drop_zero, vl_dg] at hv; exact hv) (show r.toNat < d.toNat by omega)
 have hr2 := os_18
 rw [he.1] at hr2
 have er : r = ((m % d.toNat : Nat) : Int) := by omega
 have q19 := Chg.step (l := 0) (h := 0) (Chg.zero (l := 0) (h := 0) cs3) cwl8 (by omega)
 have q20 := Chg.step (l := 0) (h := 0) q19 c18 (by omega)
 exact ⟨_, by rw [er], hr2.mono (by omega) (by omega), q20⟩

theorem c_l02Cmp {w : World} {va : Value} {lva uva : Nat} {zs : List Int} {vb : Value} {lvb uvb : Nat} {ys : List Int} (hva : Sl w lva uva va (zs)) (hvb : Sl w lvb uvb vb (ys)) (h63 : zs.length ≤ 4611686018427387904 ∧ ys.length ≤ 4611686018427387904) :
  Ret Tryd.prog 48 [va, vb] w fun v w' => v = .int .i64 (cmpL zs ys) ∧ Chg 0 0 w w' := by
 have hva0 := hva.fit
 have hvb0 := hvb.fit
 have zs0 : zs.drop zs.length = [] := by simp
 have ys0 : ys.drop ys.length = [] := by simp
 refine sx_enter Tryd.func48 rfl Tryd.ntmps48 (nbl rfl) ?_
 refine sx_seq fun K1 k1 => sx_region ?_
 refine av rfl rfl (wl_nil (q_n (k1 _ _ ?_)))
 refine sx_seq fun K2 k2 => ?_
 refine sx_seq fun K3 k3 => sx_region ?_
 refine mv rfl rfl (sp rfl (px_len rfl Tryd.underlying22 hva0) ?_)
 refine mv rfl rfl (sp rfl (px_len rfl Tryd.underlying22 hvb0) ?_)
 refine sp rfl (px_ne rfl rfl) ?_
 refine wl_nil (q_n (k3 _ _ ?_))
 refine sx_condP rfl (fun h54 => ?_) (fun h54 => ?_)
 ·
  refine sx_seq fun K4 k4 => ?_
  refine sx_seq fun K5 k5 => sx_region ?_
  refine mv rfl rfl (sp rfl (px_len rfl Tryd.underlying22 hva0) ?_)
  refine mv rfl rfl (sp rfl (px_len rfl Tryd.underlying22 hvb0) ?_)
  refine sp rfl (px_lt rfl rfl) ?_
  refine wl_nil (q_n (k5 _ _ ?_))
  refine sx_condP rfl (fun h55 => ?_) (fun h55 => ?_)
  ·
   refine sx_seq fun K6 k6 => sx_region ?_
   refine av rfl rfl (wl_nil (q_n (k6 _ _ ?_)))
   refine sx_retc ?_
   refine q_r (q_r (sx_ret1 Tryd.results48 rfl ?_))
   exact ⟨iEq (cmpL_short (by omega)).symm, (Chg.refl 0 0 _)⟩
  refine sx_skip ?_
  refine q_n (k4 _ _ ?_)
  refine sx_seq fun K7 k7 => sx_region ?_
  refine av rfl rfl (wl_nil (q_n (k7 _ _ ?_)))
  refine sx_retc ?_
  refine q_r (sx_ret1 Tryd.results48 rfl ?_)
  exact ⟨iEq (cmpL_long (by omega)).symm, (Chg.refl 0 0 _)⟩
 refine sx_skip ?_
 refine q_n (k2 _ _ ?_)
 refine sx_seq fun K8 k8 => ?_
 refine sx_seq fun K9 k9 => sx_region ?_
 refine mv rfl rfl (sp rfl (px_len rfl Tryd.underlying22 hva0) ?_)
 refine sp rfl (px_sub rfl rfl (by omega)) ?_
 refine av rfl rfl (wl_nil (q_n (k9 _ _ ?_)))
 refine sx_block ?_
 have e00 : zs.length = ys.length := by omega
 have he0 : zs.drop zs.length = ys.drop zs.length := by rw [zs0, e00, ys0]
 refine sx_loop (fun mm aa w' => ∃ (k : Nat), Agr 41 [(0, va), (1, vb), (5, .int .i64 (↑k - 1))] aa ∧ Chg 0 0 w w' ∧ (mm = k) ∧ (k ≤ zs.length) ∧ (zs.drop k = ys.drop k)) (_) (fun a ha => ⟨zs.length, ha.sub (Sub.c 0 rfl (.c 1 rfl (.c 5 (look_int (t := 5) rfl (by first | omega | simp)) .nil))), Chg.refl _ _ _, rfl, by omega, he0⟩) ?_
 rintro mm aa wl10 ⟨k, hAwl10, cwl10, hm, hk, he⟩
 refine (show cw Tryd.prog 41 _ _ _ wl10 from ?_) aa hAwl10
 clear hAwl10
 have zwl10 := cwl10.size
 have hl : zs.length = ys.length := by omega
 refine sx_seq fun K11 k11 => ?_
 refine sx_seq fun K12 k12 => sx_region ?_
 refine mv rfl rfl (sp rfl (px_ge rfl rfl) ?_)
 refine wl_nil (q_n (k12 _ _ ?_))
 refine sx_condP rfl (fun h60 => ?_) (fun h60 => ?_)
 ·
  refine sx_skip ?_
  refine q_n (k11 _ _ ?_)
  refine sx_seq fun K13 k13 => ?_
  refine sx_block ?_
  refine sx_seq fun K14 k14 => ?_
  refine sx_seq fun K15 k15 => ?_
  have f16 := hva0.ext cwl10
  have f17 := hvb0.ext cwl10
  refine dx_region (fun w' => Chg 0 0 wl10 w') (by kernel_rfl) (Chg.zero (Chg.drew _)) ?_
  have d18 := Chg.drew wl10
  have s18 : Chg 0 0 wl10 (World.drew wl10) := Chg.zero (Chg.drew _)
  have y18 : (World.drew wl10).heap.size = wl10.heap.size := rfl
  generalize World.drew wl10 = w18 at *
  have zw18 := d18.size
  refine dt 0 rfl rfl rfl rfl s18 (fun _ hS => px_move rfl) ?_
  refine dt 1 rfl rfl rfl rfl s18 (fun _ hS => px_move rfl) ?_
  refine dt 2 rfl rfl rfl rfl s18 (fun _ hS => px_index1 (j := (k - 1)) rfl rfl (by omega) Tryd.underlying22 Tryd.sizeOf3 ((f16).chg hS (by omega)) (by omega)) ?_
  refine dt 3 rfl rfl rfl rfl s18 (fun _ hS => px_load rfl (((f16).chg hS (by omega)).load1 (at_int (by omega)) Tryd.isAgg3)) ?_
  refine dt 4 rfl rfl rfl rfl s18 (fun _ hS => px_move rfl) ?_
  refine dt 5 rfl rfl rfl rfl s18 (fun _ hS => px_move rfl) ?_
  refine dt 6 rfl rfl rfl rfl s18 (fun _ hS => px_index1 (j := (k - 1)) rfl rfl (by omega) Tryd.underlying22 Tryd.sizeOf3 ((f17).chg hS (by omega)) (by omega)) ?_
  refine dt 7 rfl rfl rfl rfl s18 (fun _ hS => px_load rfl (((f17).chg hS (by omega)).load1 (at_int (by omega)) Tryd.isAgg3)) ?_
  refine dt 8 rfl rfl rfl rfl s18 (fun _ hS => px_lt rfl rfl) ?_
  refine dx_done (by kernel_rfl) ?_
  refine q_n (k15 _ _ ?_)
  refine sx_condP rfl (fun h61 => ?_) (fun h61 => ?_)
  ·
   refine sx_seq fun K19 k19 => sx_region ?_
   refine av rfl rfl (wl_nil (q_n (k19 _ _ ?_)))
   refine sx_sub (Sub.c 0 rfl (.c 1 rfl (.c 4 rfl (.c 5 rfl .nil)))) ?_
   refine sx_retc ?_
   refine q_r (q_br (q_r (q_r (q_br (q_r (sx_ret1 Tryd.results48 rfl ?_))))))
   have hlt := cmpL_lt hl (k := k - 1) (by omega) (by rw [Nat.sub_add_cancel (by omega)]; exact he) (h61)
   exact ⟨iEq hlt.symm, (cwl10.t d18)⟩
  refine sx_skip ?_
  refine q_n (k14 _ _ ?_)
  refine sx_seq fun K20 k20 => ?_
  have f21 := f16.ext d18
  have f22 := f17.ext d18
  refine dx_region (fun w' => Chg 0 0 w18 w') (by kernel_rfl) (Chg.zero (Chg.drew _)) ?_
  have d23 := Chg.drew w18
  have s23 : Chg 0 0 w18 (World.drew w18) := Chg.zero (Chg.drew _)
  have y23 : (World.drew w18).heap.size = w18.heap.size := rfl
  generalize World.drew w18 = w23 at *
  have zw23 := d23.size
  refine dt 0 rfl rfl rfl rfl s23 (fun _ hS => px_move rfl) ?_
  refine dt 1 rfl rfl rfl rfl s23 (fun _ hS => px_move rfl) ?_
  refine dt 2 rfl rfl rfl rfl s23 (fun _ hS => px_index1 (j := (k - 1)) rfl rfl (by omega) Tryd.underlying22 Tryd.sizeOf3 ((f21).chg hS (by omega)) (by omega)) ?_
  refine dt 3 rfl rfl rfl rfl s23 (fun _ hS => px_load rfl (((f21).chg hS (by omega)).load1 (at_int (by omega)) Tryd.isAgg3)) ?_
  refine dt 4 rfl rfl rfl rfl s23 (fun _ hS => px_move rfl) ?_
  refine dt 5 rfl rfl rfl rfl s23 (fun _ hS => px_move rfl) ?_
  refine dt 6 rfl rfl rfl rfl s23 (fun _ hS => px_index1 (j := (k - 1)) rfl rfl (by omega) Tryd.underlying22 Tryd.sizeOf3 ((f22).chg hS (by omega)) (by omega)) ?_
  refine dt 7 rfl rfl rfl rfl s23 (fun _ hS => px_load rfl (((f22).chg hS (by omega)).load1 (at_int (by omega)) Tryd.isAgg3)) ?_
  refine dt 8 rfl rfl rfl rfl s23 (fun _ hS => px_gt rfl rfl) ?_
  refine dx_done (by kernel_rfl) ?_
  refine q_n (k20 _ _ ?_)
  refine sx_sub (Sub.c 0 rfl (.c 1 rfl (.c 5 rfl (.c 40 rfl .nil)))) ?_
  refine sx_condP rfl (fun h64 => ?_) (fun h64 => ?_)
  ·
   refine sx_seq fun K24 k24 => sx_region ?_
   refine av rfl rfl (wl_nil (q_n (k24 _ _ ?_)))
   refine sx_retc ?_
   refine q_br (q_r (q_r (q_br (q_r (sx_ret1 Tryd.results48 rfl ?_)))))
   have hlt := cmpL_gt hl (k := k - 1) (by omega) (by rw [Nat.sub_add_cancel (by omega)]; exact he) (h64)
   exact ⟨iEq hlt.symm, ((cwl10.t d18).t d23)⟩
  refine sx_skip ?_
  refine q_bn (q_n (k13 _ _ ?_))
  refine sx_region ?_
  refine mv rfl rfl (sp rfl (px_sub rfl rfl (by omega)) ?_)
  refine av rfl rfl (wl_nil ?_)
  exact fun a ha => ⟨_, by omega, (k - 1), ha.sub (Sub.c 0 rfl (.c 1 rfl (.c 5 (look_int (t := 5) rfl (by first | omega | simp)) .nil))), ((cwl10.t d18).t d23), rfl, by omega, drop_succ_eq (by omega) (by omega) (by rw [Nat.sub_add_cancel (by omega)]; exact he) (by omega)⟩
 refine sx_exit ?_
 refine q_e (q_e (q_bx (q_n (k8 _ _ ?_))))
 refine sx_seq fun K25 k25 => sx_region ?_
 refine av rfl rfl (wl_nil (q_n (k25 _ _ ?_)))
 refine sx_retc ?_
 refine sx_ret1 Tryd.results48 rfl ?_
 have e1 : k = 0 := by omega
 subst e1
 have e2 : zs = ys := by simpa using he
 subst e2
 exact ⟨iEq (cmpL_self zs).symm, cwl10⟩

theorem c_l02Mul {w : World} {va : Value} {lva uva : Nat} {m : Nat} {vb : Value} {lvb uvb : Nat} {n : Nat} (hva : Sl w lva uva va (dg m)) (hvb : Sl w lvb uvb vb (dg n)) (hbm : (dg m).length ≤ 1000) (hbn : (dg n).length ≤ 1000) :
  Ret Tryd.prog 51 [va, vb] w fun v w' => ∃ s, v = s ∧ Sl w' (w.heap.size) (w'.heap.size) s (dg (m * n)) ∧ Chg 0 0 w w' := by
 have hva0 := hva.fit
 have hvb0 := hvb.fit
 refine sx_enter Tryd.func51 rfl Tryd.ntmps51 (nbl rfl) ?_
 refine sx_seq fun K1 k1 => sx_region ?_
 refine av rfl rfl (wl_nil (q_n (k1 _ _ ?_)))
 refine sx_seq fun K2 k2 => ?_
 refine sx_seq fun K3 k3 => sx_region ?_
 refine mv rfl rfl (sp rfl (px_len rfl Tryd.underlying22 hva0) ?_)
 refine sp rfl (px_eq rfl rfl) ?_
 refine mv rfl rfl ?_
 refine sx_tmpP (t := 15) rfl (fun h131 => ?_) (fun h131 => ?_)
 ·
  refine sx_guardF rfl rfl rfl rfl rfl rfl ?_
  refine sx_guardF rfl rfl rfl rfl rfl rfl ?_
  refine sx_guardF rfl rfl rfl rfl rfl rfl ?_
  refine sp rfl (px_pick rfl rfl) ?_
  refine wl_nil (q_n (k3 _ _ ?_))
  refine sx_condT rfl ?_
  refine sx_seq fun K4 k4 => sx_region ?_
  refine av rfl rfl (wl_nil (q_n (k4 _ _ ?_)))
  refine sx_retc ?_
  refine q_r (sx_ret1 Tryd.results51 rfl ?_)
  have e0 : m * n = 0 := by first | (rw [dg_nil.1 (List.length_eq_zero_iff.1 (show (dg m).length = 0 by omega)), Nat.zero_mul]) | (rw [dg_nil.1 (List.length_eq_zero_iff.1 (show (dg n).length = 0 by omega)), Nat.mul_zero])
  rw [e0, dg_zero]
  exact ⟨_, rfl, Sv.nil _ _ _ _, (Chg.refl 0 0 _)⟩
 refine sx_guardT rfl rfl rfl ?_
 refine mv rfl rfl ?_
 refine sx_guardT rfl rfl rfl ?_
 refine sp rfl (px_len rfl Tryd.underlying22 hvb0) ?_
 refine sx_guardT rfl rfl rfl ?_
 refine sp rfl (px_eq rfl rfl) ?_
 refine sp rfl (px_pick rfl rfl) ?_
 refine wl_nil (q_n (k3 _ _ ?_))
 refine sx_condP rfl (fun h131x1 => ?_) (fun h131x1 => ?_)
 ·
  refine sx_seq fun K5 k5 => sx_region ?_
  refine av rfl rfl (wl_nil (q_n (k5 _ _ ?_)))
  refine sx_retc ?_
  refine q_r (sx_ret1 Tryd.results51 rfl ?_)
  have e0 : m * n = 0 := by first | (rw [dg_nil.1 (List.length_eq_zero_iff.1 (show (dg m).length = 0 by omega)), Nat.zero_mul]) | (rw [dg_nil.1 (List.length_eq_zero_iff.1 (show (dg n).length = 0 by omega)), Nat.mul_zero])
  rw [e0, dg_zero]
  exact ⟨_, rfl, Sv.nil _ _ _ _, (Chg.refl 0 0 _)⟩
 refine sx_skip ?_
 refine q_n (k2 _ _ ?_)
 refine sx_seq fun K6 k6 => sx_region ?_
 refine mv rfl rfl (sp rfl (px_len rfl Tryd.underlying22 hva0) ?_)
 refine mv rfl rfl (sp rfl (px_len rfl Tryd.underlying22 hvb0) ?_)
 refine sp rfl (px_add rfl rfl (by omega)) ?_
 refine sx_make (c := (dg m).length + (dg n).length) rfl xelt22 (look_int rfl (by omega)) (look_int rfl (by omega)) (by omega) (by unfold maxLen; omega) (fun s7 ws7 fs7 cs7 ls7 => ?_)
 have ns7 := fs7.made
 have zws7 := cs7.size
 refine av rfl rfl (wl_nil (q_n (k6 _ _ ?_)))
 refine sx_sub (Sub.c 0 rfl (.c 1 rfl (.c 4 rfl (.c 5 rfl .nil)))) ?_
 refine sx_seq fun K8 k8 => ?_
 refine sx_seq fun K9 k9 => sx_region ?_
 refine mv rfl rfl ?_
 have f10 := hva0.ext cs7
 refine sp rfl (px_len rfl Tryd.underlying22 f10) ?_
 refine mv rfl rfl (wl_nil (q_n (k9 _ _ ?_)))
 refine sx_block ?_
 refine sx_loop (fun mm aa w' => ∃ (k : Nat) (os : List Int), Agr 72 [(1, vb), (5, s7), (26, va), (27, .int .i64 (↑(dg m).length)), (28, .int .i64 ↑k)] aa ∧ Chg w.heap.size ws7.heap.size ws7 w' ∧ Own w' w.heap.size ws7.heap.size s7 intT os.length 1 (os.map (Value.int .i64)) ∧ (mm = (dg m).length - k) ∧ (k ≤ (dg m).length) ∧ (os.length = (dg m).length + (dg n).length) ∧ (Lm os) ∧ (∀ i, k + (dg n).length ≤ i → os.getD i 0 = 0) ∧ (vl os = vl ((dg m).take k) * n)) (_) (fun a ha => ⟨0, List.replicate ((dg m).length + (dg n).length) 0, ha.sub (Sub.c 1 rfl (.c 5 rfl (.c 26 rfl (.c 27 (look_int (t := 27) rfl (by first | omega | simp)) (.c 28 (look_int (t := 28) rfl (by first | omega | simp)) .nil))))), Chg.refl _ _ _, (ns7.mono (by omega) (by omega)), rfl, by omega, by simp, Lm.replicate _, fun i _ => zero_rep _ i (Nat.zero_le _), by rw [vl_replicate, List.take_zero]; simp [vl]⟩) ?_
 rintro mm aa wl11 ⟨k, os, hAwl11, cwl11, hs_s7, hm, hk, hos, hlm, hz, hv⟩
 refine (show cw Tryd.prog 72 _ _ _ wl11 from ?_) aa hAwl11
 clear hAwl11
 have zwl11 := cwl11.size
 have am := (Lm_dg m).getD k
 refine sx_seq fun K12 k12 => sx_region ?_
 refine sp rfl (px_lt rfl rfl) ?_
 refine wl_nil (q_n (k12 _ _ ?_))
 refine sx_seq fun K13 k13 => ?_
 refine sx_condP rfl (fun h135 => ?_) (fun h135 => ?_)
 ·
  refine sx_skip ?_
  refine q_n (k13 _ _ ?_)
  refine sx_seq fun K14 k14 => ?_
  refine sx_block ?_
  refine sx_seq fun K15 k15 => sx_region ?_
  refine mv rfl rfl ?_
  have f16 := f10.chg cwl11 (by omega)
  refine sp rfl (px_index1 (j := k) rfl rfl (by omega) Tryd.underlying22 Tryd.sizeOf3 f16 (by first | omega | (simp only [List.length_set]; omega))) ?_
  refine sp rfl (px_load rfl (f16.load1 (at_int (by omega)) Tryd.isAgg3)) ?_
  refine av rfl rfl (av rfl rfl (wl_nil (q_n (k15 _ _ ?_))))
  refine sx_seq fun K17 k17 => sx_region ?_
  refine av rfl rfl (wl_nil (q_n (k17 _ _ ?_)))
  refine sx_seq fun K18 k18 => ?_
  refine sx_seq fun K19 k19 => sx_region ?_
  refine mv rfl rfl ?_
  have f20 := hvb0.ext cs7
  have f21 := f20.chg cwl11 (by omega)
  refine sp rfl (px_len rfl Tryd.underlying22 f21) ?_
  refine mv rfl rfl (wl_nil (q_n (k19 _ _ ?_)))
  refine sx_sub (Sub.c 1 rfl (.c 5 rfl (.c 6 rfl (.c 7 rfl (.c 8 rfl (.c 26 rfl (.c 27 rfl (.c 28 rfl (.c 33 rfl (.c 34 rfl (.c 35 rfl .nil))))))))))) ?_
  refine sx_block ?_
  refine sx_loop (fun mm aa w' => ∃ (j : Nat) (o2 : List Int) (c : Int), Agr 72 [(1, vb), (5, s7), (6, .int .i64 ↑k), (7, .int .i64 ((dg m).getD k 0)), (8, .int .i64 c), (26, va), (27, .int .i64 (↑(dg m).length)), (28, .int .i64 ↑k), (33, vb), (34, .int .i64 (↑(dg n).length)), (35, .int .i64 ↑j)] aa ∧ Chg w.heap.size ws7.heap.size wl11 w' ∧ Own w' w.heap.size ws7.heap.size s7 intT o2.length 1 (o2.map (Value.int .i64)) ∧ (mm = (dg n).length - j) ∧ (j ≤ (dg n).length) ∧ (o2.length = (dg m).length + (dg n).length) ∧ (Lm o2) ∧ (∀ i, k + (dg n).length ≤ i → o2.getD i 0 = 0) ∧ (0 ≤ c ∧ c < 1000000000) ∧ (vl o2 + Bs ^ (k + j) * c.toNat = vl os + Bs ^ k * (((dg m).getD k 0).toNat * vl ((dg n).take j)))) (_) (fun a ha => ⟨0, os, 0, ha.sub (Sub.c 1 rfl (.c 5 rfl (.c 6 rfl (.c 7 rfl (.c 8 (look_int (t := 8) rfl (by first | omega | simp)) (.c 26 rfl (.c 27 rfl (.c 28 rfl (.c 33 rfl (.c 34 (look_int (t := 34) rfl (by first | omega | simp)) (.c 35 (look_int (t := 35) rfl (by first | omega | simp)) .nil))))))))))), Chg.refl _ _ _, hs_s7, rfl, by omega, hos, hlm, hz, by omega, by simp [vl]⟩) ?_
  rintro mm aa wl22 ⟨j, o2, c, hAwl22, cwl22, hs_s7, hm, hj, hos2, hlm2, hz2, hc, hv2⟩
  refine (show cw Tryd.prog 72 _ _ _ wl22 from ?_) aa hAwl22
  clear hAwl22
  have zwl22 := cwl22.size
  have bn := (Lm_dg n).getD j
  have on := hlm2.getD (k + j)
  have hxy := mul_limb am.1 am.2 bn.1 bn.2
  refine sx_seq fun K23 k23 => sx_region ?_
  refine sp rfl (px_lt rfl rfl) ?_
  refine wl_nil (q_n (k23 _ _ ?_))
  refine sx_seq fun K24 k24 => ?_
  refine sx_condP rfl (fun h137 => ?_) (fun h137 => ?_)
  ·
   refine sx_skip ?_
   refine q_n (k24 _ _ ?_)
   refine sx_seq fun K25 k25 => ?_
   refine sx_block ?_
   refine sx_seq fun K26 k26 => sx_region ?_
   refine mv rfl rfl ?_
   have f27 := f21.chg cwl22 (by omega)
   refine sp rfl (px_index1 (j := j) rfl rfl (by omega) Tryd.underlying22 Tryd.sizeOf3 f27 (by first | omega | (simp only [List.length_set]; omega))) ?_
   refine sp rfl (px_load rfl (f27.load1 (at_int (by omega)) Tryd.isAgg3)) ?_
   refine av rfl rfl (av rfl rfl (wl_nil (q_n (k26 _ _ ?_))))
   refine sx_sub (Sub.c 1 rfl (.c 5 rfl (.c 6 rfl (.c 7 rfl (.c 8 rfl (.c 9 rfl (.c 10 rfl (.c 26 rfl (.c 27 rfl (.c 28 rfl (.c 33 rfl (.c 34 rfl (.c 35 rfl .nil))))))))))))) ?_
   refine sx_seq fun K28 k28 => sx_region ?_
   refine mv rfl rfl (mv rfl rfl (mv rfl rfl (sp rfl (px_add rfl rfl (by omega)) ?_)))
   refine sp rfl (px_index1 (j := (k + j)) rfl rfl (by omega) Tryd.underlying22 Tryd.sizeOf3 hs_s7.sv (by first | omega | (simp only [List.length_set]; omega))) ?_
   refine sp rfl (px_load rfl (hs_s7.sv.load1 (at_int (by omega)) Tryd.isAgg3)) ?_
   refine mv rfl rfl (mv rfl rfl (sp rfl (px_mul rfl rfl (by omega)) ?_))
   refine sp rfl (px_add rfl rfl (by omega)) ?_
   refine mv rfl rfl (sp rfl (px_add rfl rfl (by omega)) ?_)
   refine av rfl rfl (wl_nil (q_n (k28 _ _ ?_)))
   refine sx_sub (Sub.c 1 rfl (.c 5 rfl (.c 6 rfl (.c 7 rfl (.c 8 rfl (.c 9 rfl (.c 11 rfl (.c 26 rfl (.c 27 rfl (.c 28 rfl (.c 33 rfl (.c 34 rfl (.c 35 rfl .nil))))))))))))) ?_
   refine sx_seq fun K29 k29 => sx_region ?_
   refine mv rfl rfl (mv rfl rfl (mv rfl rfl (sp rfl (px_add rfl rfl (by omega)) ?_)))
   refine mv rfl rfl (sp rfl (px_rem rfl rfl (by omega) (by omega)) ?_)
   refine sp rfl (px_index1 (j := (k + j)) rfl rfl (by omega) Tryd.underlying22 Tryd.sizeOf3 hs_s7.sv (by first | omega | (simp only [List.length_set]; omega))) ?_
   refine sx_storeO rfl rfl hs_s7 (by first | omega | (simp only [List.length_map]; omega)) Tryd.sizeOf3 rfl (fun w30 sw30 fw30 cw30 => ?_)
   have zw30 := cw30.size
   have nw30 := fw30.set
   refine wl_nil (q_n (k29 _ _ ?_))
   refine sx_sub (Sub.c 1 rfl (.c 5 rfl (.c 6 rfl (.c 7 rfl (.c 8 rfl (.c 11 rfl (.c 26 rfl (.c 27 rfl (.c 28 rfl (.c 33 rfl (.c 34 rfl (.c 35 rfl .nil)))))))))))) ?_
   refine sx_region ?_
   refine mv rfl rfl (sp rfl (px_quo rfl rfl (by omega) (by omega) (by omega)) ?_)
   refine av rfl rfl (wl_nil ?_)
   refine q_bn (q_n (k25 _ _ ?_))
   refine sx_region ?_
   refine sp rfl (px_add rfl rfl (by omega)) ?_
   refine mv rfl rfl (wl_nil ?_)
   have q31 := Chg.step (l := w.heap.size) (h := ws7.heap.size) cwl22 cw30 (by omega)
   have hs : ((((o2).getD (k + j) 0) + (((dg m).getD k 0) * ((dg n).getD j 0))) + c) = c + (o2.getD (k + j) 0 + (dg m).getD k 0 * (dg n).getD j 0) := by omega
   have hm2 := mul_step (V := vl os) hc.1 am.1 on.1 bn.1 (by omega) (by omega) hs hv2
   exact fun a ha => ⟨_, by omega, (j + 1), ((o2).set (k + j) (((((o2).getD (k + j) 0) + (((dg m).getD k 0) * ((dg n).getD j 0))) + c) % 1000000000)), (((((o2).getD (k + j) 0) + (((dg m).getD k 0) * ((dg n).getD j 0))) + c) / 1000000000), ha.sub (Sub.c 1 rfl (.c 5 rfl (.c 6 rfl (.c 7 rfl (.c 8 (look_int (t := 8) rfl (by first | omega | simp)) (.c 26 rfl (.c 27 rfl (.c 28 rfl (.c 33 rfl (.c 34 rfl (.c 35 (look_int (t := 35) rfl (by first | omega | simp)) .nil))))))))))), q31, (nw30.mono (by omega) (by omega)), rfl, by omega, by simpa using hos2, hlm2.set _ (by omega) (by omega), zero_set' hz2 (by omega), by omega, hm2⟩
  refine sx_exit ?_
  refine q_e (q_e (q_bx (q_n (k18 _ _ ?_))))
  have ej : j = (dg n).length := by omega
  rw [ej, List.take_length, vl_dg] at hv2
  refine sx_region ?_
  refine mv rfl rfl (mv rfl rfl (mv rfl rfl ?_))
  have f32 := f21.chg cwl22 (by omega)
  refine sp rfl (px_len rfl Tryd.underlying22 f32) ?_
  refine sp rfl (px_add rfl rfl (by omega)) ?_
  refine mv rfl rfl (sp rfl (px_index1 (j := (k + (dg n).length)) rfl rfl (by omega) Tryd.underlying22 Tryd.sizeOf3 hs_s7.sv (by first | omega | (simp only [List.length_set]; omega))) ?_)
  refine sx_storeO rfl rfl hs_s7 (by first | omega | (simp only [List.length_map]; omega)) Tryd.sizeOf3 rfl (fun w33 sw33 fw33 cw33 => ?_)
  have zw33 := cw33.size
  have nw33 := fw33.set
  refine wl_nil ?_
  refine q_bn (q_n (k14 _ _ ?_))
  refine sx_sub (Sub.c 1 rfl (.c 5 rfl (.c 26 rfl (.c 27 rfl (.c 28 rfl .nil))))) ?_
  have oz := hz2 (k + (dg n).length) (Nat.le_refl _)
  have hosR : (o2.set (k + (dg n).length) c).length = (dg m).length + (dg n).length := by simpa using hos2
  have hlmR := hlm2.set (k + (dg n).length) hc.1 hc.2
  have hzR : ∀ i, k + (dg n).length + 1 ≤ i → (o2.set (k + (dg n).length) c).getD i 0 = 0 := zero_set hz2 (by omega)
  have hvR : vl (o2.set (k + (dg n).length) c) = vl os + Bs ^ k * (((dg m).getD k 0).toNat * n) := (carry_step (by omega) oz).trans hv2
  refine sx_region ?_
  refine sp rfl (px_add rfl rfl (by omega)) ?_
  refine mv rfl rfl (wl_nil ?_)
  have q34 := Chg.step (l := w.heap.size) (h := ws7.heap.size) cwl11 cwl22 (by omega)
  have q35 := Chg.step (l := w.heap.size) (h := ws7.heap.size) q34 cw33 (by omega)
  have hrow := mul_row (P := Bs ^ k) (a := ((dg m).getD k 0).toNat) hv
  rw [← vl_take_succ'] at hrow
  exact fun a ha => ⟨_, by omega, (k + 1), ((o2).set (k + (dg n).length) c), ha.sub (Sub.c 1 rfl (.c 5 rfl (.c 26 rfl (.c 27 rfl (.c 28 (look_int (t := 28) rfl (by first | omega | simp)) .nil))))), q35, (nw33.mono (by omega) (by omega)), rfl, by omega, by simpa using hosR, hlmR, fun i hi => hzR i (by omega), hvR.trans hrow⟩
 refine sx_exit ?_
 refine q_e (q_e (q_bx (q_n (k8 _ _ ?_))))
 refine sx_seq fun K36 k36 => ?_
 have ek : k = (dg m).length := by omega
 rw [ek, List.take_length, vl_dg] at hv
 have hzz := hlm
 refine sx_region ?_
 refine mv rfl rfl (sx_call rfl rfl Tryd.call43 (c_l02Trim hs_s7 (by assumption) (by first | omega | (simp only [List.length_append, List.length_set, List.length_replicate, List.length_cons, List.length_nil] at *; omega))) (fun v37 w37 p37 => ?_))
 obtain ⟨s37, rfl, os_37, c37⟩ := p37
 have zw37 := c37.size
 refine av rfl rfl (wl_nil (q_n (k36 _ _ ?_)))
 refine sx_retc ?_
 refine sx_ret1 Tryd.results51 rfl ?_
 have hr := Own.sv os_37
 rw [hv] at hr
 have q38 := Chg.step (l := 0) (h := 0) (Chg.zero (l := 0) (h := 0) cs7) cwl11 (by omega)
 have q39 := Chg.step (l := 0) (h := 0) q38 c37 (by omega)
 exact ⟨_, rfl, hr.mono (by omega) (by omega), q39⟩

theorem c_l03Digit {w : World} {va : Value} {lva uva : Nat} {m : Nat} {vb : Value} {lvb uvb : Nat} {n : Nat} (hva : Sl w lva uva va (dg m)) (hvb : Sl w lvb uvb vb (dg n)) (hbm : (dg m).length ≤ 1000) (hbn : (dg n).length ≤ 990) (hq : m < (999999999 + 1) * n) :
  Ret Tryd.prog 49 [va, vb] w fun v w' => v = .int .i64 (((m / n : Nat) : Int)) ∧ Chg 0 0 w w' := by
 have hva0 := hva.fit
 have hvb0 := hvb.fit
 refine sx_enter Tryd.func49 rfl Tryd.ntmps49 (nbl rfl) ?_
 refine sx_seq fun K1 k1 => sx_region ?_
 refine av rfl rfl (wl_nil (q_n (k1 _ _ ?_)))
 refine sx_seq fun K2 k2 => sx_region ?_
 refine av rfl rfl (wl_nil (q_n (k2 _ _ ?_)))
 refine sx_seq fun K3 k3 => sx_region ?_
 refine av rfl rfl (wl_nil (q_n (k3 _ _ ?_)))
 refine sx_seq fun K4 k4 => ?_
 refine sx_block ?_
 refine sx_loop (fun mm aa w' => ∃ (lo : Int) (hi : Int), Agr 27 [(0, va), (1, vb), (5, .int .i64 lo), (6, .int .i64 hi)] aa ∧ Chg 0 0 w w' ∧ (mm = (hi - lo).toNat) ∧ (0 ≤ lo ∧ lo ≤ hi ∧ hi ≤ 999999999) ∧ (lo.toNat * n ≤ m) ∧ (m < (hi.toNat + 1) * n)) (_) (fun a ha => ⟨0, 999999999, ha.sub (Sub.c 0 rfl (.c 1 rfl (.c 5 (look_int (t := 5) rfl (by first | omega | simp)) (.c 6 (look_int (t := 6) rfl (by first | omega | simp)) .nil)))), Chg.refl _ _ _, rfl, by omega, by simp, hq⟩) ?_
 rintro mm aa wl5 ⟨lo, hi, hAwl5, cwl5, hm, hb, hl, hh⟩
 refine (show cw Tryd.prog 27 _ _ _ wl5 from ?_) aa hAwl5
 clear hAwl5
 have zwl5 := cwl5.size
 have lq := len_u64 (n := ((lo + hi + 1) / 2)) (by omega)
 have lm := len_mul n ((lo + hi + 1) / 2).toNat
 refine sx_seq fun K6 k6 => ?_
 refine sx_seq fun K7 k7 => sx_region ?_
 refine mv rfl rfl (mv rfl rfl (sp rfl (px_lt rfl rfl) ?_))
 refine wl_nil (q_n (k7 _ _ ?_))
 refine sx_condP rfl (fun h20 => ?_) (fun h20 => ?_)
 ·
  refine sx_skip ?_
  refine q_n (k6 _ _ ?_)
  refine sx_block ?_
  refine sx_seq fun K8 k8 => sx_region ?_
  refine mv rfl rfl (mv rfl rfl (sp rfl (px_add rfl rfl (by omega)) ?_))
  refine sp rfl (px_add rfl rfl (by omega)) ?_
  refine sp rfl (px_quo rfl rfl (by omega) (by omega) (by omega)) ?_
  refine av rfl rfl (wl_nil (q_n (k8 _ _ ?_)))
  refine sx_seq fun K9 k9 => sx_region ?_
  refine mv rfl rfl (mv rfl rfl (sx_call rfl rfl Tryd.call38 (c_sNatOf (by omega)) (fun v10 w10 p10 => ?_)))
  obtain ⟨s10, rfl, os_10, c10⟩ := p10
  have zw10 := c10.size
  have f11 := hvb0.ext cwl5
  have f12 := f11.ext c10
  refine sx_call rfl rfl Tryd.call51 (c_l02Mul f12 os_10.sv (by omega) (by omega)) (fun v13 w13 p13 => ?_)
  obtain ⟨s13, rfl, os_13, c13⟩ := p13
  have zw13 := c13.size
  refine mv rfl rfl ?_
  have f14 := hva0.ext cwl5
  have f16 := (f14.ext c10).ext c13
  refine sx_call rfl rfl Tryd.call48 (c_l02Cmp os_13 f16 (by omega)) (fun v17 w17 p17 => ?_)
  obtain ⟨rfl, c17⟩ := p17
  have zw17 := c17.size
  refine sp rfl (px_le rfl rfl) ?_
  refine wl_nil (q_n (k9 _ _ ?_))
  refine sx_sub (Sub.c 0 rfl (.c 1 rfl (.c 5 rfl (.c 6 rfl (.c 7 rfl (.c 22 rfl .nil)))))) ?_
  refine sx_condP rfl (fun h22 => ?_) (fun h22 => ?_)
  ·
   rw [cmpL_dg] at h22
   have hle := cmpN_le.1 h22
   refine sx_region ?_
   refine mv rfl rfl (av rfl rfl (wl_nil ?_))
   exact q_bn (fun a ha => ⟨_, by omega, (((lo + hi) + 1) / 2), hi, ha.sub (Sub.c 0 rfl (.c 1 rfl (.c 5 (look_int (t := 5) rfl (by first | omega | simp)) (.c 6 rfl .nil)))), (((cwl5.t c10).t c13).t c17), rfl, by omega, by first | exact hl | (rw [Nat.mul_comm]; exact hle), by first | exact hh | (rw [show (((lo + hi + 1) / 2) - 1).toNat + 1 = ((lo + hi + 1) / 2).toNat by omega, Nat.mul_comm]; exact hgt)⟩)
  rw [cmpL_dg] at h22
  have hgt := Nat.lt_of_not_le (mt cmpN_le.2 h22)
  refine sx_region ?_
  refine mv rfl rfl (sp rfl (px_sub rfl rfl (by omega)) ?_)
  refine av rfl rfl (wl_nil ?_)
  exact q_bn (fun a ha => ⟨_, by omega, lo, ((((lo + hi) + 1) / 2) - 1), ha.sub (Sub.c 0 rfl (.c 1 rfl (.c 5 rfl (.c 6 (look_int (t := 6) rfl (by first | omega | simp)) .nil)))), (((cwl5.t c10).t c13).t c17), rfl, by omega, by first | exact hl | (rw [Nat.mul_comm]; exact hle), by first | exact hh | (rw [show (((lo + hi + 1) / 2) - 1).toNat + 1 = ((lo + hi + 1) / 2).toNat by omega, Nat.mul_comm]; exact hgt)⟩)
 refine sx_exit ?_
 refine q_e (q_e (q_bx (q_n (k4 _ _ ?_))))
 refine sx_seq fun K18 k18 => sx_region ?_
 refine mv rfl rfl (av rfl rfl (wl_nil (q_n (k18 _ _ ?_))))
 refine sx_retc ?_
 refine sx_ret1 Tryd.results49 rfl ?_
 have he := digit_end hb.1 (by omega) hb.2.1 hl hh
 exact ⟨by rw [he], cwl5⟩

theorem c_l02Sub {w : World} {va : Value} {lva uva : Nat} {m : Nat} {vb : Value} {lvb uvb : Nat} {n : Nat} (hva : Sl w lva uva va (dg m)) (hvb : Sl w lvb uvb vb (dg n)) (hbm : (dg m).length ≤ 1000) (hbn : (dg n).length ≤ 1000) (hle : n ≤ m) :
  Ret Tryd.prog 50 [va, vb] w fun v w' => ∃ s, v = s ∧ Sl w' (w.heap.size) (w'.heap.size) s (dg (m - n)) ∧ Chg 0 0 w w' := by
 have hva0 := hva.fit
 have hvb0 := hvb.fit
 refine sx_enter Tryd.func50 rfl Tryd.ntmps50 (nbl rfl) ?_
 refine sx_seq fun K1 k1 => sx_region ?_
 refine av rfl rfl (wl_nil (q_n (k1 _ _ ?_)))
 refine sx_seq fun K2 k2 => sx_region ?_
 refine sx_lit0 rfl xelt22 (fun s3 ws3 ss3 fs3 cs3 => ?_)
 have zws3 := cs3.size
 refine av rfl rfl (wl_nil (q_n (k2 _ _ ?_)))
 refine sx_seq fun K4 k4 => sx_region ?_
 refine av rfl rfl (wl_nil (q_n (k4 _ _ ?_)))
 refine sx_seq fun K5 k5 => ?_
 refine sx_seq fun K6 k6 => sx_region ?_
 refine mv rfl rfl ?_
 have f7 := hva0.ext cs3
 refine sp rfl (px_len rfl Tryd.underlying22 f7) ?_
 refine mv rfl rfl (wl_nil (q_n (k6 _ _ ?_)))
 refine sx_block ?_
 refine sx_loop (fun mm aa w' => ∃ (k : Nat) (s : Value) (os : List Int) (c : Nat), Agr 42 [(0, va), (1, vb), (5, s), (6, .int .i64 ((c : Nat) : Int)), (11, .int .i64 (↑(dg m).length)), (12, .int .i64 ↑k)] aa ∧ Chg w.heap.size ws3.heap.size ws3 w' ∧ Own w' w.heap.size w'.heap.size s intT os.length 1 (os.map (Value.int .i64)) ∧ (mm = (dg m).length - k) ∧ (os.length = k) ∧ (Lm os) ∧ (c ≤ 1) ∧ (k ≤ (dg m).length) ∧ (vl ((dg m).take k) + Bs ^ k * c = vl (os) + vl ((dg n).take k))) (_) (fun a ha => ⟨0, s3, [], 0, ha.sub (Sub.c 0 rfl (.c 1 rfl (.c 5 rfl (.c 6 (look_int (t := 6) rfl (by first | omega | simp)) (.c 11 (look_int (t := 11) rfl (by first | omega | simp)) (.c 12 (look_int (t := 12) rfl (by first | omega | simp)) .nil)))))), Chg.refl _ _ _, (fs3.mono (by omega) (by omega)), rfl, by simp, Lm.nil, by omega, by omega, by simp [vl]⟩) ?_
 rintro mm aa wl8 ⟨k, s, os, c, hAwl8, cwl8, hs_s, hm, hos, hlm, hc, hk, hv⟩
 refine (show cw Tryd.prog 42 _ _ _ wl8 from ?_) aa hAwl8
 clear hAwl8
 have zwl8 := cwl8.size
 have am := (Lm_dg m).getD k
 have bn := (Lm_dg n).getD k
 refine sx_seq fun K9 k9 => sx_region ?_
 refine sp rfl (px_lt rfl rfl) ?_
 refine wl_nil (q_n (k9 _ _ ?_))
 refine sx_seq fun K10 k10 => ?_
 refine sx_condP rfl (fun h107 => ?_) (fun h107 => ?_)
 ·
  refine sx_skip ?_
  refine q_n (k10 _ _ ?_)
  refine sx_seq fun K11 k11 => ?_
  refine sx_block ?_
  refine sx_seq fun K12 k12 => sx_region ?_
  refine mv rfl rfl (av rfl rfl (wl_nil (q_n (k12 _ _ ?_))))
  refine sx_seq fun K13 k13 => sx_region ?_
  refine mv rfl rfl (mv rfl rfl ?_)
  have f14 := f7.chg cwl8 (by omega)
  refine sp rfl (px_index1 (j := k) rfl rfl (by omega) Tryd.underlying22 Tryd.sizeOf3 f14 (by omega)) ?_
  refine sp rfl (px_load rfl (f14.load1 (at_int (by omega)) Tryd.isAgg3)) ?_
  refine mv rfl rfl (sp rfl (px_sub rfl rfl (by omega)) ?_)
  refine av rfl rfl (wl_nil (q_n (k13 _ _ ?_)))
  refine sx_sub (Sub.c 0 rfl (.c 1 rfl (.c 5 rfl (.c 6 rfl (.c 7 rfl (.c 8 rfl (.c 11 rfl (.c 12 rfl .nil)))))))) ?_
  refine sx_seq fun K15 k15 => ?_
  refine sx_seq fun K16 k16 => sx_region ?_
  refine mv rfl rfl (mv rfl rfl ?_)
  have f17 := hvb0.ext cs3
  have f18 := f17.chg cwl8 (by omega)
  refine sp rfl (px_len rfl Tryd.underlying22 f18) ?_
  refine sp rfl (px_lt rfl rfl) ?_
  refine wl_nil (q_n (k16 _ _ ?_))
  refine sx_condP rfl (fun h109 => ?_) (fun h109 => ?_)
  ·
   refine sx_region ?_
   refine mv rfl rfl (mv rfl rfl (mv rfl rfl (sp rfl (px_index1 (j := k) rfl rfl (by omega) Tryd.underlying22 Tryd.sizeOf3 f18 (by omega)) ?_)))
   refine sp rfl (px_load rfl (f18.load1 (at_int (by omega)) Tryd.isAgg3)) ?_
   refine sp rfl (px_sub rfl rfl (by omega)) ?_
   refine av rfl rfl (wl_nil (q_n (k15 _ _ ?_)))
   refine sx_sub (Sub.c 0 rfl (.c 1 rfl (.c 5 rfl (.c 6 rfl (.c 8 rfl (.c 11 rfl (.c 12 rfl .nil))))))) ?_
   refine sx_seq fun K19 k19 => sx_region ?_
   refine av rfl rfl (wl_nil (q_n (k19 _ _ ?_)))
   refine sx_seq fun K20 k20 => ?_
   refine sx_seq fun K21 k21 => sx_region ?_
   refine mv rfl rfl (sp rfl (px_lt rfl rfl) ?_)
   refine wl_nil (q_n (k21 _ _ ?_))
   refine sx_condP rfl (fun h113 => ?_) (fun h113 => ?_)
   ·
    refine sx_seq fun K22 k22 => sx_region ?_
    refine mv rfl rfl (sp rfl (px_add rfl rfl (by omega)) ?_)
    refine av rfl rfl (wl_nil (q_n (k22 _ _ ?_)))
    refine sx_region ?_
    refine av rfl rfl (wl_nil (q_n (k20 _ _ ?_)))
    refine sx_region ?_
    refine mv rfl rfl (mv rfl rfl ?_)
    refine sx_lit1 rfl xelt22 rfl rfl (fun s23 ws23 ss23 fs23 cs23 => ?_)
    have ns23 := Own.norm (f := (Value.int .i64)) (zs := [((((dg m).getD k 0) - ((c : Nat) : Int)) - ((dg n).getD k 0)) + 1000000000]) fs23
    have zws23 := cs23.size
    have f25 := hs_s.ext cs23
    refine sx_append rfl xelt22 rfl rfl f25 ns23.sv one_int (by omega) (by simp only [List.length_cons, List.length_nil]; omega) (by unfold maxLen; simp only [List.length_cons, List.length_nil]; omega) (fun a24 w24 fw24 cw24 => ?_)
    have nw24 := Own.app (f := (Value.int .i64)) (a := os) (b := [((((dg m).getD k 0) - ((c : Nat) : Int)) - ((dg n).getD k 0)) + 1000000000]) fw24
    have zw24 := cw24.size
    refine av rfl rfl (wl_nil ?_)
    refine q_bn (q_n (k11 _ _ ?_))
    refine sx_sub (Sub.c 0 rfl (.c 1 rfl (.c 5 rfl (.c 6 rfl (.c 11 rfl (.c 12 rfl .nil)))))) ?_
    refine sx_region ?_
    refine sp rfl (px_add rfl rfl (by omega)) ?_
    refine mv rfl rfl (wl_nil ?_)
    have q26 := Chg.step (l := w.heap.size) (h := ws3.heap.size) cwl8 cs23 (by omega)
    have q27 := Chg.step (l := w.heap.size) (h := ws3.heap.size) q26 cw24 (by omega)
    have hs : ((dg m).getD k 0).toNat + Bs * 1 = ((dg n).getD k 0).toNat + c + ((((((dg m).getD k 0) - ((c : Nat) : Int)) - ((dg n).getD k 0)) + 1000000000) : Int).toNat := by simp only [Bs]; omega
    have hv2 : vl ((dg m).take (k + 1)) + Bs ^ (k + 1) * 1 = vl (os ++ [(((((dg m).getD k 0) - ((c : Nat) : Int)) - ((dg n).getD k 0)) + 1000000000)]) + vl ((dg n).take (k + 1)) := by
     rw [vl_concat, hos, vl_take_succ', vl_take_succ', Nat.pow_succ]
     exact sub_step hs hv
    exact fun a ha => ⟨_, by omega, (k + 1), a24, (os ++ ([((((dg m).getD k 0) - ((c : Nat) : Int)) - ((dg n).getD k 0)) + 1000000000])), 1, ha.sub (Sub.c 0 rfl (.c 1 rfl (.c 5 rfl (.c 6 (look_int (t := 6) rfl (by first | omega | simp)) (.c 11 rfl (.c 12 (look_int (t := 12) rfl (by first | omega | simp)) .nil)))))), q27, (nw24.mono (by omega) (by omega)), rfl, by simp [hos], hlm.append (Lm.single (by omega) (by omega)), by omega, by omega, hv2⟩
   refine sx_skip ?_
   refine q_n (k20 _ _ ?_)
   refine sx_region ?_
   refine mv rfl rfl (mv rfl rfl ?_)
   refine sx_lit1 rfl xelt22 rfl rfl (fun s28 ws28 ss28 fs28 cs28 => ?_)
   have ns28 := Own.norm (f := (Value.int .i64)) (zs := [(((dg m).getD k 0) - ((c : Nat) : Int)) - ((dg n).getD k 0)]) fs28
   have zws28 := cs28.size
   have f30 := hs_s.ext cs28
   refine sx_append rfl xelt22 rfl rfl f30 ns28.sv one_int (by omega) (by simp only [List.length_cons, List.length_nil]; omega) (by unfold maxLen; simp only [List.length_cons, List.length_nil]; omega) (fun a29 w29 fw29 cw29 => ?_)
   have nw29 := Own.app (f := (Value.int .i64)) (a := os) (b := [(((dg m).getD k 0) - ((c : Nat) : Int)) - ((dg n).getD k 0)]) fw29
   have zw29 := cw29.size
   refine av rfl rfl (wl_nil ?_)
   refine q_bn (q_n (k11 _ _ ?_))
   refine sx_region ?_
   refine sp rfl (px_add rfl rfl (by omega)) ?_
   refine mv rfl rfl (wl_nil ?_)
   have q31 := Chg.step (l := w.heap.size) (h := ws3.heap.size) cwl8 cs28 (by omega)
   have q32 := Chg.step (l := w.heap.size) (h := ws3.heap.size) q31 cw29 (by omega)
   have hs : ((dg m).getD k 0).toNat + Bs * 0 = ((dg n).getD k 0).toNat + c + (((((dg m).getD k 0) - ((c : Nat) : Int)) - ((dg n).getD k 0)) : Int).toNat := by simp only [Bs]; omega
   have hv2 : vl ((dg m).take (k + 1)) + Bs ^ (k + 1) * 0 = vl (os ++ [((((dg m).getD k 0) - ((c : Nat) : Int)) - ((dg n).getD k 0))]) + vl ((dg n).take (k + 1)) := by
    rw [vl_concat, hos, vl_take_succ', vl_take_succ', Nat.pow_succ]
    exact sub_step hs hv
   exact fun a ha => ⟨_, by omega, (k + 1), a29, (os ++ ([(((dg m).getD k 0) - ((c : Nat) : Int)) - ((dg n).getD k 0)])), 0, ha.sub (Sub.c 0 rfl (.c 1 rfl (.c 5 rfl (.c 6 (look_int (t := 6) rfl (by first | omega | simp)) (.c 11 rfl (.c 12 (look_int (t := 12) rfl (by first | omega | simp)) .nil)))))), q32, (nw29.mono (by omega) (by omega)), rfl, by simp [hos], hlm.append (Lm.single (by omega) (by omega)), by omega, by omega, hv2⟩
  have gn := getD_ge (zs := dg n) (k := k) (by omega)
  refine sx_skip ?_
  refine q_n (k15 _ _ ?_)
  refine sx_seq fun K33 k33 => sx_region ?_
  refine av rfl rfl (wl_nil (q_n (k33 _ _ ?_)))
  refine sx_seq fun K34 k34 => ?_
  refine sx_seq fun K35 k35 => sx_region ?_
  refine mv rfl rfl (sp rfl (px_lt rfl rfl) ?_)
  refine wl_nil (q_n (k35 _ _ ?_))
  refine sx_condP rfl (fun h113 => ?_) (fun h113 => ?_)
  ·
   refine sx_seq fun K36 k36 => sx_region ?_
   refine mv rfl rfl (sp rfl (px_add rfl rfl (by omega)) ?_)
   refine av rfl rfl (wl_nil (q_n (k36 _ _ ?_)))
   refine sx_sub (Sub.c 0 rfl (.c 1 rfl (.c 5 rfl (.c 6 rfl (.c 8 rfl (.c 11 rfl (.c 12 rfl .nil))))))) ?_
   refine sx_region ?_
   refine av rfl rfl (wl_nil (q_n (k34 _ _ ?_)))
   refine sx_region ?_
   refine mv rfl rfl (mv rfl rfl ?_)
   refine sx_lit1 rfl xelt22 rfl rfl (fun s37 ws37 ss37 fs37 cs37 => ?_)
   have ns37 := Own.norm (f := (Value.int .i64)) (zs := [(((dg m).getD k 0) - ((c : Nat) : Int)) + 1000000000]) fs37
   have zws37 := cs37.size
   have f39 := hs_s.ext cs37
   refine sx_append rfl xelt22 rfl rfl f39 ns37.sv one_int (by omega) (by simp only [List.length_cons, List.length_nil]; omega) (by unfold maxLen; simp only [List.length_cons, List.length_nil]; omega) (fun a38 w38 fw38 cw38 => ?_)
   have nw38 := Own.app (f := (Value.int .i64)) (a := os) (b := [(((dg m).getD k 0) - ((c : Nat) : Int)) + 1000000000]) fw38
   have zw38 := cw38.size
   refine av rfl rfl (wl_nil ?_)
   refine q_bn (q_n (k11 _ _ ?_))
   refine sx_region ?_
   refine sp rfl (px_add rfl rfl (by omega)) ?_
   refine mv rfl rfl (wl_nil ?_)
   have q40 := Chg.step (l := w.heap.size) (h := ws3.heap.size) cwl8 cs37 (by omega)
   have q41 := Chg.step (l := w.heap.size) (h := ws3.heap.size) q40 cw38 (by omega)
   have hs : ((dg m).getD k 0).toNat + Bs * 1 = ((dg n).getD k 0).toNat + c + (((((dg m).getD k 0) - ((c : Nat) : Int)) + 1000000000) : Int).toNat := by simp only [Bs]; omega
   have hv2 : vl ((dg m).take (k + 1)) + Bs ^ (k + 1) * 1 = vl (os ++ [((((dg m).getD k 0) - ((c : Nat) : Int)) + 1000000000)]) + vl ((dg n).take (k + 1)) := by
    rw [vl_concat, hos, vl_take_succ', vl_take_succ', Nat.pow_succ]
    exact sub_step hs hv
   exact fun a ha => ⟨_, by omega, (k + 1), a38, (os ++ ([(((dg m).getD k 0) - ((c : Nat) : Int)) + 1000000000])), 1, ha.sub (Sub.c 0 rfl (.c 1 rfl (.c 5 rfl (.c 6 (look_int (t := 6) rfl (by first | omega | simp)) (.c 11 rfl (.c 12 (look_int (t := 12) rfl (by first | omega | simp)) .nil)))))), q41, (nw38.mono (by omega) (by omega)), rfl, by simp [hos], hlm.append (Lm.single (by omega) (by omega)), by omega, by omega, hv2⟩
  refine sx_skip ?_
  refine q_n (k34 _ _ ?_)
  refine sx_region ?_
  refine mv rfl rfl (mv rfl rfl ?_)
  refine sx_lit1 rfl xelt22 rfl rfl (fun s42 ws42 ss42 fs42 cs42 => ?_)
  have ns42 := Own.norm (f := (Value.int .i64)) (zs := [((dg m).getD k 0) - ((c : Nat) : Int)]) fs42
  have zws42 := cs42.size
  have f44 := hs_s.ext cs42
  refine sx_append rfl xelt22 rfl rfl f44 ns42.sv one_int (by omega) (by simp only [List.length_cons, List.length_nil]; omega) (by unfold maxLen; simp only [List.length_cons, List.length_nil]; omega) (fun a43 w43 fw43 cw43 => ?_)
  have nw43 := Own.app (f := (Value.int .i64)) (a := os) (b := [((dg m).getD k 0) - ((c : Nat) : Int)]) fw43
  have zw43 := cw43.size
  refine av rfl rfl (wl_nil ?_)
  refine q_bn (q_n (k11 _ _ ?_))
  refine sx_sub (Sub.c 0 rfl (.c 1 rfl (.c 5 rfl (.c 6 rfl (.c 11 rfl (.c 12 rfl .nil)))))) ?_
  refine sx_region ?_
  refine sp rfl (px_add rfl rfl (by omega)) ?_
  refine mv rfl rfl (wl_nil ?_)
  have q45 := Chg.step (l := w.heap.size) (h := ws3.heap.size) cwl8 cs42 (by omega)
  have q46 := Chg.step (l := w.heap.size) (h := ws3.heap.size) q45 cw43 (by omega)
  have hs : ((dg m).getD k 0).toNat + Bs * 0 = ((dg n).getD k 0).toNat + c + ((((dg m).getD k 0) - ((c : Nat) : Int)) : Int).toNat := by simp only [Bs]; omega
  have hv2 : vl ((dg m).take (k + 1)) + Bs ^ (k + 1) * 0 = vl (os ++ [(((dg m).getD k 0) - ((c : Nat) : Int))]) + vl ((dg n).take (k + 1)) := by
   rw [vl_concat, hos, vl_take_succ', vl_take_succ', Nat.pow_succ]
   exact sub_step hs hv
  exact fun a ha => ⟨_, by omega, (k + 1), a43, (os ++ ([((dg m).getD k 0) - ((c : Nat) : Int)])), 0, ha.sub (Sub.c 0 rfl (.c 1 rfl (.c 5 rfl (.c 6 (look_int (t := 6) rfl (by first | omega | simp)) (.c 11 rfl (.c 12 (look_int (t := 12) rfl (by first | omega | simp)) .nil)))))), q46, (nw43.mono (by omega) (by omega)), rfl, by simp [hos], hlm.append (Lm.single (by omega) (by omega)), by omega, by omega, hv2⟩
 refine sx_exit ?_
 refine q_e (q_e (q_bx (q_n (k5 _ _ ?_))))
 refine sx_seq fun K47 k47 => ?_
 have ek : k = (dg m).length := by omega
 have hnm := len_le hle
 rw [ek, List.take_length, vl_dg, vl_take_ge (show (dg n).length ≤ (dg m).length from hnm), vl_dg] at hv
 have hend := sub_end hv hle (by have h9 := vl_lt hlm; rw [hos, ek] at h9; exact h9) hc
 have hvv := hend.2
 have hz := hlm
 refine sx_region ?_
 refine mv rfl rfl (sx_call rfl rfl Tryd.call43 (c_l02Trim hs_s (by assumption) (by first | omega | (simp only [List.length_append, List.length_set, List.length_replicate, List.length_cons, List.length_nil] at *; omega))) (fun v48 w48 p48 => ?_))
 obtain ⟨s48, rfl, os_48, c48⟩ := p48
 have zw48 := c48.size
 refine av rfl rfl (wl_nil (q_n (k47 _ _ ?_)))
 refine sx_retc ?_
 refine sx_ret1 Tryd.results50 rfl ?_
 have hr := Own.sv os_48
 rw [hvv] at hr
 have q49 := Chg.step (l := 0) (h := 0) (Chg.zero (l := 0) (h := 0) cs3) cwl8 (by omega)
 have q50 := Chg.step (l := 0) (h := 0) q49 c48 (by omega)
 exact ⟨_, rfl, hr.mono (by omega) (by omega), q50⟩

theorem c_l03Div {w : World} {va : Value} {lva uva : Nat} {m : Nat} {vb : Value} {lvb uvb : Nat} {n : Nat} (hva : Sl w lva uva va (dg m)) (hvb : Sl w lvb uvb vb (dg n)) (hbm : (dg m).length ≤ 400) (hbn : (dg n).length ≤ 400) (hn0 : 0 < n) :
  Ret Tryd.prog 45 [va, vb] w fun v w' => ∃ s t, v = .tuple #[s, t] ∧ Sl w' (w.heap.size) (w'.heap.size) s (dg (m / n)) ∧ Sl w' (w.heap.size) (w'.heap.size) t (dg (m % n)) ∧ Chg 0 0 w w' := by
 have hva0 := hva.fit
 have hvb0 := hvb.fit
 refine sx_enter Tryd.func45 rfl Tryd.ntmps45 (nbl rfl) ?_
 refine sx_seq fun K1 k1 => sx_region ?_
 refine av rfl rfl (av rfl rfl (wl_nil (q_n (k1 _ _ ?_))))
 refine sx_seq fun K2 k2 => ?_
 refine sx_seq fun K3 k3 => sx_region ?_
 refine mv rfl rfl (sp rfl (px_len rfl Tryd.underlying22 hvb0) ?_)
 refine sp rfl (px_eq rfl rfl) ?_
 refine wl_nil (q_n (k3 _ _ ?_))
 refine sx_condP rfl (fun h33 => ?_) (fun h33 => ?_)
 ·
  refine sx_seq fun K4 k4 => sx_region ?_
  refine mv rfl rfl (mv rfl rfl (sp rfl (px_index1 (j := 0) rfl rfl (by omega) Tryd.underlying22 Tryd.sizeOf3 hvb0 (by omega)) ?_))
  refine sp rfl (px_load rfl (hvb0.load1 (at_int (by omega)) Tryd.isAgg3)) ?_
  refine sx_call rfl rfl Tryd.call47 (c_l03Small hva0 (by omega) (by have h9 := one_limb (n := n) (by omega); omega)) (fun v5 w5 p5 => ?_)
  obtain ⟨s5, rfl, os_5, c5⟩ := p5
  have zw5 := c5.size
  refine mv rfl rfl (sp rfl (px_ex2 rfl rfl) ?_)
  refine sp rfl (px_ex2 rfl rfl) ?_
  refine av rfl rfl (av rfl rfl (wl_nil (q_n (k4 _ _ ?_))))
  refine sx_sub (Sub.c 0 rfl (.c 1 rfl (.c 4 rfl (.c 5 rfl (.c 6 rfl (.c 7 rfl .nil)))))) ?_
  refine sx_seq fun K6 k6 => sx_region ?_
  refine mv rfl rfl (mv rfl rfl (sx_call rfl rfl Tryd.call38 (c_sNatOf (by have h9 := one_limb (n := n) (by omega); have h8 := Nat.mod_lt m (show 0 < ((dg n).getD 0 0).toNat by omega); omega)) (fun v7 w7 p7 => ?_)))
  obtain ⟨s7, rfl, os_7, c7⟩ := p7
  have zw7 := c7.size
  refine av rfl rfl (av rfl rfl (wl_nil (q_n (k6 _ _ ?_))))
  refine sx_retc ?_
  refine q_r (sx_ret2 Tryd.results45 rfl rfl ?_)
  have e1 := (one_limb (n := n) (by omega)).1
  have f8 := os_5.ext c7
  have r1 := f8
  have r2 := os_7
  rw [Int.toNat_natCast] at r2
  rw [e1] at r1 r2
  exact ⟨_, _, rfl, r1.sv.mono (by omega) (by omega), r2.sv.mono (by omega) (by omega), (c5.t c7)⟩
 refine sx_skip ?_
 refine q_n (k2 _ _ ?_)
 refine sx_seq fun K9 k9 => sx_region ?_
 refine mv rfl rfl (sp rfl (px_len rfl Tryd.underlying22 hva0) ?_)
 refine sx_make (c := (dg m).length) rfl xelt22 (rfl) (rfl) (by omega) (by unfold maxLen; omega) (fun s10 ws10 fs10 cs10 ls10 => ?_)
 have ns10 := fs10.made
 have zws10 := cs10.size
 refine av rfl rfl (wl_nil (q_n (k9 _ _ ?_)))
 refine sx_seq fun K11 k11 => sx_region ?_
 refine sx_lit0 rfl xelt22 (fun s12 ws12 ss12 fs12 cs12 => ?_)
 have zws12 := cs12.size
 refine av rfl rfl (wl_nil (q_n (k11 _ _ ?_)))
 refine sx_seq fun K13 k13 => ?_
 refine sx_seq fun K14 k14 => sx_region ?_
 refine mv rfl rfl ?_
 have f15 := hva0.ext cs10
 have f16 := f15.ext cs12
 refine sp rfl (px_len rfl Tryd.underlying22 f16) ?_
 refine sp rfl (px_sub rfl rfl (by omega)) ?_
 refine av rfl rfl (wl_nil (q_n (k14 _ _ ?_)))
 refine sx_sub (Sub.c 0 rfl (.c 1 rfl (.c 4 rfl (.c 5 rfl (.c 8 rfl (.c 9 rfl (.c 10 rfl .nil))))))) ?_
 refine sx_block ?_
 have f18 := ns10.ext cs12
 refine sx_loop (fun mm aa w' => ∃ (k : Nat) (os : List Int) (rs : Value) (R : Nat), Agr 65 [(0, va), (1, vb), (8, s10), (9, rs), (10, .int .i64 (↑k - 1))] aa ∧ Chg w.heap.size ws10.heap.size ws12 w' ∧ Own w' w.heap.size ws10.heap.size s10 intT os.length 1 (os.map (Value.int .i64)) ∧ Sv w' ws10.heap.size w'.heap.size rs ((dg R).length) 1 ((dg R).map (Value.int .i64)) ∧ (mm = k) ∧ (k ≤ (dg m).length) ∧ (os.length = (dg m).length) ∧ (Lm os) ∧ (∀ i, i < k → os.getD i 0 = 0) ∧ (R < n) ∧ ((dg R).length ≤ (dg n).length) ∧ (vl ((dg m).drop k) = n * vl (os.drop k) + R)) (_) (fun a ha => ⟨(dg m).length, List.replicate (dg m).length 0, s12, 0, ha.sub (Sub.c 0 rfl (.c 1 rfl (.c 8 rfl (.c 9 rfl (.c 10 (look_int (t := 10) rfl (by first | omega | simp)) .nil))))), Chg.refl _ _ _, f18, (by rw [dg_zero]; exact (fs12.sv).mono (by omega) (by omega)), rfl, by omega, by simp, Lm.replicate _, zero_rep' _ _, by omega, by rw [dg_zero]; simp, by simp [vl]⟩) ?_
 rintro mm aa wl17 ⟨k, os, rs, R, hAwl17, cwl17, hs_s10, hs_rs, hm, hk, hos, hlm, hz, hR, hlR, hv⟩
 refine (show cw Tryd.prog 65 _ _ _ wl17 from ?_) aa hAwl17
 clear hAwl17
 have zwl17 := cwl17.size
 have am := (Lm_dg m).getD (k - 1)
 have hzl : Lm ([(dg m).getD (k - 1) 0] ++ dg R) := (Lm.single am.1 am.2).append (Lm_dg R)
 have eV := head_vl ((dg m).getD (k - 1) 0) R
 have lX := len_lt_mul (X := vl ([(dg m).getD (k - 1) 0] ++ dg R)) (n := n) (by omega)
 have hqq := q_limb eV (by omega) hR
 have hqn : (0 : Int) ≤ ((vl ([(dg m).getD (k - 1) 0] ++ dg R) / n : Nat) : Int) := Int.natCast_nonneg _
 have lq := len_u64 (n := ((vl ([(dg m).getD (k - 1) 0] ++ dg R) / n : Nat) : Int)) (by omega)
 have lm := len_mul n (((vl ([(dg m).getD (k - 1) 0] ++ dg R) / n : Nat) : Int)).toNat
 have hme := Nat.mul_div_le (vl ([(dg m).getD (k - 1) 0] ++ dg R)) n
 refine sx_seq fun K19 k19 => ?_
 refine sx_seq fun K20 k20 => sx_region ?_
 refine mv rfl rfl (sp rfl (px_ge rfl rfl) ?_)
 refine wl_nil (q_n (k20 _ _ ?_))
 refine sx_condP rfl (fun h39 => ?_) (fun h39 => ?_)
 ·
  refine sx_skip ?_
  refine q_n (k19 _ _ ?_)
  refine sx_seq fun K21 k21 => ?_
  refine sx_block ?_
  refine sx_seq fun K22 k22 => sx_region ?_
  refine mv rfl rfl (mv rfl rfl ?_)
  have f23 := f16.chg cwl17 (by omega)
  refine sp rfl (px_index1 (j := (k - 1)) rfl rfl (by omega) Tryd.underlying22 Tryd.sizeOf3 f23 (by omega)) ?_
  refine sp rfl (px_load rfl (f23.load1 (at_int (by omega)) Tryd.isAgg3)) ?_
  refine sx_lit1 rfl xelt22 rfl rfl (fun s24 ws24 ss24 fs24 cs24 => ?_)
  have ns24 := Own.norm (f := (Value.int .i64)) (zs := [(dg m).getD (k - 1) 0]) fs24
  have zws24 := cs24.size
  refine mv rfl rfl ?_
  have f26 := hs_rs.ext cs24
  refine sx_append rfl xelt22 rfl rfl ns24 f26 one_int (by omega) (by simp only [List.length_cons, List.length_nil]; omega) (by unfold maxLen; simp only [List.length_cons, List.length_nil]; omega) (fun a25 w25 fw25 cw25 => ?_)
  have nw25 := Own.app (f := (Value.int .i64)) (a := [(dg m).getD (k - 1) 0]) (b := dg R) fw25
  have zw25 := cw25.size
  refine sx_call rfl rfl Tryd.call43 (c_l02Trim nw25 (by assumption) (by first | omega | (simp only [List.length_append, List.length_set, List.length_replicate, List.length_cons, List.length_nil] at *; omega))) (fun v27 w27 p27 => ?_)
  obtain ⟨s27, rfl, os_27, c27⟩ := p27
  have zw27 := c27.size
  refine av rfl rfl (wl_nil (q_n (k22 _ _ ?_)))
  refine sx_sub (Sub.c 0 rfl (.c 1 rfl (.c 8 rfl (.c 9 rfl (.c 10 rfl .nil))))) ?_
  refine sx_seq fun K28 k28 => ?_
  refine sx_seq fun K29 k29 => sx_region ?_
  refine mv rfl rfl (mv rfl rfl ?_)
  have f30 := hvb0.ext cs10
  have f31 := f30.ext cs12
  have f32 := f31.chg cwl17 (by omega)
  have f33 := f32.ext cs24
  have f34 := f33.chg cw25 (by omega)
  have f35 := f34.ext c27
  refine sx_call rfl rfl Tryd.call48 (c_l02Cmp os_27.sv f35 (by omega)) (fun v36 w36 p36 => ?_)
  obtain ⟨rfl, c36⟩ := p36
  have zw36 := c36.size
  refine sp rfl (px_lt rfl rfl) ?_
  refine wl_nil (q_n (k29 _ _ ?_))
  refine sx_condP rfl (fun h41 => ?_) (fun h41 => ?_)
  ·
   rw [cmpL_dg] at h41
   have hlt := cmpN_neg.1 h41
   refine sx_exit ?_
   refine q_e (q_bx (q_n (k21 _ _ ?_)))
   refine sx_region ?_
   refine mv rfl rfl (sp rfl (px_sub rfl rfl (by omega)) ?_)
   refine av rfl rfl (wl_nil ?_)
   have q37 := Chg.step (l := w.heap.size) (h := ws10.heap.size) cwl17 cs24 (by omega)
   have q38 := Chg.step (l := w.heap.size) (h := ws10.heap.size) q37 cw25 (by omega)
   have q39 := Chg.step (l := w.heap.size) (h := ws10.heap.size) q38 (c27.t c36) (by omega)
   have f40 := hs_s10.ext cs24
   have f41 := f40.chg cw25 (by omega)
   have f43 := (f41.ext c27).ext c36
   have f44 := os_27.ext c36
   exact fun a ha => ⟨_, by omega, (k - 1), os, v27, (vl (([(dg m).getD (k - 1) 0]) ++ (dg R))), ha.sub (Sub.c 0 rfl (.c 1 rfl (.c 8 rfl (.c 9 rfl (.c 10 (look_int (t := 10) rfl (by first | omega | simp)) .nil))))), q39, (f43.mono (by omega) (by omega)), (f44.sv.mono (by omega) (by omega)), rfl, by omega, by simpa using hos, hlm, fun i hi => hz i (by omega), by omega, by have h9 := len_le (m := (vl (([(dg m).getD (k - 1) 0]) ++ (dg R)))) (n := n) (by have h8 := sub_mod (X := vl ([(dg m).getD (k - 1) 0] ++ dg R)) hn0; omega); omega, down_step (by omega) (by omega) (by omega) (hz _ (by omega)) eV hv⟩
  rw [cmpL_dg] at h41
  have hge := Nat.le_of_not_lt (mt cmpN_neg.2 h41)
  refine sx_skip ?_
  refine q_n (k28 _ _ ?_)
  refine sx_seq fun K45 k45 => sx_region ?_
  refine mv rfl rfl (mv rfl rfl ?_)
  have f46 := os_27.ext c36
  have f47 := f35.ext c36
  refine sx_call rfl rfl Tryd.call49 (c_l03Digit f46.sv f47 (by omega) (by omega) (by omega)) (fun v48 w48 p48 => ?_)
  obtain ⟨rfl, c48⟩ := p48
  have zw48 := c48.size
  refine av rfl rfl (wl_nil (q_n (k45 _ _ ?_)))
  refine sx_seq fun K49 k49 => sx_region ?_
  refine mv rfl rfl (mv rfl rfl (mv rfl rfl ?_))
  have f50 := hs_s10.ext cs24
  have f51 := f50.chg cw25 (by omega)
  have f54 := ((f51.ext c27).ext c36).ext c48
  refine sp rfl (px_index1 (j := (k - 1)) rfl rfl (by omega) Tryd.underlying22 Tryd.sizeOf3 f54.sv (by omega)) ?_
  refine sx_storeO rfl rfl f54 (by first | omega | (simp only [List.length_map]; omega)) Tryd.sizeOf3 rfl (fun w55 sw55 fw55 cw55 => ?_)
  have zw55 := cw55.size
  have nw55 := fw55.set
  refine wl_nil (q_n (k49 _ _ ?_))
  refine sx_sub (Sub.c 0 rfl (.c 1 rfl (.c 8 rfl (.c 9 rfl (.c 10 rfl (.c 11 rfl .nil)))))) ?_
  refine sx_region ?_
  refine mv rfl rfl (mv rfl rfl (mv rfl rfl (sx_call rfl rfl Tryd.call38 (c_sNatOf (by omega)) (fun v56 w56 p56 => ?_))))
  obtain ⟨s56, rfl, os_56, c56⟩ := p56
  have zw56 := c56.size
  have f58 := (f47.ext c48).chg cw55 (by omega)
  have f59 := f58.ext c56
  refine sx_call rfl rfl Tryd.call51 (c_l02Mul f59 os_56.sv (by omega) (by omega)) (fun v60 w60 p60 => ?_)
  obtain ⟨s60, rfl, os_60, c60⟩ := p60
  have zw60 := c60.size
  have f62 := (f46.ext c48).chg cw55 (by omega)
  have f64 := (f62.ext c56).ext c60
  refine sx_call rfl rfl Tryd.call50 (c_l02Sub f64.sv os_60 (by omega) (by omega) (by rw [Int.toNat_natCast]; exact hme)) (fun v65 w65 p65 => ?_)
  obtain ⟨s65, rfl, os_65, c65⟩ := p65
  have zw65 := c65.size
  refine av rfl rfl (wl_nil ?_)
  refine q_bn (q_n (k21 _ _ ?_))
  refine sx_region ?_
  refine mv rfl rfl (sp rfl (px_sub rfl rfl (by omega)) ?_)
  refine av rfl rfl (wl_nil ?_)
  have q66 := Chg.step (l := w.heap.size) (h := ws10.heap.size) cwl17 cs24 (by omega)
  have q67 := Chg.step (l := w.heap.size) (h := ws10.heap.size) q66 cw25 (by omega)
  have q68 := Chg.step (l := w.heap.size) (h := ws10.heap.size) q67 ((c27.t c36).t c48) (by omega)
  have q69 := Chg.step (l := w.heap.size) (h := ws10.heap.size) q68 cw55 (by omega)
  have q70 := Chg.step (l := w.heap.size) (h := ws10.heap.size) q69 ((c56.t c60).t c65) (by omega)
  have f73 := ((nw55.ext c56).ext c60).ext c65
  exact fun a ha => ⟨_, by omega, (k - 1), ((os).set (k - 1) (((vl (([(dg m).getD (k - 1) 0]) ++ (dg R))) / n : Nat) : Int)), v65, ((vl (([(dg m).getD (k - 1) 0]) ++ (dg R))) - (n * (((((vl (([(dg m).getD (k - 1) 0]) ++ (dg R))) / n : Nat) : Int)).toNat))), ha.sub (Sub.c 0 rfl (.c 1 rfl (.c 8 rfl (.c 9 rfl (.c 10 (look_int (t := 10) rfl (by first | omega | simp)) .nil))))), q70, (f73.mono (by omega) (by omega)), (os_65.mono (by omega) (by omega)), rfl, by omega, by simpa using hos, hlm.set _ (by omega) (by omega), zero_below hz, sub_mod hn0, by have h9 := len_le (m := ((vl (([(dg m).getD (k - 1) 0]) ++ (dg R))) - (n * (((((vl (([(dg m).getD (k - 1) 0]) ++ (dg R))) / n : Nat) : Int)).toNat)))) (n := n) (by have h8 := sub_mod (X := vl ([(dg m).getD (k - 1) 0] ++ dg R)) hn0; omega); omega, div_step (by omega) (by omega) (by omega) eV hn0 hv⟩
 refine sx_exit ?_
 refine q_e (q_e (q_bx (q_n (k13 _ _ ?_))))
 refine sx_seq fun K74 k74 => sx_region ?_
 refine mv rfl rfl (sx_call rfl rfl Tryd.call43 (c_l02Trim hs_s10 (by assumption) (by first | omega | (simp only [List.length_append, List.length_set, List.length_replicate, List.length_cons, List.length_nil] at *; omega))) (fun v75 w75 p75 => ?_))
 obtain ⟨s75, rfl, os_75, c75⟩ := p75
 have zw75 := c75.size
 refine mv rfl rfl (av rfl rfl (av rfl rfl (wl_nil (q_n (k74 _ _ ?_)))))
 refine sx_retc ?_
 refine sx_ret2 Tryd.results45 rfl rfl ?_
 have e0 : k = 0 := by omega
 subst e0
 have he := div_end (m := m) (d := n) (v := vl os) (r := R) (by rw [List.drop_zero, List.drop_zero, vl_dg] at hv; exact hv) hR
 have r1 := os_75
 have f76 := hs_rs.ext c75
 have r2 := f76
 rw [he.1] at r1
 rw [he.2] at r2
 have q77 := Chg.step (l := 0) (h := 0) (Chg.zero (l := 0) (h := 0) (cs10.t cs12)) cwl17 (by omega)
 have q78 := Chg.step (l := 0) (h := 0) q77 c75 (by omega)
 exact ⟨_, _, rfl, r1.sv.mono (by omega) (by omega), r2.mono (by omega) (by omega), q78⟩

theorem c_l05Gcd {w : World} {va : Value} {lva uva : Nat} {m : Nat} {vb : Value} {lvb uvb : Nat} {n : Nat} (hva : Sl w lva uva va (dg m)) (hvb : Sl w lvb uvb vb (dg n)) (hbm : (dg m).length ≤ 400) (hbn : (dg n).length ≤ 400) :
  Ret Tryd.prog 44 [va, vb] w fun v w' => ∃ s, v = s ∧ Sl w' (0) (w'.heap.size) s (dg (Nat.gcd m n)) ∧ Chg 0 0 w w' := by
 have hva0 := hva.fit
 have hvb0 := hvb.fit
 refine sx_enter Tryd.func44 rfl Tryd.ntmps44 (nbl rfl) ?_
 refine sx_seq fun K1 k1 => sx_region ?_
 refine av rfl rfl (wl_nil (q_n (k1 _ _ ?_)))
 refine sx_seq fun K2 k2 => sx_region ?_
 refine mv rfl rfl (av rfl rfl (wl_nil (q_n (k2 _ _ ?_))))
 refine sx_seq fun K3 k3 => sx_region ?_
 refine mv rfl rfl (av rfl rfl (wl_nil (q_n (k3 _ _ ?_))))
 refine sx_seq fun K4 k4 => ?_
 refine sx_block ?_
 refine sx_loop (fun mm aa w' => ∃ (xa : Value) (xb : Value) (m2 : Nat) (n2 : Nat), Agr 23 [(5, xa), (6, xb)] aa ∧ Chg 0 0 w w' ∧ Sv w' 0 w'.heap.size xa ((dg m2).length) 1 ((dg m2).map (Value.int .i64)) ∧ Sv w' 0 w'.heap.size xb ((dg n2).length) 1 ((dg n2).map (Value.int .i64)) ∧ (mm = n2) ∧ (Nat.gcd m2 n2 = Nat.gcd m n) ∧ ((dg m2).length ≤ 400 ∧ (dg n2).length ≤ 400)) (_) (fun a ha => ⟨va, vb, m, n, ha.sub (Sub.c 5 rfl (.c 6 rfl .nil)), Chg.refl _ _ _, (hva0.mono (by omega) (by omega)), (hvb0.mono (by omega) (by omega)), rfl, rfl, by omega⟩) ?_
 rintro mm aa wl5 ⟨xa, xb, m2, n2, hAwl5, cwl5, hs_xa, hs_xb, hm, hg, hl2⟩
 refine (show cw Tryd.prog 23 _ _ _ wl5 from ?_) aa hAwl5
 clear hAwl5
 have zwl5 := cwl5.size
 refine sx_seq fun K6 k6 => ?_
 refine sx_seq fun K7 k7 => sx_region ?_
 refine mv rfl rfl (sp rfl (px_len rfl Tryd.underlying22 hs_xb) ?_)
 refine sp rfl (px_gt rfl rfl) ?_
 refine wl_nil (q_n (k7 _ _ ?_))
 refine sx_condP rfl (fun h32 => ?_) (fun h32 => ?_)
 ·
  have hn0 : 0 < n2 := len_pos.1 (by omega)
  refine sx_skip ?_
  refine q_n (k6 _ _ ?_)
  refine sx_block ?_
  refine sx_seq fun K8 k8 => sx_region ?_
  refine mv rfl rfl (mv rfl rfl (sx_call rfl rfl Tryd.call45 (c_l03Div hs_xa hs_xb (by omega) (by omega) (by omega)) (fun v9 w9 p9 => ?_)))
  obtain ⟨s9, t9, rfl, os_9, ot_9, c9⟩ := p9
  have zw9 := c9.size
  refine mv rfl rfl (sp rfl (px_ex2 rfl rfl) ?_)
  refine sp rfl (px_ex2 rfl rfl) ?_
  refine av rfl rfl (av rfl rfl (wl_nil (q_n (k8 _ _ ?_))))
  refine sx_seq fun K10 k10 => sx_region ?_
  refine mv rfl rfl (av rfl rfl (wl_nil (q_n (k10 _ _ ?_))))
  refine sx_region ?_
  refine mv rfl rfl (av rfl rfl (wl_nil ?_))
  have f11 := hs_xb.ext c9
  have hml := Nat.mod_lt m2 hn0
  have hll := len_mod (m := m2) hn0
  exact q_bn (fun a ha => ⟨_, by omega, xb, t9, n2, (m2 % n2), ha.sub (Sub.c 5 rfl (.c 6 rfl .nil)), (cwl5.t c9), (f11.mono (by omega) (by omega)), (ot_9.mono (by omega) (by omega)), rfl, gcd_next.trans hg, by omega⟩)
 refine sx_exit ?_
 refine q_e (q_e (q_bx (q_n (k4 _ _ ?_))))
 refine sx_seq fun K12 k12 => sx_region ?_
 refine mv rfl rfl (av rfl rfl (wl_nil (q_n (k12 _ _ ?_))))
 refine sx_retc ?_
 refine sx_ret1 Tryd.results44 rfl ?_
 have e0 : n2 = 0 := len_zero.1 (by omega)
 subst e0
 rw [Nat.gcd_zero_right] at hg
 rw [← hg]
 exact ⟨_, rfl, (Sv.mono hs_xa (by omega) (by omega)), cwl5⟩

theorem c_l05Low {w : World} {n : Bool} {va : Value} {lva uva : Nat} {m : Nat} {vb : Value} {lvb uvb : Nat} {d : Nat} (hva : Sl w lva uva va (dg m)) (hvb : Sl w lvb uvb vb (dg d)) (hbm : (dg m).length ≤ 400) (hbd : (dg d).length ≤ 400) :
  Ret Tryd.prog 36 [.bool n, va, vb] w fun v w' => ∃ s t ls us lt ut, v = .tuple #[.agg #[.bool ((rR (sgI n m) d).1), s, t], .bool ((rR (sgI n m) d).2.2.2)] ∧ OwnI w' (ls) (us) s intT ((rR (sgI n m) d).2.1) ∧ OwnI w' (lt) (ut) t intT ((rR (sgI n m) d).2.2.1) ∧ (w.heap.size ≤ ls ∧ us ≤ w'.heap.size ∧ w.heap.size ≤ lt ∧ ut ≤ w'.heap.size ∧ (us ≤ lt ∨ ut ≤ ls)) ∧ ((rR (sgI n m) d).2.1.length ≤ 18 ∧ (rR (sgI n m) d).2.2.1.length ≤ 18) ∧ Chg 0 0 w w' := by
 have hva0 := hva.fit
 have hvb0 := hvb.fit
 refine sx_enter Tryd.func36 rfl Tryd.ntmps36 (nbl rfl) ?_
 refine sx_seq fun K1 k1 => sx_region ?_
 refine sx_alloc [.bool false, (.slice none 0 0), (.slice none 0 0)] rfl Tryd.zeroValue30 rfl (fun b2 w3 eb2 sb2 fb2 cb2 => ?_)
 have zw3 := cb2.size
 refine av rfl rfl (wl_nil (q_n (k1 _ _ ?_)))
 refine sx_seq fun K4 k4 => sx_region ?_
 refine mv rfl rfl ?_
 have f5 := hva0.ext cb2
 refine sx_call rfl rfl Tryd.call43 (c_l02TrimD f5 (by omega)) (fun v6 w6 p6 => ?_)
 obtain ⟨s6, rfl, os_6, c6⟩ := p6
 have zw6 := c6.size
 refine av rfl rfl (wl_nil (q_n (k4 _ _ ?_)))
 refine sx_seq fun K7 k7 => sx_region ?_
 refine mv rfl rfl ?_
 have f8 := hvb0.ext cb2
 have f9 := f8.ext c6
 refine sx_call rfl rfl Tryd.call43 (c_l02TrimD f9 (by omega)) (fun v10 w10 p10 => ?_)
 obtain ⟨s10, rfl, os_10, c10⟩ := p10
 have zw10 := c10.size
 refine av rfl rfl (wl_nil (q_n (k7 _ _ ?_)))
 refine sx_seq fun K11 k11 => ?_
 refine sx_seq fun K12 k12 => sx_region ?_
 refine mv rfl rfl (sp rfl (px_len rfl Tryd.underlying22 os_10) ?_)
 refine sp rfl (px_eq rfl rfl) ?_
 refine wl_nil (q_n (k12 _ _ ?_))
 refine sx_condP rfl (fun h17 => ?_) (fun h17 => ?_)
 ·
  refine sx_seq fun K13 k13 => sx_region ?_
  refine sp rfl (px_build rfl (xbld30x  _)) ?_
  have f16 := (fb2.ext c6).ext c10
  refine sx_store (vs := [.bool false, (.slice none 0 0), (.slice none 0 0)]) rfl rfl f16 rfl Tryd.sizeOf30 (nbl rfl) (o3 rfl rfl rfl) (fun w14 sw14 fw14 cw14 => ?_)
  have zw14 := cw14.size
  have gw14 : Blk w14 b2 [.bool false, (.slice none 0 0), (.slice none 0 0)] 30 := fw14
  refine av rfl rfl (wl_nil (q_n (k13 _ _ ?_)))
  refine sx_sub (Sub.c 0 rfl (.c 6 rfl (.c 7 rfl (.c 8 rfl (.c 9 rfl .nil))))) ?_
  refine sx_retc ?_
  refine q_r (sx_ret2 Tryd.results36 ⟨_, rfl, gw14.loadA (vs := [.bool false, (.slice none 0 0), (.slice none 0 0)]) (look_lit rfl) Tryd.isAgg30 Tryd.sizeOf30⟩ rfl ?_)
  rw [rR_zero (len_zero.1 (by omega))]
  have q17 := Chg.step (l := 0) (h := 0) (Chg.zero (l := 0) (h := 0) ((cb2.t c6).t c10)) cw14 (by omega)
  exact ⟨_, _, w.heap.size, w.heap.size, w.heap.size, w.heap.size, rfl, Own.nil _ _ _ _ _, Own.nil _ _ _ _ _, by omega, ⟨by simp [noR], by simp [noR]⟩, q17⟩
 have hd0 : 0 < d := len_pos.1 (by omega)
 have hgp := gcd_pos_r (m := m) hd0
 have lg := gcd_le_left (m := m) (n := d) (k := max (dg m).length (dg d).length) (by omega) (by omega)
 have lq1 := len_div m (Nat.gcd m d)
 have lq2 := len_div d (Nat.gcd m d)
 refine sx_skip ?_
 refine q_n (k11 _ _ ?_)
 refine sx_seq fun K18 k18 => sx_region ?_
 refine mv rfl rfl (mv rfl rfl ?_)
 have f19 := os_6.ext c10
 refine sx_call rfl rfl Tryd.call44 (c_l05Gcd f19 os_10 (by omega) (by omega)) (fun v20 w20 p20 => ?_)
 obtain ⟨s20, rfl, os_20, c20⟩ := p20
 have zw20 := c20.size
 refine av rfl rfl (wl_nil (q_n (k18 _ _ ?_)))
 refine sx_sub (Sub.c 0 rfl (.c 6 rfl (.c 7 rfl (.c 8 rfl (.c 9 rfl (.c 10 rfl .nil)))))) ?_
 refine sx_seq fun K21 k21 => sx_region ?_
 refine mv rfl rfl (mv rfl rfl ?_)
 have f22 := f19.ext c20
 refine sx_call rfl rfl Tryd.call45 (c_l03Div f22 os_20 (by omega) (by omega) (hgp)) (fun v23 w23 p23 => ?_)
 obtain ⟨s23, t23, rfl, os_23, ot_23, c23⟩ := p23
 have zw23 := c23.size
 refine mv rfl rfl (sp rfl (px_ex2 rfl rfl) ?_)
 refine sp rfl (px_ex2 rfl rfl) ?_
 refine av rfl rfl (av rfl rfl (wl_nil (q_n (k21 _ _ ?_))))
 refine sx_seq fun K24 k24 => sx_region ?_
 refine mv rfl rfl (mv rfl rfl ?_)
 have f26 := (os_10.ext c20).ext c23
 have f27 := os_20.ext c23
 refine sx_call rfl rfl Tryd.call45 (c_l03Div f26 f27 (by omega) (by omega) (hgp)) (fun v28 w28 p28 => ?_)
 obtain ⟨s28, t28, rfl, os_28, ot_28, c28⟩ := p28
 have zw28 := c28.size
 refine mv rfl rfl (sp rfl (px_ex2 rfl rfl) ?_)
 refine sp rfl (px_ex2 rfl rfl) ?_
 refine av rfl rfl (av rfl rfl (wl_nil (q_n (k24 _ _ ?_))))
 refine sx_sub (Sub.c 0 rfl (.c 6 rfl (.c 7 rfl (.c 11 rfl (.c 13 rfl .nil))))) ?_
 refine sx_seq fun K29 k29 => ?_
 refine sx_seq fun K30 k30 => sx_region ?_
 refine mv rfl rfl ?_
 have f31 := os_23.ext c28
 refine sp rfl (px_len rfl Tryd.underlying22 f31) ?_
 refine sp rfl (px_gt rfl rfl) ?_
 refine mv rfl rfl ?_
 refine sx_tmpP (t := 41) rfl (fun h23 => ?_) (fun h23 => ?_)
 ·
  refine sx_guardF rfl rfl rfl rfl rfl rfl ?_
  refine sx_guardF rfl rfl rfl rfl rfl rfl ?_
  refine sx_guardF rfl rfl rfl rfl rfl rfl ?_
  refine sp rfl (px_pick rfl rfl) ?_
  refine wl_nil (q_n (k30 _ _ ?_))
  refine sx_condT rfl ?_
  refine sx_seq fun K32 k32 => sx_region ?_
  refine sp rfl (px_build rfl (xbld30x  _)) ?_
  have f38 := ((((fb2.ext c6).ext c10).ext c20).ext c23).ext c28
  refine sx_store (vs := [.bool false, (.slice none 0 0), (.slice none 0 0)]) rfl rfl f38 rfl Tryd.sizeOf30 (nbl rfl) (o3 rfl rfl rfl) (fun w33 sw33 fw33 cw33 => ?_)
  have zw33 := cw33.size
  have gw33 : Blk w33 b2 [.bool false, (.slice none 0 0), (.slice none 0 0)] 30 := fw33
  refine av rfl rfl (wl_nil (q_n (k32 _ _ ?_)))
  refine sx_retc ?_
  refine q_r (sx_ret2 Tryd.results36 ⟨_, rfl, gw33.loadA (vs := [.bool false, (.slice none 0 0), (.slice none 0 0)]) (look_lit rfl) Tryd.isAgg30 Tryd.sizeOf30⟩ rfl ?_)
  rw [rR_no (fun h => by omega)]
  have q39 := Chg.step (l := 0) (h := 0) (Chg.zero (l := 0) (h := 0) (((((cb2.t c6).t c10).t c20).t c23).t c28)) cw33 (by omega)
  exact ⟨_, _, w.heap.size, w.heap.size, w.heap.size, w.heap.size, rfl, Own.nil _ _ _ _ _, Own.nil _ _ _ _ _, by omega, ⟨by simp [noR], by simp [noR]⟩, q39⟩
 refine sx_guardT rfl rfl rfl ?_
 refine mv rfl rfl ?_
 refine sx_guardT rfl rfl rfl ?_
 refine sp rfl (px_len rfl Tryd.underlying22 os_28) ?_
 refine sx_guardT rfl rfl rfl ?_
 refine sp rfl (px_gt rfl rfl) ?_
 refine sp rfl (px_pick rfl rfl) ?_
 refine wl_nil (q_n (k30 _ _ ?_))
 refine sx_condP rfl (fun h23x1 => ?_) (fun h23x1 => ?_)
 ·
  refine sx_seq fun K40 k40 => sx_region ?_
  refine sp rfl (px_build rfl (xbld30x  _)) ?_
  have f46 := ((((fb2.ext c6).ext c10).ext c20).ext c23).ext c28
  refine sx_store (vs := [.bool false, (.slice none 0 0), (.slice none 0 0)]) rfl rfl f46 rfl Tryd.sizeOf30 (nbl rfl) (o3 rfl rfl rfl) (fun w41 sw41 fw41 cw41 => ?_)
  have zw41 := cw41.size
  have gw41 : Blk w41 b2 [.bool false, (.slice none 0 0), (.slice none 0 0)] 30 := fw41
  refine av rfl rfl (wl_nil (q_n (k40 _ _ ?_)))
  refine sx_retc ?_
  refine q_r (sx_ret2 Tryd.results36 ⟨_, rfl, gw41.loadA (vs := [.bool false, (.slice none 0 0), (.slice none 0 0)]) (look_lit rfl) Tryd.isAgg30 Tryd.sizeOf30⟩ rfl ?_)
  rw [rR_no (fun h => by omega)]
  have q47 := Chg.step (l := 0) (h := 0) (Chg.zero (l := 0) (h := 0) (((((cb2.t c6).t c10).t c20).t c23).t c28)) cw41 (by omega)
  exact ⟨_, _, w.heap.size, w.heap.size, w.heap.size, w.heap.size, rfl, Own.nil _ _ _ _ _, Own.nil _ _ _ _ _, by omega, ⟨by simp [noR], by simp [noR]⟩, q47⟩
 refine sx_skip ?_
 refine q_n (k29 _ _ ?_)
 refine sx_seq fun K48 k48 => sx_region ?_
 refine mv rfl rfl (mv rfl rfl (sx_call rfl rfl Tryd.call37 (c_l04Make f31 (by omega)) (fun v49 w49 p49 => ?_)))
 obtain ⟨s49, rfl, os_49, c49⟩ := p49
 have zw49 := c49.size
 refine sx_lit0 rfl xelt22 (fun s50 ws50 ss50 fs50 cs50 => ?_)
 have zws50 := cs50.size
 refine mv rfl rfl ?_
 have f53 := (os_28.ext c49).ext cs50
 refine sx_append rfl xelt22 rfl rfl fs50 f53 one_int (by omega) (by first | omega | (simp only [List.length_nil]; omega)) (by unfold maxLen; first | omega | (simp only [List.length_nil]; omega)) (fun a51 w51 fw51 cw51 => ?_)
 have nw51 := Own.norm (f := (Value.int .i64)) (zs := dg (d / (Nat.gcd m d))) fw51
 have zw51 := cw51.size
 refine sp rfl (px_build rfl (xbld30x0x1 nw51.one _)) ?_
 have f61 := ((((((fb2.ext c6).ext c10).ext c20).ext c23).ext c28).ext c49).ext cs50
 have f62 := f61.chg cw51 (by omega)
 have f63 := os_49.ext cs50
 have f64 := f63.chg cw51 (by omega)
 refine sx_store (vs := [.bool (ng (capI n (m / (Nat.gcd m d)))), s49, a51]) rfl rfl f62 rfl Tryd.sizeOf30 (nbl rfl) (one_cons rfl (one_cons f64.one (one_cons nw51.one one_nil))) (fun w54 sw54 fw54 cw54 => ?_)
 have zw54 := cw54.size
 have gw54 : Blk w54 b2 [.bool (ng (capI n (m / (Nat.gcd m d)))), s49, a51] 30 := fw54
 refine av rfl rfl (wl_nil (q_n (k48 _ _ ?_)))
 refine sx_sub (Sub.c 6 rfl (.c 7 rfl .nil)) ?_
 refine sx_retc ?_
 refine sx_ret2 Tryd.results36 ⟨_, rfl, gw54.loadA (vs := [.bool (ng (capI n (m / (Nat.gcd m d)))), s49, a51]) (look_lit rfl) Tryd.isAgg30 Tryd.sizeOf30⟩ rfl ?_
 have hrl := rR_len (x := sgI n m) (d := d)
 have hcs := capI_sgI (n := n) (m := m / Nat.gcd m d) (by omega)
 have f65 := f64.chg cw54 (by omega)
 have hr1 := f65
 rw [hcs, sgI_abs] at hr1
 rw [rR_ok hd0 (by omega) (by omega)] at hrl ⊢
 have q66 := Chg.step (l := 0) (h := 0) (Chg.zero (l := 0) (h := 0) (((((((cb2.t c6).t c10).t c20).t c23).t c28).t c49).t cs50)) cw51 (by omega)
 have q67 := Chg.step (l := 0) (h := 0) q66 cw54 (by omega)
 have f68 := nw51.chg cw54 (by omega)
 exact ⟨_, _, _, _, _, _, by rw [hcs, ← ng_sgI], hr1, f68, by omega, hrl, q67⟩

theorem c_sRatMake {w : World} {n1 : Bool} {v1 : Value} {lv1 uv1 : Nat} {z1 : List Int} {n2 : Bool} {v2 : Value} {lv2 uv2 : Nat} {z2 : List Int} (hv1 : Sl w lv1 uv1 v1 (z1)) (hv2 : Sl w lv2 uv2 v2 (z2)) (h63 : z1.length ≤ 4611686018427387904 ∧ z2.length ≤ 4611686018427387904) :
  Ret Tryd.prog 28 [.agg #[.bool n1, v1], .agg #[.bool n2, v2]] w fun v w' => ∃ s t ls us lt ut, v = .tuple #[.agg #[.bool ((rMake n1 z1 n2 z2).1), s, t], .bool ((rMake n1 z1 n2 z2).2.2.2)] ∧ OwnI w' (ls) (us) s intT ((rMake n1 z1 n2 z2).2.1) ∧ OwnI w' (lt) (ut) t intT ((rMake n1 z1 n2 z2).2.2.1) ∧ (w.heap.size ≤ ls ∧ us ≤ w'.heap.size ∧ w.heap.size ≤ lt ∧ ut ≤ w'.heap.size ∧ (us ≤ lt ∨ ut ≤ ls)) ∧ ((rMake n1 z1 n2 z2).2.1.length ≤ 18 ∧ (rMake n1 z1 n2 z2).2.2.1.length ≤ 18) ∧ Chg 0 0 w w' := by
 have hv10 := hv1.fit
 have hv20 := hv2.fit
 refine sx_enter Tryd.func28 rfl Tryd.ntmps28 (nbl rfl) ?_
 refine sx_seq fun K1 k1 => sx_region ?_
 refine sx_box [.bool n1, v1] rfl rfl rfl (fun b2 w3 eb2 sb2 fb2 cb2 => ?_)
 have zw3 := cb2.size
 refine sx_box [.bool n2, v2] rfl rfl rfl (fun b4 w5 eb4 sb4 fb4 cb4 => ?_)
 have zw5 := cb4.size
 refine sx_alloc [.bool false, (.slice none 0 0), (.slice none 0 0)] rfl Tryd.zeroValue30 rfl (fun b6 w7 eb6 sb6 fb6 cb6 => ?_)
 have zw7 := cb6.size
 refine av rfl rfl (wl_nil (q_n (k1 _ _ ?_)))
 refine sx_seq fun K8 k8 => ?_
 refine sx_seq fun K9 k9 => sx_region ?_
 have f10 := fb2.ext cb4
 have f11 := f10.ext cb6
 refine sp rfl (px_load rfl (f11.loadA (vs := [.bool n1, v1]) (look_lit rfl) Tryd.isAgg28 Tryd.sizeOf28)) ?_
 have f12 := hv10.ext cb2
 have f13 := f12.ext cb4
 have f14 := f13.ext cb6
 refine sx_call rfl rfl Tryd.call27 (c_sIntOk f14 (by omega)) (fun v15 w15 p15 => ?_)
 obtain ⟨rfl, c15⟩ := p15
 have zw15 := c15.size
 refine sp rfl (px_notP rfl) ?_
 refine mv rfl rfl ?_
 refine sx_tmpP (t := 9) rfl (fun h42 => ?_) (fun h42 => ?_)
 ·
  refine sx_guardF rfl rfl rfl rfl rfl rfl ?_
  refine sx_guardF rfl rfl rfl rfl rfl rfl ?_
  refine sx_guardF rfl rfl rfl rfl rfl rfl ?_
  refine sp rfl (px_pick rfl rfl) ?_
  refine wl_nil (q_n (k9 _ _ ?_))
  refine sx_condT rfl ?_
  refine sx_seq fun K16 k16 => sx_region ?_
  refine sp rfl (px_build rfl (xbld30x  _)) ?_
  have f18 := fb6.ext c15
  refine sx_store (vs := [.bool false, (.slice none 0 0), (.slice none 0 0)]) rfl rfl f18 rfl Tryd.sizeOf30 (nbl rfl) (o3 rfl rfl rfl) (fun w17 sw17 fw17 cw17 => ?_)
  have zw17 := cw17.size
  have gw17 : Blk w17 b6 [.bool false, (.slice none 0 0), (.slice none 0 0)] 30 := fw17
  refine av rfl rfl (wl_nil (q_n (k16 _ _ ?_)))
  refine sx_sub (Sub.c 2 rfl (.c 3 rfl (.c 4 rfl (.c 5 rfl .nil)))) ?_
  refine sx_retc ?_
  refine q_r (sx_ret2 Tryd.results28 ⟨_, rfl, gw17.loadA (vs := [.bool false, (.slice none 0 0), (.slice none 0 0)]) (look_lit rfl) Tryd.isAgg30 Tryd.sizeOf30⟩ rfl ?_)
  rw [rMake_no (by grind)]
  have q19 := Chg.step (l := 0) (h := 0) (Chg.zero (l := 0) (h := 0) (((cb2.t cb4).t cb6).t c15)) cw17 (by omega)
  exact ⟨_, _, w.heap.size, w.heap.size, w.heap.size, w.heap.size, rfl, Own.nil _ _ _ _ _, Own.nil _ _ _ _ _, by omega, ⟨by simp [noR], by simp [noR]⟩, q19⟩
 refine sx_guardT rfl rfl rfl ?_
 have f20 := fb4.ext cb6
 have f21 := f20.ext c15
 refine sp rfl (px_load rfl (f21.loadA (vs := [.bool n2, v2]) (look_lit rfl) Tryd.isAgg28 Tryd.sizeOf28)) ?_
 refine sx_guardT rfl rfl rfl ?_
 have f22 := hv20.ext cb2
 have f23 := f22.ext cb4
 have f24 := f23.ext cb6
 have f25 := f24.ext c15
 refine sx_call rfl rfl Tryd.call27 (c_sIntOk f25 (by omega)) (fun v26 w26 p26 => ?_)
 obtain ⟨rfl, c26⟩ := p26
 have zw26 := c26.size
 refine sx_guardT rfl rfl rfl ?_
 refine sp rfl (px_notP rfl) ?_
 refine sp rfl (px_pick rfl rfl) ?_
 refine wl_nil (q_n (k9 _ _ ?_))
 refine sx_condP rfl (fun h42x1 => ?_) (fun h42x1 => ?_)
 ·
  refine sx_seq fun K27 k27 => sx_region ?_
  refine sp rfl (px_build rfl (xbld30x  _)) ?_
  have f30 := (fb6.ext c15).ext c26
  refine sx_store (vs := [.bool false, (.slice none 0 0), (.slice none 0 0)]) rfl rfl f30 rfl Tryd.sizeOf30 (nbl rfl) (o3 rfl rfl rfl) (fun w28 sw28 fw28 cw28 => ?_)
  have zw28 := cw28.size
  have gw28 : Blk w28 b6 [.bool false, (.slice none 0 0), (.slice none 0 0)] 30 := fw28
  refine av rfl rfl (wl_nil (q_n (k27 _ _ ?_)))
  refine sx_sub (Sub.c 2 rfl (.c 3 rfl (.c 4 rfl (.c 5 rfl .nil)))) ?_
  refine sx_retc ?_
  refine q_r (sx_ret2 Tryd.results28 ⟨_, rfl, gw28.loadA (vs := [.bool false, (.slice none 0 0), (.slice none 0 0)]) (look_lit rfl) Tryd.isAgg30 Tryd.sizeOf30⟩ rfl ?_)
  rw [rMake_no (by grind)]
  have q31 := Chg.step (l := 0) (h := 0) (Chg.zero (l := 0) (h := 0) ((((cb2.t cb4).t cb6).t c15).t c26)) cw28 (by omega)
  exact ⟨_, _, w.heap.size, w.heap.size, w.heap.size, w.heap.size, rfl, Own.nil _ _ _ _ _, Own.nil _ _ _ _ _, by omega, ⟨by simp [noR], by simp [noR]⟩, q31⟩
 have hI := Decidable.not_not.1 h42
 have hJ := Decidable.not_not.1 h42x1
 obtain ⟨x1, rfl, rfl, hx1⟩ := hI.int
 obtain ⟨x2, rfl, rfl, hx2⟩ := hJ.int
 refine sx_skip ?_
 refine q_n (k8 _ _ ?_)
 refine sx_seq fun K32 k32 => sx_region ?_
 refine sp rfl (px_field rfl xfld28x0) ?_
 have f34 := (f11.ext c15).ext c26
 refine sp rfl (px_load rfl (f34.load1 rfl Tryd.isAgg4)) ?_
 refine sp rfl (px_field rfl xfld28x0) ?_
 have f35 := f21.ext c26
 refine sp rfl (px_load rfl (f35.load1 rfl Tryd.isAgg4)) ?_
 refine sp rfl (px_neB Tryd.underlying4 rfl rfl) ?_
 refine sp rfl (px_field rfl xfld28x1) ?_
 refine sp rfl (px_load rfl (f34.load1 rfl Tryd.isAgg22)) ?_
 refine sp rfl (px_field rfl xfld28x1) ?_
 refine sp rfl (px_load rfl (f35.load1 rfl Tryd.isAgg22)) ?_
 have f37 := (f14.ext c15).ext c26
 have f38 := f25.ext c26
 refine sx_call rfl rfl Tryd.call36 (c_l05Low f37 f38 (by omega) (by omega)) (fun v39 w39 p39 => ?_)
 obtain ⟨s39, t39, ls39, us39, lt39, ut39, rfl, os_39, ot_39, hd39, hl39, c39⟩ := p39
 have zw39 := c39.size
 refine sp rfl (px_ex2 rfl rfl) ?_
 refine sp rfl (px_ex2 rfl rfl) ?_
 have f43 := ((fb6.ext c15).ext c26).ext c39
 refine sx_store (vs := [.bool ((rR (sgI ((ng x1) != (ng x2)) x1.natAbs) x2.natAbs).1), s39, t39]) rfl rfl f43 rfl Tryd.sizeOf30 (nbl rfl) (one_cons rfl (one_cons os_39.one (one_cons ot_39.one one_nil))) (fun w40 sw40 fw40 cw40 => ?_)
 have zw40 := cw40.size
 have gw40 : Blk w40 b6 [.bool ((rR (sgI ((ng x1) != (ng x2)) x1.natAbs) x2.natAbs).1), s39, t39] 30 := fw40
 refine av rfl rfl (wl_nil (q_n (k32 _ _ ?_)))
 refine sx_sub (Sub.c 4 rfl (.c 5 rfl .nil)) ?_
 refine sx_retc ?_
 refine sx_ret2 Tryd.results28 ⟨_, rfl, gw40.loadA (vs := [.bool ((rR (sgI ((ng x1) != (ng x2)) x1.natAbs) x2.natAbs).1), s39, t39]) (look_lit rfl) Tryd.isAgg30 Tryd.sizeOf30⟩ rfl ?_
 have hrl := rMake_len (n1 := ng x1) (z1 := dg x1.natAbs) (n2 := ng x2) (z2 := dg x2.natAbs)
 rw [rMake_ok hI hJ] at hrl ⊢
 have q44 := Chg.step (l := 0) (h := 0) (Chg.zero (l := 0) (h := 0) (((((cb2.t cb4).t cb6).t c15).t c26).t c39)) cw40 (by omega)
 have f45 := os_39.chg cw40 (by omega)
 have f46 := ot_39.chg cw40 (by omega)
 exact ⟨_, _, _, _, _, _, rfl, f45, f46, by omega, hrl, q44⟩

theorem c_sRatInt {w : World} {n1 : Bool} {v1 : Value} {lv1 uv1 : Nat} {z1 : List Int} (hv1 : Sl w lv1 uv1 v1 (z1)) (h63 : z1.length ≤ 4611686018427387904) :
  Ret Tryd.prog 15 [.agg #[.bool n1, v1]] w fun v w' => ∃ s t ls us lt ut, v = .tuple #[.agg #[.bool ((rInt n1 z1).1), s, t], .bool ((rInt n1 z1).2.2.2)] ∧ OwnI w' (ls) (us) s intT ((rInt n1 z1).2.1) ∧ OwnI w' (lt) (ut) t intT ((rInt n1 z1).2.2.1) ∧ (w.heap.size ≤ ls ∧ us ≤ w'.heap.size ∧ w.heap.size ≤ lt ∧ ut ≤ w'.heap.size ∧ (us ≤ lt ∨ ut ≤ ls)) ∧ ((rInt n1 z1).2.1.length ≤ 18 ∧ (rInt n1 z1).2.2.1.length ≤ 18) ∧ Chg 0 0 w w' := by
 have hv10 := hv1.fit
 refine sx_enter Tryd.func15 rfl Tryd.ntmps15 (nbl rfl) ?_
 refine sx_seq fun K1 k1 => sx_region ?_
 refine sx_box [.bool n1, v1] rfl rfl rfl (fun b2 w3 eb2 sb2 fb2 cb2 => ?_)
 have zw3 := cb2.size
 refine sx_alloc [.bool false, (.slice none 0 0), (.slice none 0 0)] rfl Tryd.zeroValue30 rfl (fun b4 w5 eb4 sb4 fb4 cb4 => ?_)
 have zw5 := cb4.size
 refine av rfl rfl (wl_nil (q_n (k1 _ _ ?_)))
 refine sx_seq fun K6 k6 => ?_
 have f7 := fb2.ext cb4
 have f8 := hv10.ext cb2
 have f9 := f8.ext cb4
 refine dx_region (fun w' => Chg b4 (b4 + 1) w5 w') (by kernel_rfl) (Chg.zero (Chg.drew _)) ?_
 have d10 := Chg.drew w5
 have s10 : Chg b4 (b4 + 1) w5 (World.drew w5) := Chg.zero (Chg.drew _)
 have y10 : (World.drew w5).heap.size = w5.heap.size := rfl
 generalize World.drew w5 = w10 at *
 have zw10 := d10.size
 refine dt 0 rfl rfl rfl rfl s10 (fun _ hS => px_load rfl ((f7.chg hS (by omega)).loadA (vs := [.bool n1, v1]) (look_lit rfl) Tryd.isAgg28 Tryd.sizeOf28)) ?_
 refine dx_eff 1 rfl (by kernel_rfl) ?_
 refine sx_call rfl rfl Tryd.call29 (c_sIntOf (by omega)) (fun v11 w11 p11 => ?_)
 obtain ⟨s11, rfl, os_11, c11⟩ := p11
 have zw11 := c11.size
 have s12 : Chg b4 (b4 + 1) w5 w11 := (Chg.zero (l := b4) (h := (b4 + 1)) (d10.t c11))
 refine wl_nil ?_
 refine dx_next s12 ?_
 refine dx_eff 2 rfl (by kernel_rfl) ?_
 have f14 := (f9.ext d10).ext c11
 refine sx_call rfl rfl Tryd.call28 (c_sRatMake f14 os_11.sv (by have h9 := len_i64 (n := 1) (by omega); omega)) (fun v15 w15 p15 => ?_)
 obtain ⟨s15, t15, ls15, us15, lt15, ut15, rfl, os_15, ot_15, hd15, hl15, c15⟩ := p15
 have zw15 := c15.size
 have s16 : Chg b4 (b4 + 1) w5 w15 := (Chg.zero (l := b4) (h := (b4 + 1)) ((d10.t c11).t c15))
 refine wl_nil ?_
 refine dx_next s16 ?_
 refine dt 3 rfl rfl rfl rfl s16 (fun _ hS => px_ex2 rfl rfl) ?_
 refine dt 4 rfl rfl rfl rfl s16 (fun _ hS => px_ex2 rfl rfl) ?_
 refine dx_eff 5 rfl (by kernel_rfl) ?_
 have f20 := ((fb4.ext d10).ext c11).ext c15
 refine sx_store (vs := [.bool ((rMake n1 z1 (ng (1 : Int)) (dg ((1 : Int)).natAbs)).1), s15, t15]) rfl rfl f20 rfl Tryd.sizeOf30 (nbl rfl) (one_cons rfl (one_cons os_15.one (one_cons ot_15.one one_nil))) (fun w17 sw17 fw17 cw17 => ?_)
 have zw17 := cw17.size
 have gw17 : Blk w17 b4 [.bool ((rMake n1 z1 (ng (1 : Int)) (dg ((1 : Int)).natAbs)).1), s15, t15] 30 := fw17
 have q22 := Chg.step (l := b4) (h := (b4 + 1)) (Chg.zero (l := b4) (h := (b4 + 1)) ((d10.t c11).t c15)) cw17 (by omega)
 have s21 : Chg b4 (b4 + 1) w5 w17 := q22
 refine wl_nil ?_
 refine dx_next s21 ?_
 refine dt 6 rfl rfl rfl rfl s21 (fun _ hS => px_assign rfl) ?_
 refine dx_done (by kernel_rfl) ?_
 refine q_n (k6 _ _ ?_)
 refine sx_retc ?_
 refine sx_ret2 Tryd.results15 ⟨_, rfl, gw17.loadA (vs := [.bool ((rMake n1 z1 (ng (1 : Int)) (dg ((1 : Int)).natAbs)).1), s15, t15]) (look_lit rfl) Tryd.isAgg30 Tryd.sizeOf30⟩ rfl ?_
 have hrl := rInt_len (n := n1) (z := z1)
 unfold rInt at hrl ⊢
 have q23 := Chg.step (l := 0) (h := 0) (Chg.zero (l := 0) (h := 0) ((((cb2.t cb4).t d10).t c11).t c15)) cw17 (by omega)
 have f24 := os_15.chg cw17 (by omega)
 have f25 := ot_15.chg cw17 (by omega)
 exact ⟨_, _, _, _, _, _, rfl, f24, f25, by omega, hrl, q23⟩

theorem c_sMoneyRat {w : World} {c1 : ByteArray} {n1 : Bool} {v1 : Value} {lv1 uv1 : Nat} {z1 : List Int} (hv1 : Sl w lv1 uv1 v1 (z1)) (h63 : z1.length ≤ 4611686018427387904) :
  Ret Tryd.prog 5 [.agg #[.string c1, .bool n1, v1]] w fun v w' => ∃ s t ls us lt ut, v = .agg #[.bool ((mRat c1 n1 z1).1), s, t] ∧ OwnI w' (ls) (us) s intT ((mRat c1 n1 z1).2.1) ∧ OwnI w' (lt) (ut) t intT ((mRat c1 n1 z1).2.2.1) ∧ (w.heap.size ≤ ls ∧ us ≤ w'.heap.size ∧ w.heap.size ≤ lt ∧ ut ≤ w'.heap.size ∧ (us ≤ lt ∨ ut ≤ ls)) ∧ ((mRat c1 n1 z1).2.1.length ≤ 18 ∧ (mRat c1 n1 z1).2.2.1.length ≤ 18) ∧ Chg 0 0 w w' := by
 have hv10 := hv1.fit
 refine sx_enter Tryd.func5 rfl Tryd.ntmps5 (nbl rfl) ?_
 refine sx_seq fun K1 k1 => sx_region ?_
 refine sx_box [.string c1, .bool n1, v1] rfl rfl rfl (fun b2 w3 eb2 sb2 fb2 cb2 => ?_)
 have zw3 := cb2.size
 refine sx_alloc [.bool false, (.slice none 0 0), (.slice none 0 0)] rfl Tryd.zeroValue30 rfl (fun b4 w5 eb4 sb4 fb4 cb4 => ?_)
 have zw5 := cb4.size
 refine wl_nil (q_n (k1 _ _ ?_))
 refine sx_seq fun K6 k6 => ?_
 refine sx_seq fun K7 k7 => sx_region ?_
 have f8 := fb2.ext cb4
 refine sp rfl (px_load rfl (f8.loadA (vs := [.string c1, .bool n1, v1]) (look_lit rfl) Tryd.isAgg33 Tryd.sizeOf33)) ?_
 have f9 := hv10.ext cb2
 have f10 := f9.ext cb4
 refine sx_call rfl rfl Tryd.call14 (c_sMoneyOk f10 (by omega)) (fun v11 w11 p11 => ?_)
 obtain ⟨rfl, c11⟩ := p11
 have zw11 := c11.size
 refine sp rfl (px_notP rfl) ?_
 refine wl_nil (q_n (k7 _ _ ?_))
 refine sx_condP rfl (fun h97 => ?_) (fun h97 => ?_)
 ·
  refine sx_seq fun K12 k12 => sx_region ?_
  refine sp rfl (px_build rfl (xbld30x  _)) ?_
  have f14 := fb4.ext c11
  refine sx_store (vs := [.bool false, (.slice none 0 0), (.slice none 0 0)]) rfl rfl f14 rfl Tryd.sizeOf30 (nbl rfl) (o3 rfl rfl rfl) (fun w13 sw13 fw13 cw13 => ?_)
  have zw13 := cw13.size
  have gw13 : Blk w13 b4 [.bool false, (.slice none 0 0), (.slice none 0 0)] 30 := fw13
  refine wl_nil (q_n (k12 _ _ ?_))
  refine sx_retc ?_
  refine q_r (sx_ret1 Tryd.results5 ⟨_, rfl, gw13.loadA (vs := [.bool false, (.slice none 0 0), (.slice none 0 0)]) (look_lit rfl) Tryd.isAgg30 Tryd.sizeOf30⟩ ?_)
  rw [mRat_no h97]
  have q15 := Chg.step (l := 0) (h := 0) (Chg.zero (l := 0) (h := 0) ((cb2.t cb4).t c11)) cw13 (by omega)
  exact ⟨_, _, w.heap.size, w.heap.size, w.heap.size, w.heap.size, rfl, Own.nil _ _ _ _ _, Own.nil _ _ _ _ _, by omega, ⟨by simp [noR], by simp [noR]⟩, q15⟩
 have hM := Decidable.not_not.1 h97
 have hM4 := hM.2.2
 refine sx_skip ?_
 refine q_n (k6 _ _ ?_)
 refine sx_seq fun K16 k16 => sx_region ?_
 refine sp rfl (px_field rfl xfld33x1) ?_
 have f17 := f8.ext c11
 refine sp rfl (px_load rfl (f17.loadA (vs := [.bool n1, v1]) (look_lit rfl) Tryd.isAgg28 Tryd.sizeOf28)) ?_
 have f18 := f10.ext c11
 refine sx_call rfl rfl Tryd.call15 (c_sRatInt f18 (by omega)) (fun v19 w19 p19 => ?_)
 obtain ⟨s19, t19, ls19, us19, lt19, ut19, rfl, os_19, ot_19, hd19, hl19, c19⟩ := p19
 have zw19 := c19.size
 refine mv rfl rfl (sp rfl (px_ex2 rfl rfl) ?_)
 refine sp rfl (px_ex2 rfl rfl) ?_
 refine sx_alloc [.bool false, (.slice none 0 0), (.slice none 0 0)] rfl Tryd.zeroValue30 rfl (fun b20 w21 eb20 sb20 fb20 cb20 => ?_)
 have zw21 := cb20.size
 have f23 := ot_19.ext cb20
 have f24 := os_19.ext cb20
 refine sx_store (vs := [.bool ((rInt n1 z1).1), s19, t19]) rfl rfl fb20 rfl Tryd.sizeOf30 (nbl rfl) (one_cons rfl (one_cons f24.one (one_cons f23.one one_nil))) (fun w22 sw22 fw22 cw22 => ?_)
 have zw22 := cw22.size
 have gw22 : Blk w22 b20 [.bool ((rInt n1 z1).1), s19, t19] 30 := fw22
 refine av rfl rfl (wl_nil (q_n (k16 _ _ ?_)))
 refine sx_seq fun K25 k25 => sx_region ?_
 refine sp rfl (px_load rfl (gw22.loadA (vs := [.bool ((rInt n1 z1).1), s19, t19]) (look_lit rfl) Tryd.isAgg30 Tryd.sizeOf30)) ?_
 have f29 := ((fb4.ext c11).ext c19).ext cb20
 have f30 := f29.chg cw22 (by omega)
 have f31 := f23.chg cw22 (by omega)
 have f32 := f24.chg cw22 (by omega)
 refine sx_store (vs := [.bool ((rInt n1 z1).1), s19, t19]) rfl rfl f30 rfl Tryd.sizeOf30 (nbl rfl) (one_cons rfl (one_cons f32.one (one_cons f31.one one_nil))) (fun w26 sw26 fw26 cw26 => ?_)
 have zw26 := cw26.size
 have gw26 : Blk w26 b4 [.bool ((rInt n1 z1).1), s19, t19] 30 := fw26
 refine wl_nil (q_n (k25 _ _ ?_))
 refine sx_sub (Sub.c 2 rfl .nil) ?_
 refine sx_retc ?_
 refine sx_ret1 Tryd.results5 ⟨_, rfl, gw26.loadA (vs := [.bool ((rInt n1 z1).1), s19, t19]) (look_lit rfl) Tryd.isAgg30 Tryd.sizeOf30⟩ ?_
 have hrl := mRat_len (c := c1) (n := n1) (z := z1)
 rw [← mRat_int hM] at hrl ⊢
 have q33 := Chg.step (l := 0) (h := 0) (Chg.zero (l := 0) (h := 0) ((((cb2.t cb4).t c11).t c19).t cb20)) cw22 (by omega)
 have q34 := Chg.step (l := 0) (h := 0) q33 cw26 (by omega)
 have f35 := f32.chg cw26 (by omega)
 have f36 := f31.chg cw26 (by omega)
 exact ⟨_, _, _, _, _, _, rfl, f35, f36, by omega, hrl, q34⟩

theorem c_currencyOf {w : World} {s : ByteArray} (hG0 : Glob w) :
  Ret Tryd.prog 39 [.string s] w fun v w' => v = .tuple #[.agg #[.string ((curOf s).code), .string ((curOf s).number), .int .i64 ((curOf s).places), .int .i64 ((curOf s).cash)], .bool (decide (Known s))] ∧ Chg 0 0 w w' := by
 refine sx_enter Tryd.func39 rfl Tryd.ntmps39 (nbl rfl) ?_
 refine sx_seq fun K1 k1 => sx_region ?_
 refine sx_alloc [.string (⟨#[]⟩), .string (⟨#[]⟩), .int .i64 0, .int .i64 0] rfl Tryd.zeroValue63 rfl (fun b2 w3 eb2 sb2 fb2 cb2 => ?_)
 have zw3 := cb2.size
 refine av rfl rfl (wl_nil (q_n (k1 _ _ ?_)))
 refine sx_seq fun K4 k4 => ?_
 refine sx_seq fun K5 k5 => sx_region ?_
 have f6 := hG0.ext cb2
 refine sp rfl (px_load rfl (Glob.load f6 Tryd.isAgg72 Tryd.sizeOf72)) ?_
 refine mv rfl rfl (wl_nil (q_n (k5 _ _ ?_)))
 refine sx_block ?_
 refine sx_loop (fun mm aa w' => ∃ (k : Nat), Agr 17 [(0, .string s), (2, .pointer (some ⟨b2, 0, none⟩)), (6, .agg (crCells tabI).toArray), (7, .int .i64 ↑k)] aa ∧ Chg 0 0 w3 w' ∧ (mm = 20 - k) ∧ (k ≤ 20) ∧ (∀ i, i < k → ¬ (tabI.getD i cr0).code = s)) (20) (fun a ha => ⟨0, ha.sub (Sub.c 0 rfl (.c 2 rfl (.c 6 rfl (.c 7 (look_int (t := 7) rfl (by first | omega | simp)) .nil)))), Chg.refl _ _ _, rfl, by omega, fun i h => by omega⟩) ?_
 rintro mm aa wl7 ⟨k, hAwl7, cwl7, hm, hk, hn⟩
 refine (show cw Tryd.prog 17 _ _ _ wl7 from ?_) aa hAwl7
 clear hAwl7
 have zwl7 := cwl7.size
 refine sx_seq fun K8 k8 => sx_region ?_
 refine sp rfl (px_lt rfl rfl) ?_
 refine wl_nil (q_n (k8 _ _ ?_))
 refine sx_seq fun K9 k9 => ?_
 refine sx_condP rfl (fun h39 => ?_) (fun h39 => ?_)
 ·
  refine sx_skip ?_
  refine q_n (k9 _ _ ?_)
  refine sx_seq fun K10 k10 => ?_
  refine sx_block ?_
  refine sx_seq fun K11 k11 => sx_region ?_
  refine sp rfl (px_indexCr (l := tabI) (j := k) rfl rfl (by omega) Tryd.underlying72 rfl Tryd.sizeOf63 Tryd.isAgg63 (by rw [show tabI.length = 20 from rfl]; omega)) ?_
  refine sx_alloc [.string (⟨#[]⟩), .string (⟨#[]⟩), .int .i64 0, .int .i64 0] rfl Tryd.zeroValue63 rfl (fun b12 w13 eb12 sb12 fb12 cb12 => ?_)
  have zw13 := cb12.size
  refine sx_store (vs := [.string ((tabI.getD k cr0).code), .string ((tabI.getD k cr0).number), .int .i64 ((tabI.getD k cr0).places), .int .i64 ((tabI.getD k cr0).cash)]) rfl rfl fb12 rfl Tryd.sizeOf63 (nbl rfl) (one_cons rfl (o3 rfl rfl rfl)) (fun w14 sw14 fw14 cw14 => ?_)
  have zw14 := cw14.size
  have gw14 : Blk w14 b12 [.string ((tabI.getD k cr0).code), .string ((tabI.getD k cr0).number), .int .i64 ((tabI.getD k cr0).places), .int .i64 ((tabI.getD k cr0).cash)] 63 := fw14
  refine wl_nil (q_n (k11 _ _ ?_))
  refine sx_seq fun K15 k15 => sx_region ?_
  refine sp rfl (px_field rfl xfld63x0) ?_
  refine sp rfl (px_load rfl (gw14.load1 rfl Tryd.isAgg9)) ?_
  refine mv rfl rfl (sp rfl (px_eqS rfl rfl) ?_)
  refine wl_nil (q_n (k15 _ _ ?_))
  refine sx_condP rfl (fun h40 => ?_) (fun h40 => ?_)
  ·
   refine sx_seq fun K16 k16 => sx_region ?_
   refine sp rfl (px_load rfl (gw14.loadA (vs := [.string ((tabI.getD k cr0).code), .string ((tabI.getD k cr0).number), .int .i64 ((tabI.getD k cr0).places), .int .i64 ((tabI.getD k cr0).cash)]) (look_lit rfl) Tryd.isAgg63 Tryd.sizeOf63)) ?_
   have f18 := fb2.ext cwl7
   have f19 := f18.ext cb12
   have f20 := f19.chg cw14 (by omega)
   refine sx_store (vs := [.string ((tabI.getD k cr0).code), .string ((tabI.getD k cr0).number), .int .i64 ((tabI.getD k cr0).places), .int .i64 ((tabI.getD k cr0).cash)]) rfl rfl f20 rfl Tryd.sizeOf63 (nbl rfl) (one_cons rfl (o3 rfl rfl rfl)) (fun w17 sw17 fw17 cw17 => ?_)
   have zw17 := cw17.size
   have gw17 : Blk w17 b2 [.string ((tabI.getD k cr0).code), .string ((tabI.getD k cr0).number), .int .i64 ((tabI.getD k cr0).places), .int .i64 ((tabI.getD k cr0).cash)] 63 := fw17
   refine av rfl rfl (wl_nil (q_n (k16 _ _ ?_)))
   refine sx_retc ?_
   refine q_br (q_r (q_r (q_br (q_r (sx_ret2 Tryd.results39 ⟨_, rfl, gw17.loadA (vs := [.string ((tabI.getD k cr0).code), .string ((tabI.getD k cr0).number), .int .i64 ((tabI.getD k cr0).places), .int .i64 ((tabI.getD k cr0).cash)]) (look_lit rfl) Tryd.isAgg63 Tryd.sizeOf63⟩ rfl ?_)))))
   have e := curOf_some (by rw [show tabI.length = 20 from rfl]; omega) hn h40
   have e2 := known_some (by rw [show tabI.length = 20 from rfl]; omega) hn h40
   rw [e]
   have q21 := Chg.step (l := 0) (h := 0) (Chg.zero (l := 0) (h := 0) ((cb2.t cwl7).t cb12)) cw14 (by omega)
   have q22 := Chg.step (l := 0) (h := 0) q21 cw17 (by omega)
   exact ⟨by simp [e2], q22⟩
  refine sx_skip ?_
  refine q_bn (q_n (k10 _ _ ?_))
  refine sx_region ?_
  refine sp rfl (px_add rfl rfl (by omega)) ?_
  refine mv rfl rfl (wl_nil ?_)
  have q23 := Chg.step (l := 0) (h := 0) (Chg.zero (l := 0) (h := 0) (cwl7.t cb12)) cw14 (by omega)
  exact fun a ha => ⟨_, by omega, (k + 1), ha.sub (Sub.c 0 rfl (.c 2 rfl (.c 6 rfl (.c 7 (look_int (t := 7) rfl (by first | omega | simp)) .nil)))), q23, rfl, by omega, upto_succ hn h40⟩
 refine sx_exit ?_
 refine q_e (q_e (q_bx (q_n (k4 _ _ ?_))))
 refine sx_seq fun K24 k24 => sx_region ?_
 refine sp rfl (px_build rfl (xbld63x  _)) ?_
 have f26 := fb2.ext cwl7
 refine sx_store (vs := [.string (⟨#[]⟩), .string (⟨#[]⟩), .int .i64 0, .int .i64 0]) rfl rfl f26 rfl Tryd.sizeOf63 (nbl rfl) (one_cons rfl (o3 rfl rfl rfl)) (fun w25 sw25 fw25 cw25 => ?_)
 have zw25 := cw25.size
 have gw25 : Blk w25 b2 [.string (⟨#[]⟩), .string (⟨#[]⟩), .int .i64 0, .int .i64 0] 63 := fw25
 refine av rfl rfl (wl_nil (q_n (k24 _ _ ?_)))
 refine sx_retc ?_
 refine sx_ret2 Tryd.results39 ⟨_, rfl, gw25.loadA (vs := [.string (⟨#[]⟩), .string (⟨#[]⟩), .int .i64 0, .int .i64 0]) (look_lit rfl) Tryd.isAgg63 Tryd.sizeOf63⟩ rfl ?_
 have e := curOf_none (s := s) (fun i hi => hn i (by rw [show tabI.length = 20 from rfl] at hi; omega))
 have e2 := known_none (s := s) (fun i hi => hn i (by rw [show tabI.length = 20 from rfl] at hi; omega))
 rw [e]
 have q27 := Chg.step (l := 0) (h := 0) (Chg.zero (l := 0) (h := 0) (cb2.t cwl7)) cw25 (by omega)
 exact ⟨by simp [e2, cr0], q27⟩

theorem c_iCurKnown {w : World} {s : ByteArray} (hG0 : Glob w) :
  Ret Tryd.prog 31 [.string s] w fun v w' => v = .bool (decide (Known s)) ∧ Chg 0 0 w w' := by
 refine sx_enter Tryd.func31 rfl Tryd.ntmps31 (nbl rfl) ?_
 refine sx_seq fun K1 k1 => sx_region ?_
 refine av rfl rfl (wl_nil (q_n (k1 _ _ ?_)))
 refine sx_seq fun K2 k2 => sx_region ?_
 refine mv rfl rfl (sx_call rfl rfl Tryd.call39 (c_currencyOf hG0) (fun v3 w3 p3 => ?_))
 obtain ⟨rfl, c3⟩ := p3
 have zw3 := c3.size
 refine mv rfl rfl (sp rfl (px_ex2 rfl rfl) ?_)
 refine sp rfl (px_ex2 rfl rfl) ?_
 refine sx_alloc [.string (⟨#[]⟩), .string (⟨#[]⟩), .int .i64 0, .int .i64 0] rfl Tryd.zeroValue63 rfl (fun b4 w5 eb4 sb4 fb4 cb4 => ?_)
 have zw5 := cb4.size
 refine sx_store (vs := [.string ((curOf s).code), .string ((curOf s).number), .int .i64 ((curOf s).places), .int .i64 ((curOf s).cash)]) rfl rfl fb4 rfl Tryd.sizeOf63 (nbl rfl) (one_cons rfl (o3 rfl rfl rfl)) (fun w6 sw6 fw6 cw6 => ?_)
 have zw6 := cw6.size
 have gw6 : Blk w6 b4 [.string ((curOf s).code), .string ((curOf s).number), .int .i64 ((curOf s).places), .int .i64 ((curOf s).cash)] 63 := fw6
 refine av rfl rfl (wl_nil (q_n (k2 _ _ ?_)))
 refine sx_seq fun K7 k7 => sx_region ?_
 refine mv rfl rfl (av rfl rfl (wl_nil (q_n (k7 _ _ ?_))))
 refine sx_retc ?_
 refine sx_ret1 Tryd.results31 rfl ?_
 have q8 := Chg.step (l := 0) (h := 0) (Chg.zero (l := 0) (h := 0) (c3.t cb4)) cw6 (by omega)
 exact ⟨rfl, q8⟩

theorem c_iNatOk {w : World} {va : Value} {lva uva : Nat} {zs : List Int} (hva : Sl w lva uva va (zs)) (h63 : zs.length ≤ 4611686018427387904) :
  Ret Tryd.prog 40 [va] w fun v w' => v = .bool (decide (NOk zs)) ∧ Chg 0 0 w w' := by
 have hva0 := hva.fit
 refine sx_enter Tryd.func40 rfl Tryd.ntmps40 (nbl rfl) ?_
 refine sx_seq fun K1 k1 => sx_region ?_
 refine av rfl rfl (wl_nil (q_n (k1 _ _ ?_)))
 refine sx_seq fun K2 k2 => ?_
 refine sx_seq fun K3 k3 => sx_region ?_
 refine mv rfl rfl (sp rfl (px_len rfl Tryd.underlying22 hva0) ?_)
 refine sp rfl (px_gt rfl rfl) ?_
 refine mv rfl rfl ?_
 refine sx_tmpP (t := 8) rfl (fun h13 => ?_) (fun h13 => ?_)
 ·
  refine sx_guardF rfl rfl rfl rfl rfl rfl ?_
  refine sx_guardF rfl rfl rfl rfl rfl rfl ?_
  refine sx_guardF rfl rfl rfl rfl rfl rfl ?_
  refine sx_guardF rfl rfl rfl rfl rfl rfl ?_
  refine sx_guardFU rfl rfl rfl rfl rfl ?_
  refine sx_guardFU rfl rfl rfl rfl rfl ?_
  refine sx_guardFU rfl rfl rfl rfl rfl ?_
  refine sx_guardFU rfl rfl rfl rfl rfl ?_
  refine sx_guardFU rfl rfl rfl rfl rfl ?_
  refine sx_guardFU rfl rfl rfl rfl rfl ?_
  refine sx_guardFU rfl rfl rfl rfl rfl ?_
  refine sx_guardF rfl rfl rfl rfl rfl rfl ?_
  refine sp rfl (px_pick rfl rfl) ?_
  refine wl_nil (q_n (k3 _ _ ?_))
  refine sx_sub (Sub.c 0 rfl (.c 2 rfl (.c 21 rfl .nil))) ?_
  refine sx_condT rfl ?_
  refine sx_seq fun K4 k4 => sx_region ?_
  refine av rfl rfl (wl_nil (q_n (k4 _ _ ?_)))
  refine sx_retc ?_
  refine q_r (sx_ret1 Tryd.results40 rfl ?_)
  exact ⟨bFalse (fun h => by first | (have h1 := h.2.1; omega) | exact h.2.2 ((last_getD (by omega)).2 (by assumption))), (Chg.refl 0 0 _)⟩
 refine sx_guardT rfl rfl rfl ?_
 refine mv rfl rfl ?_
 refine sx_guardT rfl rfl rfl ?_
 refine sp rfl (px_len rfl Tryd.underlying22 hva0) ?_
 refine sx_guardT rfl rfl rfl ?_
 refine sp rfl (px_gt rfl rfl) ?_
 refine sx_guardT rfl rfl rfl ?_
 refine mv rfl rfl ?_
 refine sx_tmpP (t := 12) rfl (fun h13x1 => ?_) (fun h13x1 => ?_)
 ·
  refine sx_guardT rfl rfl rfl ?_
  refine mv rfl rfl ?_
  refine sx_guardT rfl rfl rfl ?_
  refine mv rfl rfl ?_
  refine sx_guardT rfl rfl rfl ?_
  refine sp rfl (px_len rfl Tryd.underlying22 hva0) ?_
  refine sx_guardT rfl rfl rfl ?_
  refine sp rfl (px_sub rfl rfl (by omega)) ?_
  refine sx_guardT rfl rfl rfl ?_
  refine sp rfl (px_index1 (j := (zs.length - 1)) rfl rfl (by omega) Tryd.underlying22 Tryd.sizeOf3 hva0 (by omega)) ?_
  refine sx_guardT rfl rfl rfl ?_
  refine sp rfl (px_load rfl (hva0.load1 (at_int (by omega)) Tryd.isAgg3)) ?_
  refine sx_guardT rfl rfl rfl ?_
  refine sp rfl (px_eq rfl rfl) ?_
  refine sx_guardT rfl rfl rfl ?_
  refine sp rfl (px_pick rfl rfl) ?_
  refine sp rfl (px_pick rfl rfl) ?_
  refine wl_nil (q_n (k3 _ _ ?_))
  refine sx_sub (Sub.c 0 rfl (.c 2 rfl (.c 21 rfl .nil))) ?_
  refine sx_condP rfl (fun h13x2 => ?_) (fun h13x2 => ?_)
  ·
   refine sx_seq fun K5 k5 => sx_region ?_
   refine av rfl rfl (wl_nil (q_n (k5 _ _ ?_)))
   refine sx_retc ?_
   refine q_r (sx_ret1 Tryd.results40 rfl ?_)
   exact ⟨bFalse (fun h => by first | (have h1 := h.2.1; omega) | exact h.2.2 ((last_getD (by omega)).2 (by assumption))), (Chg.refl 0 0 _)⟩
  refine sx_skip ?_
  refine q_n (k2 _ _ ?_)
  refine sx_seq fun K6 k6 => ?_
  refine sx_seq fun K7 k7 => sx_region ?_
  refine mv rfl rfl (sp rfl (px_len rfl Tryd.underlying22 hva0) ?_)
  refine mv rfl rfl (wl_nil (q_n (k7 _ _ ?_)))
  refine sx_block ?_
  refine sx_loop (fun mm aa w' => ∃ (k : Nat), Agr 35 [(22, va), (23, .int .i64 ↑zs.length), (24, .int .i64 ↑k)] aa ∧ Chg 0 0 w w' ∧ (mm = zs.length - k) ∧ (k ≤ zs.length) ∧ (∀ i, i < k → 0 ≤ zs.getD i 0 ∧ zs.getD i 0 < 1000000000)) (_) (fun a ha => ⟨0, ha.sub (Sub.c 22 rfl (.c 23 (look_int (t := 23) rfl (by first | omega | simp)) (.c 24 (look_int (t := 24) rfl (by first | omega | simp)) .nil))), Chg.refl _ _ _, rfl, by omega, fun i h => by omega⟩) ?_
  rintro mm aa wl8 ⟨k, hAwl8, cwl8, hm, hk, hall⟩
  refine (show cw Tryd.prog 35 _ _ _ wl8 from ?_) aa hAwl8
  clear hAwl8
  have zwl8 := cwl8.size
  refine sx_seq fun K9 k9 => sx_region ?_
  refine sp rfl (px_lt rfl rfl) ?_
  refine wl_nil (q_n (k9 _ _ ?_))
  refine sx_seq fun K10 k10 => ?_
  refine sx_condP rfl (fun h16 => ?_) (fun h16 => ?_)
  ·
   refine sx_skip ?_
   refine q_n (k10 _ _ ?_)
   refine sx_seq fun K11 k11 => ?_
   refine sx_block ?_
   refine sx_seq fun K12 k12 => sx_region ?_
   have f13 := hva0.ext cwl8
   refine sp rfl (px_index1 (j := k) rfl rfl (by omega) Tryd.underlying22 Tryd.sizeOf3 f13 (by omega)) ?_
   refine sp rfl (px_load rfl (f13.load1 (at_int (by omega)) Tryd.isAgg3)) ?_
   refine av rfl rfl (wl_nil (q_n (k12 _ _ ?_)))
   refine sx_seq fun K14 k14 => sx_region ?_
   refine mv rfl rfl (sp rfl (px_lt rfl rfl) ?_)
   refine mv rfl rfl ?_
   refine sx_tmpP (t := 30) rfl (fun h17 => ?_) (fun h17 => ?_)
   ·
    refine sx_guardF rfl rfl rfl rfl rfl rfl ?_
    refine sx_guardF rfl rfl rfl rfl rfl rfl ?_
    refine sp rfl (px_pick rfl rfl) ?_
    refine wl_nil (q_n (k14 _ _ ?_))
    refine sx_condT rfl ?_
    refine sx_seq fun K15 k15 => sx_region ?_
    refine av rfl rfl (wl_nil (q_n (k15 _ _ ?_)))
    refine sx_retc ?_
    refine q_br (q_r (q_r (q_br (q_r (sx_ret1 Tryd.results40 rfl ?_)))))
    exact ⟨bFalse (fun h => by have h1 := h.1.getD k; omega), cwl8⟩
   refine sx_guardT rfl rfl rfl ?_
   refine mv rfl rfl ?_
   refine sx_guardT rfl rfl rfl ?_
   refine sp rfl (px_ge rfl rfl) ?_
   refine sp rfl (px_pick rfl rfl) ?_
   refine wl_nil (q_n (k14 _ _ ?_))
   refine sx_condP rfl (fun h17x1 => ?_) (fun h17x1 => ?_)
   ·
    refine sx_seq fun K16 k16 => sx_region ?_
    refine av rfl rfl (wl_nil (q_n (k16 _ _ ?_)))
    refine sx_retc ?_
    refine q_br (q_r (q_r (q_br (q_r (sx_ret1 Tryd.results40 rfl ?_)))))
    exact ⟨bFalse (fun h => by have h1 := h.1.getD k; omega), cwl8⟩
   refine sx_skip ?_
   refine q_bn (q_n (k11 _ _ ?_))
   refine sx_region ?_
   refine sp rfl (px_add rfl rfl (by omega)) ?_
   refine mv rfl rfl (wl_nil ?_)
   exact fun a ha => ⟨_, by omega, (k + 1), ha.sub (Sub.c 22 rfl (.c 23 rfl (.c 24 (look_int (t := 24) rfl (by first | omega | simp)) .nil))), cwl8, rfl, by omega, lm_succ hall (by omega)⟩
  refine sx_exit ?_
  refine q_e (q_e (q_bx (q_n (k6 _ _ ?_))))
  refine sx_seq fun K17 k17 => sx_region ?_
  refine av rfl rfl (wl_nil (q_n (k17 _ _ ?_)))
  refine sx_retc ?_
  refine sx_ret1 Tryd.results40 rfl ?_
  have ek : k = zs.length := by omega
  have hz : Lm zs := lm_mem (by rw [← ek]; exact hall)
  exact ⟨bTrue (NOk_mk hz (by omega) (by first | exact .inl (by omega) | exact .inr (by assumption))), cwl8⟩
 refine sx_guardF rfl rfl rfl rfl rfl rfl ?_
 refine sx_guardF rfl rfl rfl rfl rfl rfl ?_
 refine sx_guardF rfl rfl rfl rfl rfl rfl ?_
 refine sx_guardF rfl rfl rfl rfl rfl rfl ?_
 refine sx_guardF rfl rfl rfl rfl rfl rfl ?_
 refine sx_guardF rfl rfl rfl rfl rfl rfl ?_
 refine sx_guardF rfl rfl rfl rfl rfl rfl ?_
 refine sx_guardT rfl rfl rfl ?_
 refine sp rfl (px_pick rfl rfl) ?_
 refine sp rfl (px_pick rfl rfl) ?_
 refine wl_nil (q_n (k3 _ _ ?_))
 refine sx_sub (Sub.c 0 rfl (.c 2 rfl (.c 21 rfl .nil))) ?_
 refine sx_condF rfl ?_
 refine sx_skip ?_
 refine q_n (k2 _ _ ?_)
 refine sx_seq fun K18 k18 => ?_
 refine sx_seq fun K19 k19 => sx_region ?_
 refine mv rfl rfl (sp rfl (px_len rfl Tryd.underlying22 hva0) ?_)
 refine mv rfl rfl (wl_nil (q_n (k19 _ _ ?_)))
 refine sx_block ?_
 refine sx_loop (fun mm aa w' => ∃ (k : Nat), Agr 35 [(22, va), (23, .int .i64 ↑zs.length), (24, .int .i64 ↑k)] aa ∧ Chg 0 0 w w' ∧ (mm = zs.length - k) ∧ (k ≤ zs.length) ∧ (∀ i, i < k → 0 ≤ zs.getD i 0 ∧ zs.getD i 0 < 1000000000)) (_) (fun a ha => ⟨0, ha.sub (Sub.c 22 rfl (.c 23 (look_int (t := 23) rfl (by first | omega | simp)) (.c 24 (look_int (t := 24) rfl (by first | omega | simp)) .nil))), Chg.refl _ _ _, rfl, by omega, fun i h => by omega⟩) ?_
 rintro mm aa wl20 ⟨k, hAwl20, cwl20, hm, hk, hall⟩
 refine (show cw Tryd.prog 35 _ _ _ wl20 from ?_) aa hAwl20
 clear hAwl20
 have zwl20 := cwl20.size
 refine sx_seq fun K21 k21 => sx_region ?_
 refine sp rfl (px_lt rfl rfl) ?_
 refine wl_nil (q_n (k21 _ _ ?_))
 refine sx_seq fun K22 k22 => ?_
 refine sx_condP rfl (fun h16 => ?_) (fun h16 => ?_)
 ·
  refine sx_skip ?_
  refine q_n (k22 _ _ ?_)
  refine sx_seq fun K23 k23 => ?_
  refine sx_block ?_
  refine sx_seq fun K24 k24 => sx_region ?_
  have f25 := hva0.ext cwl20
  refine sp rfl (px_index1 (j := k) rfl rfl (by omega) Tryd.underlying22 Tryd.sizeOf3 f25 (by omega)) ?_
  refine sp rfl (px_load rfl (f25.load1 (at_int (by omega)) Tryd.isAgg3)) ?_
  refine av rfl rfl (wl_nil (q_n (k24 _ _ ?_)))
  refine sx_seq fun K26 k26 => sx_region ?_
  refine mv rfl rfl (sp rfl (px_lt rfl rfl) ?_)
  refine mv rfl rfl ?_
  refine sx_tmpP (t := 30) rfl (fun h17 => ?_) (fun h17 => ?_)
  ·
   refine sx_guardF rfl rfl rfl rfl rfl rfl ?_
   refine sx_guardF rfl rfl rfl rfl rfl rfl ?_
   refine sp rfl (px_pick rfl rfl) ?_
   refine wl_nil (q_n (k26 _ _ ?_))
   refine sx_condT rfl ?_
   refine sx_seq fun K27 k27 => sx_region ?_
   refine av rfl rfl (wl_nil (q_n (k27 _ _ ?_)))
   refine sx_retc ?_
   refine q_br (q_r (q_r (q_br (q_r (sx_ret1 Tryd.results40 rfl ?_)))))
   exact ⟨bFalse (fun h => by have h1 := h.1.getD k; omega), cwl20⟩
  refine sx_guardT rfl rfl rfl ?_
  refine mv rfl rfl ?_
  refine sx_guardT rfl rfl rfl ?_
  refine sp rfl (px_ge rfl rfl) ?_
  refine sp rfl (px_pick rfl rfl) ?_
  refine wl_nil (q_n (k26 _ _ ?_))
  refine sx_condP rfl (fun h17x1 => ?_) (fun h17x1 => ?_)
  ·
   refine sx_seq fun K28 k28 => sx_region ?_
   refine av rfl rfl (wl_nil (q_n (k28 _ _ ?_)))
   refine sx_retc ?_
   refine q_br (q_r (q_r (q_br (q_r (sx_ret1 Tryd.results40 rfl ?_)))))
   exact ⟨bFalse (fun h => by have h1 := h.1.getD k; omega), cwl20⟩
  refine sx_skip ?_
  refine q_bn (q_n (k23 _ _ ?_))
  refine sx_region ?_
  refine sp rfl (px_add rfl rfl (by omega)) ?_
  refine mv rfl rfl (wl_nil ?_)
  exact fun a ha => ⟨_, by omega, (k + 1), ha.sub (Sub.c 22 rfl (.c 23 rfl (.c 24 (look_int (t := 24) rfl (by first | omega | simp)) .nil))), cwl20, rfl, by omega, lm_succ hall (by omega)⟩
 refine sx_exit ?_
 refine q_e (q_e (q_bx (q_n (k18 _ _ ?_))))
 refine sx_seq fun K29 k29 => sx_region ?_
 refine av rfl rfl (wl_nil (q_n (k29 _ _ ?_)))
 refine sx_retc ?_
 refine sx_ret1 Tryd.results40 rfl ?_
 have ek : k = zs.length := by omega
 have hz : Lm zs := lm_mem (by rw [← ek]; exact hall)
 exact ⟨bTrue (NOk_mk hz (by omega) (by first | exact .inl (by omega) | exact .inr (by assumption))), cwl20⟩

theorem c_iIntOk {w : World} {n1 : Bool} {v1 : Value} {lv1 uv1 : Nat} {z1 : List Int} (hv1 : Sl w lv1 uv1 v1 (z1)) (h63 : z1.length ≤ 4611686018427387904) :
  Ret Tryd.prog 32 [.agg #[.bool n1, v1]] w fun v w' => v = .bool (decide (IOk n1 z1)) ∧ Chg 0 0 w w' := by
 have hv10 := hv1.fit
 refine sx_enter Tryd.func32 rfl Tryd.ntmps32 (nbl rfl) ?_
 refine sx_seq fun K1 k1 => sx_region ?_
 refine sx_box [.bool n1, v1] rfl rfl rfl (fun b2 w3 eb2 sb2 fb2 cb2 => ?_)
 have zw3 := cb2.size
 refine av rfl rfl (wl_nil (q_n (k1 _ _ ?_)))
 refine sx_seq fun K4 k4 => sx_region ?_
 refine sp rfl (px_field rfl xfld28x1) ?_
 refine sp rfl (px_load rfl (fb2.load1 rfl Tryd.isAgg22)) ?_
 have f5 := hv10.ext cb2
 refine sx_call rfl rfl Tryd.call40 (c_iNatOk f5 (by omega)) (fun v6 w6 p6 => ?_)
 obtain ⟨rfl, c6⟩ := p6
 have zw6 := c6.size
 refine mv rfl rfl ?_
 refine sx_tmpP (t := 6) rfl (fun h10 => ?_) (fun h10 => ?_)
 ·
  refine sx_guardT rfl rfl rfl ?_
  refine sp rfl (px_field rfl xfld28x0) ?_
  refine sx_guardT rfl rfl rfl ?_
  have f7 := fb2.ext c6
  refine sp rfl (px_load rfl (f7.load1 rfl Tryd.isAgg4)) ?_
  refine sx_guardT rfl rfl rfl ?_
  refine sp rfl (px_not rfl) ?_
  refine sx_guardT rfl rfl rfl ?_
  refine mv rfl rfl ?_
  refine sx_tmpB (t := 10) rfl (fun h10x1 => ?_) (fun h10x1 => ?_)
  ·
   refine sx_guardF rfl rfl rfl rfl rfl rfl ?_
   refine sx_guardF rfl rfl rfl rfl rfl rfl ?_
   refine sx_guardF rfl rfl rfl rfl rfl rfl ?_
   refine sx_guardF rfl rfl rfl rfl rfl rfl ?_
   refine sx_guardT rfl rfl rfl ?_
   refine sp rfl (px_pick rfl rfl) ?_
   refine sp rfl (px_pick rfl rfl) ?_
   refine av rfl rfl (wl_nil (q_n (k4 _ _ ?_)))
   refine sx_sub (Sub.c 2 rfl .nil) ?_
   refine sx_retc ?_
   refine sx_ret1 Tryd.results32 rfl ?_
   exact ⟨(by first | exact bTrue (by grind [IOk]) | exact bFalse (by grind [IOk]) | exact bIff (by grind [IOk])), (cb2.t c6)⟩
  refine sx_guardT rfl rfl rfl ?_
  refine sp rfl (px_field rfl xfld28x1) ?_
  refine sx_guardT rfl rfl rfl ?_
  refine sp rfl (px_load rfl (f7.load1 rfl Tryd.isAgg22)) ?_
  refine sx_guardT rfl rfl rfl ?_
  have f8 := f5.ext c6
  refine sp rfl (px_len rfl Tryd.underlying22 f8) ?_
  refine sx_guardT rfl rfl rfl ?_
  refine sp rfl (px_gt rfl rfl) ?_
  refine sx_guardT rfl rfl rfl ?_
  refine sp rfl (px_pick rfl rfl) ?_
  refine sp rfl (px_pick rfl rfl) ?_
  refine av rfl rfl (wl_nil (q_n (k4 _ _ ?_)))
  refine sx_sub (Sub.c 2 rfl .nil) ?_
  refine sx_retc ?_
  refine sx_ret1 Tryd.results32 rfl ?_
  exact ⟨(by first | exact bTrue (by grind [IOk]) | exact bFalse (by grind [IOk]) | exact bIff (by grind [IOk])), (cb2.t c6)⟩
 refine sx_guardF rfl rfl rfl rfl rfl rfl ?_
 refine sx_guardF rfl rfl rfl rfl rfl rfl ?_
 refine sx_guardF rfl rfl rfl rfl rfl rfl ?_
 refine sx_guardF rfl rfl rfl rfl rfl rfl ?_
 refine sx_guardFU rfl rfl rfl rfl rfl ?_
 refine sx_guardFU rfl rfl rfl rfl rfl ?_
 refine sx_guardFU rfl rfl rfl rfl rfl ?_
 refine sx_guardFU rfl rfl rfl rfl rfl ?_
 refine sx_guardF rfl rfl rfl rfl rfl rfl ?_
 refine sp rfl (px_pick rfl rfl) ?_
 refine av rfl rfl (wl_nil (q_n (k4 _ _ ?_)))
 refine sx_sub (Sub.c 2 rfl .nil) ?_
 refine sx_retc ?_
 refine sx_ret1 Tryd.results32 rfl ?_
 exact ⟨(by first | exact bTrue (by grind [IOk]) | exact bFalse (by grind [IOk]) | exact bIff (by grind [IOk])), (cb2.t c6)⟩

theorem c_iMoneyOk {w : World} {c1 : ByteArray} {n1 : Bool} {v1 : Value} {lv1 uv1 : Nat} {z1 : List Int} (hG0 : Glob w) (hv1 : Sl w lv1 uv1 v1 (z1)) (h63 : z1.length ≤ 4611686018427387904) :
  Ret Tryd.prog 17 [.agg #[.string c1, .bool n1, v1]] w fun v w' => v = .bool (decide (MOk c1 n1 z1)) ∧ Chg 0 0 w w' := by
 have hv10 := hv1.fit
 refine sx_enter Tryd.func17 rfl Tryd.ntmps17 (nbl rfl) ?_
 refine sx_seq fun K1 k1 => sx_region ?_
 refine sx_box [.string c1, .bool n1, v1] rfl rfl rfl (fun b2 w3 eb2 sb2 fb2 cb2 => ?_)
 have zw3 := cb2.size
 refine av rfl rfl (wl_nil (q_n (k1 _ _ ?_)))
 refine sx_seq fun K4 k4 => sx_region ?_
 refine sp rfl (px_field rfl xfld33x0) ?_
 refine sp rfl (px_load rfl (fb2.load1 rfl Tryd.isAgg9)) ?_
 have f5 := hG0.ext cb2
 refine sx_call rfl rfl Tryd.call31 (c_iCurKnown f5) (fun v6 w6 p6 => ?_)
 obtain ⟨rfl, c6⟩ := p6
 have zw6 := c6.size
 refine mv rfl rfl ?_
 refine sx_tmpP (t := 6) rfl (fun h14 => ?_) (fun h14 => ?_)
 ·
  refine sx_guardT rfl rfl rfl ?_
  refine sp rfl (px_field rfl xfld33x1) ?_
  refine sx_guardT rfl rfl rfl ?_
  have f7 := fb2.ext c6
  refine sp rfl (px_load rfl (f7.loadA (vs := [.bool n1, v1]) (look_lit rfl) Tryd.isAgg28 Tryd.sizeOf28)) ?_
  refine sx_guardT rfl rfl rfl ?_
  have f8 := hv10.ext cb2
  have f9 := f8.ext c6
  refine sx_call rfl rfl Tryd.call32 (c_iIntOk f9 (by omega)) (fun v10 w10 p10 => ?_)
  obtain ⟨rfl, c10⟩ := p10
  have zw10 := c10.size
  refine sp rfl (px_pick rfl rfl) ?_
  refine mv rfl rfl ?_
  refine sx_tmpP (t := 11) rfl (fun h14x1 => ?_) (fun h14x1 => ?_)
  ·
   refine sx_guardT rfl rfl rfl ?_
   refine sp rfl (px_field rfl xfld33x1) ?_
   refine sx_guardT rfl rfl rfl ?_
   refine sp rfl (px_field rfl xfld28x1) ?_
   refine sx_guardT rfl rfl rfl ?_
   have f11 := f7.ext c10
   refine sp rfl (px_load rfl (f11.load1 rfl Tryd.isAgg22)) ?_
   refine sx_guardT rfl rfl rfl ?_
   have f12 := f9.ext c10
   refine sp rfl (px_len rfl Tryd.underlying22 f12) ?_
   refine sx_guardT rfl rfl rfl ?_
   refine sp rfl (px_le rfl rfl) ?_
   refine sp rfl (px_pick rfl rfl) ?_
   refine av rfl rfl (wl_nil (q_n (k4 _ _ ?_)))
   refine sx_sub (Sub.c 2 rfl .nil) ?_
   refine sx_retc ?_
   refine sx_ret1 Tryd.results17 rfl ?_
   exact ⟨(by first | exact bTrue (by grind [MOk]) | exact bFalse (by grind [MOk]) | exact bIff (by grind [MOk])), ((cb2.t c6).t c10)⟩
  refine sx_guardF rfl rfl rfl rfl rfl rfl ?_
  refine sx_guardF rfl rfl rfl rfl rfl rfl ?_
  refine sx_guardF rfl rfl rfl rfl rfl rfl ?_
  refine sx_guardF rfl rfl rfl rfl rfl rfl ?_
  refine sx_guardF rfl rfl rfl rfl rfl rfl ?_
  refine sp rfl (px_pick rfl rfl) ?_
  refine av rfl rfl (wl_nil (q_n (k4 _ _ ?_)))
  refine sx_sub (Sub.c 2 rfl .nil) ?_
  refine sx_retc ?_
  refine sx_ret1 Tryd.results17 rfl ?_
  exact ⟨(by first | exact bTrue (by grind [MOk]) | exact bFalse (by grind [MOk]) | exact bIff (by grind [MOk])), ((cb2.t c6).t c10)⟩
 refine sx_guardF rfl rfl rfl rfl rfl rfl ?_
 refine sx_guardF rfl rfl rfl rfl rfl rfl ?_
 refine sx_guardF rfl rfl rfl rfl rfl rfl ?_
 refine sp rfl (px_pick rfl rfl) ?_
 refine mv rfl rfl ?_
 refine sx_guardF rfl rfl rfl rfl rfl rfl ?_
 refine sx_guardF rfl rfl rfl rfl rfl rfl ?_
 refine sx_guardF rfl rfl rfl rfl rfl rfl ?_
 refine sx_guardF rfl rfl rfl rfl rfl rfl ?_
 refine sx_guardF rfl rfl rfl rfl rfl rfl ?_
 refine sp rfl (px_pick rfl rfl) ?_
 refine av rfl rfl (wl_nil (q_n (k4 _ _ ?_)))
 refine sx_sub (Sub.c 2 rfl .nil) ?_
 refine sx_retc ?_
 refine sx_ret1 Tryd.results17 rfl ?_
 exact ⟨(by first | exact bTrue (by grind [MOk]) | exact bFalse (by grind [MOk]) | exact bIff (by grind [MOk])), (cb2.t c6)⟩

theorem c_natCopy {w : World} {va : Value} {lva uva : Nat} {zs : List Int} (hva : Sl w lva uva va (zs)) (h63 : zs.length ≤ 1048576) :
  Ret Tryd.prog 33 [va] w fun v w' => ∃ s, v = s ∧ OwnI w' w.heap.size w'.heap.size s intT (zs) ∧ Chg 0 0 w w' := by
 have hva0 := hva.fit
 refine sx_enter Tryd.func33 rfl Tryd.ntmps33 (nbl rfl) ?_
 refine sx_seq fun K1 k1 => sx_region ?_
 refine av rfl rfl (wl_nil (q_n (k1 _ _ ?_)))
 refine sx_seq fun K2 k2 => sx_region ?_
 refine sx_lit0 rfl xelt22 (fun s3 ws3 ss3 fs3 cs3 => ?_)
 have zws3 := cs3.size
 refine mv rfl rfl ?_
 have f5 := hva0.ext cs3
 refine sx_append rfl xelt22 rfl rfl fs3 f5 one_int (by omega) (by omega) (by unfold maxLen; omega) (fun a4 w4 fw4 cw4 => ?_)
 have nw4 := Own.norm (f := (Value.int .i64)) (zs := zs) fw4
 have zw4 := cw4.size
 refine av rfl rfl (wl_nil (q_n (k2 _ _ ?_)))
 refine sx_retc ?_
 refine sx_ret1 Tryd.results33 rfl ?_
 have q6 := Chg.step (l := 0) (h := 0) (Chg.zero (l := 0) (h := 0) cs3) cw4 (by omega)
 exact ⟨_, rfl, Own.mono nw4 (by omega) (by omega), q6⟩

theorem c_intCopy {w : World} {n1 : Bool} {v1 : Value} {lv1 uv1 : Nat} {z1 : List Int} (hv1 : Sl w lv1 uv1 v1 (z1)) (bz1 : z1.length ≤ 1048576) :
  Ret Tryd.prog 18 [.agg #[.bool n1, v1]] w fun v w' => ∃ s, v = .agg #[.bool (n1), s] ∧ OwnI w' w.heap.size w'.heap.size s intT (z1) ∧ Chg 0 0 w w' := by
 have hv10 := hv1.fit
 refine sx_enter Tryd.func18 rfl Tryd.ntmps18 (nbl rfl) ?_
 refine sx_seq fun K1 k1 => sx_region ?_
 refine sx_box [.bool n1, v1] rfl rfl rfl (fun b2 w3 eb2 sb2 fb2 cb2 => ?_)
 have zw3 := cb2.size
 refine sx_alloc [.bool false, (.slice none 0 0)] rfl Tryd.zeroValue28 rfl (fun b4 w5 eb4 sb4 fb4 cb4 => ?_)
 have zw5 := cb4.size
 refine wl_nil (q_n (k1 _ _ ?_))
 refine sx_seq fun K6 k6 => ?_
 have f7 := fb2.ext cb4
 have f8 := hv10.ext cb2
 have f9 := f8.ext cb4
 refine dx_region (fun w' => Chg b4 (b4 + 1) w5 w') (by kernel_rfl) (Chg.zero (Chg.drew _)) ?_
 have d10 := Chg.drew w5
 have s10 : Chg b4 (b4 + 1) w5 (World.drew w5) := Chg.zero (Chg.drew _)
 have y10 : (World.drew w5).heap.size = w5.heap.size := rfl
 generalize World.drew w5 = w10 at *
 have zw10 := d10.size
 refine dt 0 rfl rfl rfl rfl s10 (fun _ hS => px_field rfl xfld28x0) ?_
 refine dt 1 rfl rfl rfl rfl s10 (fun _ hS => px_load rfl ((f7.chg hS (by omega)).load1 rfl Tryd.isAgg4)) ?_
 refine dt 2 rfl rfl rfl rfl s10 (fun _ hS => px_field rfl xfld28x1) ?_
 refine dt 3 rfl rfl rfl rfl s10 (fun _ hS => px_load rfl ((f7.chg hS (by omega)).load1 rfl Tryd.isAgg22)) ?_
 refine dx_eff 4 rfl (by kernel_rfl) ?_
 have f11 := f9.ext d10
 refine sx_call rfl rfl Tryd.call33 (c_natCopy f11 (by omega)) (fun v12 w12 p12 => ?_)
 obtain ⟨s12, rfl, os_12, c12⟩ := p12
 have zw12 := c12.size
 have s13 : Chg b4 (b4 + 1) w5 w12 := (Chg.zero (l := b4) (h := (b4 + 1)) (d10.t c12))
 refine wl_nil ?_
 refine dx_next s13 ?_
 refine dt 5 rfl rfl rfl rfl s13 (fun _ hS => px_build rfl (xbld28x0x1 rfl os_12.one _)) ?_
 refine dx_eff 6 rfl (by kernel_rfl) ?_
 have f16 := (fb4.ext d10).ext c12
 refine sx_store (vs := [.bool n1, v12]) rfl rfl f16 rfl Tryd.sizeOf28 (nbl rfl) (one_cons rfl (one_cons os_12.one one_nil)) (fun w14 sw14 fw14 cw14 => ?_)
 have zw14 := cw14.size
 have gw14 : Blk w14 b4 [.bool n1, v12] 28 := fw14
 have q18 := Chg.step (l := b4) (h := (b4 + 1)) (Chg.zero (l := b4) (h := (b4 + 1)) (d10.t c12)) cw14 (by omega)
 have s17 : Chg b4 (b4 + 1) w5 w14 := q18
 refine wl_nil ?_
 refine dx_next s17 ?_
 refine dx_done (by kernel_rfl) ?_
 refine q_n (k6 _ _ ?_)
 refine sx_retc ?_
 refine sx_ret1 Tryd.results18 ⟨_, rfl, gw14.loadA (vs := [.bool n1, v12]) (look_lit rfl) Tryd.isAgg28 Tryd.sizeOf28⟩ ?_
 have q19 := Chg.step (l := 0) (h := 0) (Chg.zero (l := 0) (h := 0) (((cb2.t cb4).t d10).t c12)) cw14 (by omega)
 have f20 := os_12.chg cw14 (by omega)
 exact ⟨_, rfl, (Own.mono f20 (by omega) (by omega)), q19⟩

theorem c_iMoneyRat {w : World} {c1 : ByteArray} {n1 : Bool} {v1 : Value} {lv1 uv1 : Nat} {z1 : List Int} (hG0 : Glob w) (hv1 : Sl w lv1 uv1 v1 (z1)) (h63 : z1.length ≤ 4611686018427387904) :
  Ret Tryd.prog 7 [.agg #[.string c1, .bool n1, v1]] w fun v w' => ∃ s t ls us lt ut, v = .agg #[.bool ((mRat c1 n1 z1).1), s, t] ∧ OwnI w' (ls) (us) s intT ((mRat c1 n1 z1).2.1) ∧ OwnI w' (lt) (ut) t intT ((mRat c1 n1 z1).2.2.1) ∧ (w.heap.size ≤ ls ∧ us ≤ w'.heap.size ∧ w.heap.size ≤ lt ∧ ut ≤ w'.heap.size ∧ (us ≤ lt ∨ ut ≤ ls)) ∧ ((mRat c1 n1 z1).2.1.length ≤ 18 ∧ (mRat c1 n1 z1).2.2.1.length ≤ 18) ∧ Chg 0 0 w w' := by
 have hv10 := hv1.fit
 refine sx_enter Tryd.func7 rfl Tryd.ntmps7 (nbl rfl) ?_
 refine sx_seq fun K1 k1 => sx_region ?_
 refine sx_box [.string c1, .bool n1, v1] rfl rfl rfl (fun b2 w3 eb2 sb2 fb2 cb2 => ?_)
 have zw3 := cb2.size
 refine sx_alloc [.bool false, (.slice none 0 0), (.slice none 0 0)] rfl Tryd.zeroValue30 rfl (fun b4 w5 eb4 sb4 fb4 cb4 => ?_)
 have zw5 := cb4.size
 refine wl_nil (q_n (k1 _ _ ?_))
 refine sx_seq fun K6 k6 => ?_
 refine sx_seq fun K7 k7 => sx_region ?_
 have f8 := fb2.ext cb4
 refine sp rfl (px_load rfl (f8.loadA (vs := [.string c1, .bool n1, v1]) (look_lit rfl) Tryd.isAgg33 Tryd.sizeOf33)) ?_
 have f9 := hG0.ext cb2
 have f10 := f9.ext cb4
 have f11 := hv10.ext cb2
 have f12 := f11.ext cb4
 refine sx_call rfl rfl Tryd.call17 (c_iMoneyOk f10 f12 (by omega)) (fun v13 w13 p13 => ?_)
 obtain ⟨rfl, c13⟩ := p13
 have zw13 := c13.size
 refine sp rfl (px_notP rfl) ?_
 refine wl_nil (q_n (k7 _ _ ?_))
 refine sx_condP rfl (fun h98 => ?_) (fun h98 => ?_)
 ·
  refine sx_seq fun K14 k14 => sx_region ?_
  refine sp rfl (px_build rfl (xbld30x  _)) ?_
  have f16 := fb4.ext c13
  refine sx_store (vs := [.bool false, (.slice none 0 0), (.slice none 0 0)]) rfl rfl f16 rfl Tryd.sizeOf30 (nbl rfl) (o3 rfl rfl rfl) (fun w15 sw15 fw15 cw15 => ?_)
  have zw15 := cw15.size
  have gw15 : Blk w15 b4 [.bool false, (.slice none 0 0), (.slice none 0 0)] 30 := fw15
  refine wl_nil (q_n (k14 _ _ ?_))
  refine sx_retc ?_
  refine q_r (sx_ret1 Tryd.results7 ⟨_, rfl, gw15.loadA (vs := [.bool false, (.slice none 0 0), (.slice none 0 0)]) (look_lit rfl) Tryd.isAgg30 Tryd.sizeOf30⟩ ?_)
  rw [mRat_no h98]
  have q17 := Chg.step (l := 0) (h := 0) (Chg.zero (l := 0) (h := 0) ((cb2.t cb4).t c13)) cw15 (by omega)
  exact ⟨_, _, w.heap.size, w.heap.size, w.heap.size, w.heap.size, rfl, Own.nil _ _ _ _ _, Own.nil _ _ _ _ _, by omega, ⟨by simp [noR], by simp [noR]⟩, q17⟩
 have hM := Decidable.not_not.1 h98
 have hM4 := hM.2.2
 refine sx_skip ?_
 refine q_n (k6 _ _ ?_)
 refine sx_seq fun K18 k18 => sx_region ?_
 refine sp rfl (px_field rfl xfld33x1) ?_
 have f19 := f8.ext c13
 refine sp rfl (px_load rfl (f19.loadA (vs := [.bool n1, v1]) (look_lit rfl) Tryd.isAgg28 Tryd.sizeOf28)) ?_
 have f20 := f12.ext c13
 refine sx_call rfl rfl Tryd.call18 (c_intCopy f20 (by omega)) (fun v21 w21 p21 => ?_)
 obtain ⟨s21, rfl, os_21, c21⟩ := p21
 have zw21 := c21.size
 refine sx_lit1 rfl xelt22 rfl rfl (fun s22 ws22 ss22 fs22 cs22 => ?_)
 have ns22 := Own.norm (f := (Value.int .i64)) (zs := [1]) fs22
 have zws22 := cs22.size
 refine sp rfl (px_build rfl (xbld30x0x1 ns22.one _)) ?_
 have f26 := ((fb4.ext c13).ext c21).ext cs22
 have f27 := os_21.ext cs22
 refine sx_store (vs := [.bool n1, s21, s22]) rfl rfl f26 rfl Tryd.sizeOf30 (nbl rfl) (one_cons rfl (one_cons f27.one (one_cons ns22.one one_nil))) (fun w23 sw23 fw23 cw23 => ?_)
 have zw23 := cw23.size
 have gw23 : Blk w23 b4 [.bool n1, s21, s22] 30 := fw23
 refine wl_nil (q_n (k18 _ _ ?_))
 refine sx_retc ?_
 refine sx_ret1 Tryd.results7 ⟨_, rfl, gw23.loadA (vs := [.bool n1, s21, s22]) (look_lit rfl) Tryd.isAgg30 Tryd.sizeOf30⟩ ?_
 have hrl := mRat_len (c := c1) (n := n1) (z := z1)
 rw [mRat_ok hM] at hrl ⊢
 have q28 := Chg.step (l := 0) (h := 0) (Chg.zero (l := 0) (h := 0) ((((cb2.t cb4).t c13).t c21).t cs22)) cw23 (by omega)
 have f29 := f27.chg cw23 (by omega)
 have f30 := ns22.chg cw23 (by omega)
 exact ⟨_, _, _, _, _, _, rfl, f29, f30, by omega, hrl, q28⟩

theorem c_eqIntS {w : World} {va : Value} {lva uva : Nat} {zs : List Int} {vb : Value} {lvb uvb : Nat} {ys : List Int} (hva : Sl w lva uva va (zs)) (hvb : Sl w lvb uvb vb (ys)) (h63 : zs.length ≤ 4611686018427387904 ∧ ys.length ≤ 4611686018427387904) :
  Ret Tryd.prog 20 [va, vb] w fun v w' => v = .bool (decide (zs = ys)) ∧ Chg 0 0 w w' := by
 have hva0 := hva.fit
 have hvb0 := hvb.fit
 have hneq : zs.length ≠ ys.length → zs ≠ ys := fun h e => h (by rw [e])
 refine sx_enter Tryd.func20 rfl Tryd.ntmps20 (nbl rfl) ?_
 refine sx_seq fun K1 k1 => sx_region ?_
 refine av rfl rfl (wl_nil (q_n (k1 _ _ ?_)))
 refine sx_seq fun K2 k2 => ?_
 refine sx_seq fun K3 k3 => sx_region ?_
 refine mv rfl rfl (sp rfl (px_len rfl Tryd.underlying22 hva0) ?_)
 refine mv rfl rfl (sp rfl (px_len rfl Tryd.underlying22 hvb0) ?_)
 refine sp rfl (px_ne rfl rfl) ?_
 refine wl_nil (q_n (k3 _ _ ?_))
 refine sx_condP rfl (fun h210 => ?_) (fun h210 => ?_)
 ·
  refine sx_seq fun K4 k4 => sx_region ?_
  refine av rfl rfl (wl_nil (q_n (k4 _ _ ?_)))
  refine sx_retc ?_
  refine q_r (sx_ret1 Tryd.results20 rfl ?_)
  exact ⟨bFalse (hneq (by omega)), (Chg.refl 0 0 _)⟩
 refine sx_skip ?_
 refine q_n (k2 _ _ ?_)
 refine sx_seq fun K5 k5 => ?_
 refine sx_seq fun K6 k6 => sx_region ?_
 refine av rfl rfl (wl_nil (q_n (k6 _ _ ?_)))
 refine sx_block ?_
 refine sx_loop (fun mm aa w' => ∃ (k : Nat), Agr 26 [(0, va), (1, vb), (5, .int .i64 ↑k)] aa ∧ Chg 0 0 w w' ∧ (mm = zs.length - k) ∧ (k ≤ zs.length) ∧ (zs.take k = ys.take k)) (_) (fun a ha => ⟨0, ha.sub (Sub.c 0 rfl (.c 1 rfl (.c 5 (look_int (t := 5) rfl (by first | omega | simp)) .nil))), Chg.refl _ _ _, rfl, by omega, by simp⟩) ?_
 rintro mm aa wl7 ⟨k, hAwl7, cwl7, hm, hk, he⟩
 refine (show cw Tryd.prog 26 _ _ _ wl7 from ?_) aa hAwl7
 clear hAwl7
 have zwl7 := cwl7.size
 refine sx_seq fun K8 k8 => ?_
 refine sx_seq fun K9 k9 => sx_region ?_
 refine mv rfl rfl (mv rfl rfl ?_)
 have f10 := hva0.ext cwl7
 refine sp rfl (px_len rfl Tryd.underlying22 f10) ?_
 refine sp rfl (px_lt rfl rfl) ?_
 refine wl_nil (q_n (k9 _ _ ?_))
 refine sx_condP rfl (fun h213 => ?_) (fun h213 => ?_)
 ·
  refine sx_skip ?_
  refine q_n (k8 _ _ ?_)
  refine sx_seq fun K11 k11 => ?_
  refine sx_block ?_
  refine sx_seq fun K12 k12 => ?_
  have f13 := hvb0.ext cwl7
  refine dx_region (fun w' => Chg 0 0 wl7 w') (by kernel_rfl) (Chg.zero (Chg.drew _)) ?_
  have d14 := Chg.drew wl7
  have s14 : Chg 0 0 wl7 (World.drew wl7) := Chg.zero (Chg.drew _)
  have y14 : (World.drew wl7).heap.size = wl7.heap.size := rfl
  generalize World.drew wl7 = w14 at *
  have zw14 := d14.size
  refine dt 0 rfl rfl rfl rfl s14 (fun _ hS => px_move rfl) ?_
  refine dt 1 rfl rfl rfl rfl s14 (fun _ hS => px_move rfl) ?_
  refine dt 2 rfl rfl rfl rfl s14 (fun _ hS => px_index1 (j := k) rfl rfl (by omega) Tryd.underlying22 Tryd.sizeOf3 ((f10).chg hS (by omega)) (by omega)) ?_
  refine dt 3 rfl rfl rfl rfl s14 (fun _ hS => px_load rfl (((f10).chg hS (by omega)).load1 (at_int (by omega)) Tryd.isAgg3)) ?_
  refine dt 4 rfl rfl rfl rfl s14 (fun _ hS => px_move rfl) ?_
  refine dt 5 rfl rfl rfl rfl s14 (fun _ hS => px_move rfl) ?_
  refine dt 6 rfl rfl rfl rfl s14 (fun _ hS => px_index1 (j := k) rfl rfl (by omega) Tryd.underlying22 Tryd.sizeOf3 ((f13).chg hS (by omega)) (by omega)) ?_
  refine dt 7 rfl rfl rfl rfl s14 (fun _ hS => px_load rfl (((f13).chg hS (by omega)).load1 (at_int (by omega)) Tryd.isAgg3)) ?_
  refine dt 8 rfl rfl rfl rfl s14 (fun _ hS => px_ne rfl rfl) ?_
  refine dx_done (by kernel_rfl) ?_
  refine q_n (k12 _ _ ?_)
  refine sx_sub (Sub.c 0 rfl (.c 1 rfl (.c 5 rfl (.c 25 rfl .nil)))) ?_
  refine sx_condP rfl (fun h214 => ?_) (fun h214 => ?_)
  ·
   refine sx_seq fun K15 k15 => sx_region ?_
   refine av rfl rfl (wl_nil (q_n (k15 _ _ ?_)))
   refine sx_retc ?_
   refine q_br (q_r (q_r (q_br (q_r (sx_ret1 Tryd.results20 rfl ?_)))))
   exact ⟨bFalse (ne_of_getD h214), (cwl7.t d14)⟩
  refine sx_skip ?_
  refine q_bn (q_n (k11 _ _ ?_))
  refine sx_region ?_
  refine mv rfl rfl (sp rfl (px_add rfl rfl (by omega)) ?_)
  refine av rfl rfl (wl_nil ?_)
  exact fun a ha => ⟨_, by omega, (k + 1), ha.sub (Sub.c 0 rfl (.c 1 rfl (.c 5 (look_int (t := 5) rfl (by first | omega | simp)) .nil))), (cwl7.t d14), rfl, by omega, take_succ_eq he (by omega) (by omega) (Decidable.not_not.1 h214)⟩
 refine sx_exit ?_
 refine q_e (q_e (q_bx (q_n (k5 _ _ ?_))))
 refine sx_seq fun K16 k16 => sx_region ?_
 refine av rfl rfl (wl_nil (q_n (k16 _ _ ?_)))
 refine sx_retc ?_
 refine sx_ret1 Tryd.results20 rfl ?_
 have e1 : k = zs.length := by omega
 rw [e1, List.take_length, List.take_of_length_le (by omega)] at he
 exact ⟨bTrue he, cwl7⟩

theorem c_eqSigned {w : World} {n1 : Bool} {v1 : Value} {lv1 uv1 : Nat} {z1 : List Int} {n2 : Bool} {v2 : Value} {lv2 uv2 : Nat} {z2 : List Int} (hv1 : Sl w lv1 uv1 v1 (z1)) (hv2 : Sl w lv2 uv2 v2 (z2)) (h63 : z1.length ≤ 4611686018427387904 ∧ z2.length ≤ 4611686018427387904) :
  Ret Tryd.prog 19 [.agg #[.bool n1, v1], .agg #[.bool n2, v2]] w fun v w' => v = .bool (decide (n1 = n2 ∧ z1 = z2)) ∧ Chg 0 0 w w' := by
 have hv10 := hv1.fit
 have hv20 := hv2.fit
 refine sx_enter Tryd.func19 rfl Tryd.ntmps19 (nbl rfl) ?_
 refine sx_seq fun K1 k1 => sx_region ?_
 refine sx_box [.bool n1, v1] rfl rfl rfl (fun b2 w3 eb2 sb2 fb2 cb2 => ?_)
 have zw3 := cb2.size
 refine sx_box [.bool n2, v2] rfl rfl rfl (fun b4 w5 eb4 sb4 fb4 cb4 => ?_)
 have zw5 := cb4.size
 refine av rfl rfl (wl_nil (q_n (k1 _ _ ?_)))
 refine sx_seq fun K6 k6 => ?_
 refine sx_seq fun K7 k7 => sx_region ?_
 refine sp rfl (px_field rfl xfld28x0) ?_
 have f8 := fb2.ext cb4
 refine sp rfl (px_load rfl (f8.load1 rfl Tryd.isAgg4)) ?_
 refine sp rfl (px_field rfl xfld28x0) ?_
 refine sp rfl (px_load rfl (fb4.load1 rfl Tryd.isAgg4)) ?_
 refine sp rfl (px_neB Tryd.underlying4 rfl rfl) ?_
 refine wl_nil (q_n (k7 _ _ ?_))
 refine sx_condB rfl (fun h263 => ?_) (fun h263 => ?_)
 ·
  refine sx_seq fun K9 k9 => sx_region ?_
  refine av rfl rfl (wl_nil (q_n (k9 _ _ ?_)))
  refine sx_retc ?_
  refine q_r (sx_ret1 Tryd.results19 rfl ?_)
  exact ⟨(by first | exact bTrue (by grind) | exact bFalse (by grind) | exact bIff (by grind)), (cb2.t cb4)⟩
 refine sx_skip ?_
 refine q_n (k6 _ _ ?_)
 refine sx_seq fun K10 k10 => ?_
 refine sx_seq fun K11 k11 => sx_region ?_
 refine sp rfl (px_field rfl xfld28x1) ?_
 refine sp rfl (px_load rfl (f8.load1 rfl Tryd.isAgg22)) ?_
 refine sp rfl (px_field rfl xfld28x1) ?_
 refine sp rfl (px_load rfl (fb4.load1 rfl Tryd.isAgg22)) ?_
 have f12 := hv10.ext cb2
 have f13 := f12.ext cb4
 have f14 := hv20.ext cb2
 have f15 := f14.ext cb4
 refine sx_call rfl rfl Tryd.call20 (c_eqIntS f13 f15 (by omega)) (fun v16 w16 p16 => ?_)
 obtain ⟨rfl, c16⟩ := p16
 have zw16 := c16.size
 refine sp rfl (px_notP rfl) ?_
 refine wl_nil (q_n (k11 _ _ ?_))
 refine sx_sub (Sub.c 4 rfl (.c 15 rfl .nil)) ?_
 refine sx_condP rfl (fun h266 => ?_) (fun h266 => ?_)
 ·
  refine sx_seq fun K17 k17 => sx_region ?_
  refine av rfl rfl (wl_nil (q_n (k17 _ _ ?_)))
  refine sx_retc ?_
  refine q_r (sx_ret1 Tryd.results19 rfl ?_)
  exact ⟨(by first | exact bTrue (by grind) | exact bFalse (by grind) | exact bIff (by grind)), ((cb2.t cb4).t c16)⟩
 refine sx_skip ?_
 refine q_n (k10 _ _ ?_)
 refine sx_seq fun K18 k18 => sx_region ?_
 refine av rfl rfl (wl_nil (q_n (k18 _ _ ?_)))
 refine sx_retc ?_
 refine sx_ret1 Tryd.results19 rfl ?_
 exact ⟨(by first | exact bTrue (by grind) | exact bFalse (by grind) | exact bIff (by grind)), ((cb2.t cb4).t c16)⟩

theorem c_eqRat {w : World} {n1 : Bool} {v1 : Value} {lv1 uv1 : Nat} {z1 : List Int} {d1 : Value} {ld1 ud1 : Nat} {y1 : List Int} {n2 : Bool} {v2 : Value} {lv2 uv2 : Nat} {z2 : List Int} {d2 : Value} {ld2 ud2 : Nat} {y2 : List Int} (hv1 : Sl w lv1 uv1 v1 (z1)) (hd1 : Sl w ld1 ud1 d1 (y1)) (hv2 : Sl w lv2 uv2 v2 (z2)) (hd2 : Sl w ld2 ud2 d2 (y2)) (h63 : z1.length ≤ 4611686018427387904 ∧ y1.length ≤ 4611686018427387904 ∧ z2.length ≤ 4611686018427387904 ∧ y2.length ≤ 4611686018427387904) :
  Ret Tryd.prog 8 [.agg #[.bool n1, v1, d1], .agg #[.bool n2, v2, d2]] w fun v w' => v = .bool (decide (n1 = n2 ∧ z1 = z2 ∧ y1 = y2)) ∧ Chg 0 0 w w' := by
 have hv10 := hv1.fit
 have hd10 := hd1.fit
 have hv20 := hv2.fit
 have hd20 := hd2.fit
 refine sx_enter Tryd.func8 rfl Tryd.ntmps8 (nbl rfl) ?_
 refine sx_seq fun K1 k1 => sx_region ?_
 refine sx_box [.bool n1, v1, d1] rfl rfl rfl (fun b2 w3 eb2 sb2 fb2 cb2 => ?_)
 have zw3 := cb2.size
 refine sx_box [.bool n2, v2, d2] rfl rfl rfl (fun b4 w5 eb4 sb4 fb4 cb4 => ?_)
 have zw5 := cb4.size
 refine av rfl rfl (wl_nil (q_n (k1 _ _ ?_)))
 refine sx_seq fun K6 k6 => ?_
 refine sx_seq fun K7 k7 => sx_region ?_
 refine sp rfl (px_field rfl xfld30x0) ?_
 have f8 := fb2.ext cb4
 refine sp rfl (px_load rfl (f8.loadA (vs := [.bool n1, v1]) (look_lit rfl) Tryd.isAgg28 Tryd.sizeOf28)) ?_
 refine sp rfl (px_field rfl xfld30x0) ?_
 refine sp rfl (px_load rfl (fb4.loadA (vs := [.bool n2, v2]) (look_lit rfl) Tryd.isAgg28 Tryd.sizeOf28)) ?_
 have f9 := hv10.ext cb2
 have f10 := f9.ext cb4
 have f11 := hv20.ext cb2
 have f12 := f11.ext cb4
 refine sx_call rfl rfl Tryd.call19 (c_eqSigned f10 f12 (by omega)) (fun v13 w13 p13 => ?_)
 obtain ⟨rfl, c13⟩ := p13
 have zw13 := c13.size
 refine sp rfl (px_notP rfl) ?_
 refine wl_nil (q_n (k7 _ _ ?_))
 refine sx_condP rfl (fun h362 => ?_) (fun h362 => ?_)
 ·
  refine sx_seq fun K14 k14 => sx_region ?_
  refine av rfl rfl (wl_nil (q_n (k14 _ _ ?_)))
  refine sx_retc ?_
  refine q_r (sx_ret1 Tryd.results8 rfl ?_)
  exact ⟨(by first | exact bTrue (by grind) | exact bFalse (by grind) | exact bIff (by grind)), ((cb2.t cb4).t c13)⟩
 refine sx_skip ?_
 refine q_n (k6 _ _ ?_)
 refine sx_seq fun K15 k15 => ?_
 refine sx_seq fun K16 k16 => sx_region ?_
 refine sp rfl (px_field rfl xfld30x1) ?_
 have f17 := f8.ext c13
 refine sp rfl (px_load rfl (f17.load1 rfl Tryd.isAgg22)) ?_
 refine sp rfl (px_field rfl xfld30x1) ?_
 have f18 := fb4.ext c13
 refine sp rfl (px_load rfl (f18.load1 rfl Tryd.isAgg22)) ?_
 have f19 := hd10.ext cb2
 have f20 := f19.ext cb4
 have f21 := f20.ext c13
 have f22 := hd20.ext cb2
 have f23 := f22.ext cb4
 have f24 := f23.ext c13
 refine sx_call rfl rfl Tryd.call20 (c_eqIntS f21 f24 (by omega)) (fun v25 w25 p25 => ?_)
 obtain ⟨rfl, c25⟩ := p25
 have zw25 := c25.size
 refine sp rfl (px_notP rfl) ?_
 refine wl_nil (q_n (k16 _ _ ?_))
 refine sx_sub (Sub.c 4 rfl (.c 16 rfl .nil)) ?_
 refine sx_condP rfl (fun h365 => ?_) (fun h365 => ?_)
 ·
  refine sx_seq fun K26 k26 => sx_region ?_
  refine av rfl rfl (wl_nil (q_n (k26 _ _ ?_)))
  refine sx_retc ?_
  refine q_r (sx_ret1 Tryd.results8 rfl ?_)
  exact ⟨(by first | exact bTrue (by grind) | exact bFalse (by grind) | exact bIff (by grind)), (((cb2.t cb4).t c13).t c25)⟩
 refine sx_skip ?_
 refine q_n (k15 _ _ ?_)
 refine sx_seq fun K27 k27 => sx_region ?_
 refine av rfl rfl (wl_nil (q_n (k27 _ _ ?_)))
 refine sx_retc ?_
 refine sx_ret1 Tryd.results8 rfl ?_
 exact ⟨(by first | exact bTrue (by grind) | exact bFalse (by grind) | exact bIff (by grind)), (((cb2.t cb4).t c13).t c25)⟩

theorem c_eqMoney {w : World} {c1 : ByteArray} {n1 : Bool} {v1 : Value} {lv1 uv1 : Nat} {z1 : List Int} {c2 : ByteArray} {n2 : Bool} {v2 : Value} {lv2 uv2 : Nat} {z2 : List Int} (hv1 : Sl w lv1 uv1 v1 (z1)) (hv2 : Sl w lv2 uv2 v2 (z2)) (h63 : z1.length ≤ 4611686018427387904 ∧ z2.length ≤ 4611686018427387904) :
  Ret Tryd.prog 9 [.agg #[.string c1, .bool n1, v1], .agg #[.string c2, .bool n2, v2]] w fun v w' => v = .bool (decide (c1 = c2 ∧ n1 = n2 ∧ z1 = z2)) ∧ Chg 0 0 w w' := by
 have hv10 := hv1.fit
 have hv20 := hv2.fit
 refine sx_enter Tryd.func9 rfl Tryd.ntmps9 (nbl rfl) ?_
 refine sx_seq fun K1 k1 => sx_region ?_
 refine sx_box [.string c1, .bool n1, v1] rfl rfl rfl (fun b2 w3 eb2 sb2 fb2 cb2 => ?_)
 have zw3 := cb2.size
 refine sx_box [.string c2, .bool n2, v2] rfl rfl rfl (fun b4 w5 eb4 sb4 fb4 cb4 => ?_)
 have zw5 := cb4.size
 refine av rfl rfl (wl_nil (q_n (k1 _ _ ?_)))
 refine sx_seq fun K6 k6 => ?_
 refine sx_seq fun K7 k7 => sx_region ?_
 refine sp rfl (px_field rfl xfld33x0) ?_
 have f8 := fb2.ext cb4
 refine sp rfl (px_load rfl (f8.load1 rfl Tryd.isAgg9)) ?_
 refine sp rfl (px_field rfl xfld33x0) ?_
 refine sp rfl (px_load rfl (fb4.load1 rfl Tryd.isAgg9)) ?_
 refine sp rfl (px_neS rfl rfl) ?_
 refine wl_nil (q_n (k7 _ _ ?_))
 refine sx_condP rfl (fun h447 => ?_) (fun h447 => ?_)
 ·
  refine sx_seq fun K9 k9 => sx_region ?_
  refine av rfl rfl (wl_nil (q_n (k9 _ _ ?_)))
  refine sx_retc ?_
  refine q_r (sx_ret1 Tryd.results9 rfl ?_)
  exact ⟨(by first | exact bTrue (by grind) | exact bFalse (by grind) | exact bIff (by grind)), (cb2.t cb4)⟩
 refine sx_skip ?_
 refine q_n (k6 _ _ ?_)
 refine sx_seq fun K10 k10 => ?_
 refine sx_seq fun K11 k11 => sx_region ?_
 refine sp rfl (px_field rfl xfld33x1) ?_
 refine sp rfl (px_load rfl (f8.loadA (vs := [.bool n1, v1]) (look_lit rfl) Tryd.isAgg28 Tryd.sizeOf28)) ?_
 refine sp rfl (px_field rfl xfld33x1) ?_
 refine sp rfl (px_load rfl (fb4.loadA (vs := [.bool n2, v2]) (look_lit rfl) Tryd.isAgg28 Tryd.sizeOf28)) ?_
 have f12 := hv10.ext cb2
 have f13 := f12.ext cb4
 have f14 := hv20.ext cb2
 have f15 := f14.ext cb4
 refine sx_call rfl rfl Tryd.call19 (c_eqSigned f13 f15 (by omega)) (fun v16 w16 p16 => ?_)
 obtain ⟨rfl, c16⟩ := p16
 have zw16 := c16.size
 refine sp rfl (px_notP rfl) ?_
 refine wl_nil (q_n (k11 _ _ ?_))
 refine sx_sub (Sub.c 4 rfl (.c 15 rfl .nil)) ?_
 refine sx_condP rfl (fun h450 => ?_) (fun h450 => ?_)
 ·
  refine sx_seq fun K17 k17 => sx_region ?_
  refine av rfl rfl (wl_nil (q_n (k17 _ _ ?_)))
  refine sx_retc ?_
  refine q_r (sx_ret1 Tryd.results9 rfl ?_)
  exact ⟨(by first | exact bTrue (by grind) | exact bFalse (by grind) | exact bIff (by grind)), ((cb2.t cb4).t c16)⟩
 refine sx_skip ?_
 refine q_n (k10 _ _ ?_)
 refine sx_seq fun K18 k18 => sx_region ?_
 refine av rfl rfl (wl_nil (q_n (k18 _ _ ?_)))
 refine sx_retc ?_
 refine sx_ret1 Tryd.results9 rfl ?_
 exact ⟨(by first | exact bTrue (by grind) | exact bFalse (by grind) | exact bIff (by grind)), ((cb2.t cb4).t c16)⟩

end Go.Proofs.YtnpjfkhleaegmaaDoor
